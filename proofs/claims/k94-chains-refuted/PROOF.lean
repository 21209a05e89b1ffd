import PyProof.Rows.All
import Wide.All
import OpenK.AllK
import Wide.FinOn
import PySem.Syntax
import PySem.PyData
import PyProof.P3Statements
import PyProof.Claim2
import KE.LtData
import PySem.Eval
import HandS.Comp
import HandS.ForMost
import HandS.ForExc
import HandS.Walk
import HandS.Zip
import HandS.TupAny
import HandS.Flow
import HandS.IsInst
import KE.DataEq
import KE.DataFind
import KE.SortCalls
import KE.SortData
import HandS.Text
import HandS.Sort
import KE.DatumIndex
import HandS.ExcOwn
import HandS.Exc
import HandS.Defaults
import HandS.Rev
import HandS.WordsExc
import HandS.TryOnly
import PyProof.ExcBaseAll.ValueError
import HandS.TupSets
import HandS.SetFor
import HandS.Codes
import HandS.Ends
import PySem.Challenge.RW_rebut_k94_chains_refuted
set_option linter.all false
/-! Q0: values, stores, results, and the combinators that a text is compiled into. -/
namespace Q
open PySem

/-- a value of the program: immutable data, or the place of an object in the store; fls: a list that nobody changes -/
inductive D where
  | non | bl (b : Bool) | int (i : Int) | str (x : Str) | tup (xs : List D) | loc (n : Nat) | fls (xs : List D)
  deriving Inhabited

mutual
def D.beq : D → D → Bool
  | .non, .non => true
  | .bl a, .bl b => a == b
  | .int a, .int b => a == b
  | .str a, .str b => a == b
  | .tup xs, .tup ys => D.beqs xs ys
  | .fls xs, .fls ys => D.beqs xs ys
  | .loc a, .loc b => a == b
  | _, _ => false
def D.beqs : List D → List D → Bool
  | [], [] => true
  | x :: xs, y :: ys => D.beq x y && D.beqs xs ys
  | _, _ => false
end
mutual
theorem D.beq_iff : ∀ a b : D, D.beq a b = true ↔ a = b
  | .non, b => by cases b <;> simp [D.beq]
  | .bl a, b => by cases b <;> simp [D.beq]
  | .int a, b => by cases b <;> simp [D.beq]
  | .str a, b => by cases b <;> simp [D.beq]
  | .loc a, b => by cases b <;> simp [D.beq]
  | .tup xs, b => by cases b <;> simp [D.beq, D.beqs_iff xs]
  | .fls xs, b => by cases b <;> simp [D.beq, D.beqs_iff xs]
theorem D.beqs_iff : ∀ a b : List D, D.beqs a b = true ↔ a = b
  | [], [] => by simp [D.beqs]
  | [], _ :: _ => by simp [D.beqs]
  | _ :: _, [] => by simp [D.beqs]
  | x :: xs, y :: ys => by simp [D.beqs, D.beq_iff x, D.beqs_iff xs]
end
instance : DecidableEq D := fun a b => decidable_of_iff _ (D.beq_iff a b)

mutual
def D.low (n : Nat) : D → Bool
  | .tup xs => D.lows n xs
  | .fls xs => D.lows n xs
  | .loc k => decide (k < n)
  | _ => true
def D.lows (n : Nat) : List D → Bool
  | [] => true
  | x :: xs => D.low n x && D.lows n xs
end

/-- an object of the store -/
inductive O where
  | lst (xs : List D) | inst (c : Str) (fs : List (Str × D)) | dct (kvs : List (D × D))
  deriving DecidableEq, Inhabited
abbrev Store := List O

structure Exn where
  cls : Str
  fs : List (Str × D)

inductive R (α : Type) where
  | ok (a : α) (st : Store) | exc (x : Exn) (st : Store) | bad
def R.bind {α β : Type} (r : R α) (f : α → Store → R β) : R β := match r with
  | .ok a st => f a st
  | .exc x st => .exc x st
  | .bad => .bad
@[simp] theorem R.bind_ok {α β : Type} (a : α) (st : Store) (f : α → Store → R β) : (R.ok a st).bind f = f a st := rfl
@[simp] theorem R.bind_bad {α β : Type} (f : α → Store → R β) : (R.bad : R α).bind f = .bad := rfl
@[simp] theorem R.bind_exc {α β : Type} (x : Exn) (st : Store) (f : α → Store → R β) : (R.exc x st : R α).bind f = .exc x st := rfl

abbrev Slots := List (Option D)
/-- what an expression gives: a list that nobody else holds, or a value -/
inductive SV where
  | fr (xs : List D) | vl (d : D)
/-- what may be called: the defs; which def a method's name means at an instance of a class -/
structure Calls where
  call : Str → List D → Store → R SV
  meth : Str → Str → Option Str
abbrev Ev := Calls → Slots → Store → R SV
abbrev Et := Calls → Slots → Store → R Bool

inductive SR where
  | nx (env : Slots) (st : Store) | rt (d : D) (st : Store) | bk (env : Slots) (st : Store) | ct (env : Slots) (st : Store)
  | exc (x : Exn) (env : Slots) (st : Store) | bad
abbrev Es := Calls → Slots → Store → SR

/-- an option is a result, none is no answer -/
def R.ofO {α : Type} (o : Option α) (st : Store) : R α := match o with
  | some a => .ok a st
  | none => .bad
@[simp] theorem R.ofO_some {α : Type} (a : α) (st : Store) : R.ofO (some a) st = .ok a st := rfl
@[simp] theorem R.ofO_none {α : Type} (st : Store) : R.ofO (none : Option α) st = .bad := rfl

/-- a fresh list is laid into the store -/
def settle (v : SV) (st : Store) : R D := match v with
  | .fr xs => .ok (.loc st.length) (st ++ [.lst xs])
  | .vl d => .ok d st
@[simp] theorem settle_fr (xs : List D) (st : Store) : settle (.fr xs) st = .ok (.loc st.length) (st ++ [.lst xs]) := rfl
@[simp] theorem settle_vl (d : D) (st : Store) : settle (.vl d) st = .ok d st := rfl
def val (e : Ev) (C : Calls) (env : Slots) (st : Store) : R D := (e C env st).bind settle

def szl : Nat := 16777216

/-- the items of what can be walked or counted: a list, a tuple -/
def items (st : Store) (v : SV) : Option (List D) := match v with
  | .fr xs => some xs
  | .vl (.tup xs) => some xs
  | .vl (.fls xs) => some xs
  | .vl (.loc n) => match st[n]? with
    | some (.lst xs) => some xs
    | _ => none
  | _ => none
/-- the items of a list, to be read -/
def lits (st : Store) (v : SV) : Option (List D) := match v with
  | .fr xs => some xs
  | .vl (.fls xs) => some xs
  | .vl (.loc n) => match st[n]? with
    | some (.lst xs) => some xs
    | _ => none
  | _ => none
@[simp] theorem lits_fr (st : Store) (xs : List D) : lits st (.fr xs) = some xs := rfl
theorem lits_lst {st : Store} {n : Nat} {xs : List D} (h : st[n]? = some (.lst xs)) : lits st (.vl (.loc n)) = some xs := by simp [lits, h]
@[simp] theorem items_fr (st : Store) (xs : List D) : items st (.fr xs) = some xs := rfl
@[simp] theorem items_tup (st : Store) (xs : List D) : items st (.vl (.tup xs)) = some xs := rfl
theorem items_lst {st : Store} {n : Nat} {xs : List D} (h : st[n]? = some (.lst xs)) : items st (.vl (.loc n)) = some xs := by simp [items, h]
@[simp] theorem items_fls (st : Store) (xs : List D) : items st (.vl (.fls xs)) = some xs := rfl
@[simp] theorem lits_fls (st : Store) (xs : List D) : lits st (.vl (.fls xs)) = some xs := rfl

/-! ### data: equality and order -/
mutual
/-- as plain data; a place is none -/
def D.py : D → Option PyData
  | .non => some .none
  | .bl b => some (.bool b)
  | .int i => some (.int i)
  | .str x => some (.str x)
  | .tup xs => (D.pys xs).map .tuple
  | .loc _ => none
  | .fls xs => (D.pys xs).map .list
def D.pys : List D → Option (List PyData)
  | [] => some []
  | x :: xs => match D.py x, D.pys xs with
    | some a, some as => some (a :: as)
    | _, _ => none
end
/-- a value with lists in it, as plain data (lists one deep) -/
def svPy (st : Store) (v : SV) : Option PyData := match v with
  | .fr xs => (D.pys xs).map .list
  | .vl (.loc n) => match st[n]? with
    | some (.lst xs) => (D.pys xs).map .list
    | _ => none
  | .vl (.fls xs) => (D.pys xs).map .list
  | .vl d => d.py
def deepLine : Nat := 60
def pyEq (a b : PyData) : Option Bool := if a.depth ≤ deepLine ∧ b.depth ≤ deepLine then some (PyData.eqv a b) else none
def svEq (st : Store) (a b : SV) : Option Bool := match svPy st a, svPy st b with
  | some x, some y => pyEq x y
  | _, _ => none
/-- x is among the items -/
def pyIn (x : PyData) (ys : List PyData) : Option Bool := if x.depth ≤ deepLine ∧ PyData.depthAll ys ≤ deepLine then some (ys.any fun y => PyData.eqv y x) else none
def svIn (st : Store) (x c : SV) : Option Bool := match svPy st x, items st c with
  | some a, some ys => match D.pys ys with
    | some bs => pyIn a bs
    | none => none
  | _, _ => none
def pyNone : PyData → Bool
  | .none => true
  | _ => false
def pyLt (a b : PyData) : Option Bool := if PySem.W.alike a b = true ∧ pyNone a = false ∧ a.depth ≤ deepLine ∧ b.depth ≤ deepLine then some (PySem.W.dataLt a b) else none

/-! ### operators -/
def mulOk (i j : Int) : Prop := (-(2 ^ 64) < i ∧ i < 2 ^ 64) ∨ (-(2 ^ 64) < j ∧ j < 2 ^ 64)
instance (i j : Int) : Decidable (mulOk i j) := by unfold mulOk; infer_instance
def divOk (j : Int) : Prop := 0 < j ∧ j < 1073741824
instance (j : Int) : Decidable (divOk j) := by unfold divOk; infer_instance
def powOk (i j : Int) : Prop := 0 ≤ j ∧ j ≤ 1000000 ∧ i.natAbs < 2 ^ 64
instance (i j : Int) : Decidable (powOk i j) := by unfold powOk; infer_instance

/-- a list that stands in the store to be changed, or nobody else holds -/
def lstOf (st : Store) (v : SV) : Option (List D) := match v with
  | .fr xs => some xs
  | .vl (.loc n) => match st[n]? with
    | some (.lst xs) => some xs
    | _ => none
  | _ => none
def binInt (op : Operator) (i j : Int) : Option SV := match op with
  | .Add => some (.vl (.int (i + j)))
  | .Sub => some (.vl (.int (i - j)))
  | .Mult => if mulOk i j then some (.vl (.int (i * j))) else none
  | .FloorDiv => if divOk j then some (.vl (.int (i / j))) else none
  | .Mod => if 0 < j then some (.vl (.int (i % j))) else none
  | .Pow => if powOk i j then some (.vl (.int (i ^ j.toNat))) else none
  | .LShift => if powOk i j then some (.vl (.int (i * 2 ^ j.toNat))) else none
  | _ => none
def binop (op : Operator) (st : Store) (a b : SV) : Option SV := match a, b with
  | .vl (.int i), .vl (.int j) => binInt op i j
  | .vl (.str x), .vl (.str y) => if op = .Add ∧ x.length + y.length ≤ szl then some (.vl (.str (x ++ y))) else none
  | .vl (.tup xs), .vl (.tup ys) => if op = .Add ∧ xs.length + ys.length ≤ szl then some (.vl (.tup (xs ++ ys))) else none
  | a, .vl (.int k) => match lstOf st a with
    | some xs => if op = .Mult ∧ k < 2 ^ 62 ∧ -(2 ^ 62) < k ∧ xs.length * k.toNat ≤ szl then some (.fr (List.replicate k.toNat xs).flatten) else none
    | _ => none
  | a, b => match lstOf st a, lstOf st b with
    | some xs, some ys => if op = .Add ∧ xs.length + ys.length ≤ szl then some (.fr (xs ++ ys)) else none
    | _, _ => none
def cmpInt (op : CmpOp) (i j : Int) : Option Bool := match op with
  | .Lt => some (decide (i < j))
  | .LtE => some (decide (i ≤ j))
  | .Gt => some (decide (j < i))
  | .GtE => some (decide (j ≤ i))
  | _ => none
def cmpOrd (op : CmpOp) (st : Store) (a b : SV) : Option Bool := match a, b with
  | .vl (.int i), .vl (.int j) => cmpInt op i j
  | a, b => if op = .Lt then (match svPy st a, svPy st b with
      | some x, some y => pyLt x y
      | _, _ => none) else none
def cmp (op : CmpOp) (st : Store) (a b : SV) : Option Bool := match op with
  | .Eq => svEq st a b
  | .NotEq => (svEq st a b).map (!·)
  | .In => svIn st a b
  | .NotIn => (svIn st a b).map (!·)
  | .Is => none
  | .IsNot => none
  | op => cmpOrd op st a b
/-- truth -/
def tru (st : Store) (v : SV) : Option Bool := match v with
  | .fr xs => some (!xs.isEmpty)
  | .vl .non => some false
  | .vl (.bl b) => some b
  | .vl (.int i) => some (i != 0)
  | .vl (.str x) => if x.length ≤ szl then some (x.length != 0) else none
  | .vl (.tup xs) => some (!xs.isEmpty)
  | .vl (.loc n) => match st[n]? with
    | some (.lst xs) => some (!xs.isEmpty)
    | _ => none
  | .vl (.fls xs) => some (!xs.isEmpty)

/-! ### expressions -/
def eVar (i : Nat) : Ev := fun _ env st => match env[i]? with
  | some (some d) => .ok (.vl d) st
  | _ => .bad
def eC (d : D) : Ev := fun _ _ st => .ok (.vl d) st
def eBin (op : Operator) (a b : Ev) : Ev := fun C env st => (a C env st).bind fun x s1 => (b C env s1).bind fun y s2 => .ofO (binop op s2 x y) s2
def eNeg (a : Ev) : Ev := fun C env st => (a C env st).bind fun x s1 => match x with
  | .vl (.int i) => .ok (.vl (.int (-i))) s1
  | _ => .bad
/-- a test as a value -/
def eTest (t : Et) : Ev := fun C env st => (t C env st).bind fun b s1 => .ok (.vl (.bl b)) s1
/-- and, or, not of values -/
def eNot (a : Ev) : Ev := fun C env st => (a C env st).bind fun x s1 => match tru s1 x with
  | some b => .ok (.vl (.bl (!b))) s1
  | none => .bad
def eAnd (a b : Ev) : Ev := fun C env st => (a C env st).bind fun x s1 => match tru s1 x with
  | some true => b C env s1
  | some false => .ok x s1
  | none => .bad
def eOr (a b : Ev) : Ev := fun C env st => (a C env st).bind fun x s1 => match tru s1 x with
  | some true => .ok x s1
  | some false => b C env s1
  | none => .bad
def eIf (t : Et) (a b : Ev) : Ev := fun C env st => (t C env st).bind fun c s1 => if c = true then a C env s1 else b C env s1
def evs : List Ev → Calls → Slots → Store → R (List D)
  | [], _, _, st => .ok [] st
  | e :: es, C, env, st => (val e C env st).bind fun d s1 => (evs es C env s1).bind fun ds s2 => .ok (d :: ds) s2
def eTup (es : List Ev) : Ev := fun C env st => (evs es C env st).bind fun ds s1 => .ok (.vl (.tup ds)) s1
def eLst (es : List Ev) : Ev := fun C env st => (evs es C env st).bind fun ds s1 => .ok (.fr ds) s1

/-- a list that nobody else holds will not be changed -/
def eFrz (e : Ev) : Ev := fun C env st => (e C env st).bind fun v s1 => match v with
  | .fr xs => .ok (.vl (.fls xs)) s1
  | .vl d => .ok (.vl d) s1

/-! tests -/
def tTru (e : Ev) : Et := fun C env st => (e C env st).bind fun x s1 => .ofO (tru s1 x) s1
def tCmp (op : CmpOp) (a b : Ev) : Et := fun C env st => (a C env st).bind fun x s1 => (b C env s1).bind fun y s2 => .ofO (cmp op s2 x y) s2
/-- a op b op' c -/
def tChain (op op' : CmpOp) (a b c : Ev) : Et := fun C env st => (a C env st).bind fun x s1 => (b C env s1).bind fun y s2 => match cmp op s2 x y with
  | some true => (c C env s2).bind fun z s3 => .ofO (cmp op' s3 y z) s3
  | some false => .ok false s2
  | none => .bad
def isNon : SV → Bool
  | .vl .non => true
  | _ => false
def tIsN (a : Ev) : Et := fun C env st => (a C env st).bind fun x s1 => .ok (isNon x) s1
def tNotN (a : Ev) : Et := fun C env st => (a C env st).bind fun x s1 => .ok (!isNon x) s1
def tNot (t : Et) : Et := fun C env st => (t C env st).bind fun b s1 => .ok (!b) s1
def tAnd (t u : Et) : Et := fun C env st => (t C env st).bind fun b s1 => if b = true then u C env s1 else .ok false s1
def tOr (t u : Et) : Et := fun C env st => (t C env st).bind fun b s1 => if b = true then .ok true s1 else u C env s1
/-- x in range(n) -/
def tInRange (a n : Ev) : Et := fun C env st => (a C env st).bind fun x s1 => (n C env s1).bind fun y s2 => match x, y with
  | .vl (.int i), .vl (.int j) => if -(2 ^ 62) ≤ j ∧ j < 2 ^ 62 then .ok (decide (0 ≤ i ∧ i < j)) s2 else .bad
  | _, _ => .bad

/-! what is walked: the items, and the lists that must stand as they are meanwhile -/
/-- an item: a value, or two that come together -/
inductive It where
  | one (d : D) | two (a b : D)
abbrev Guards := List (Nat × O)
abbrev Esrc := Calls → Slots → Store → R (List It × Guards)
def guardOk (st : Store) (gs : Guards) : Bool := gs.all fun g => decide (st[g.1]? = some g.2)
def walked (st : Store) (v : SV) : Option (List D × Guards) := match v with
  | .fr xs => some (xs, [])
  | .vl (.tup xs) => some (xs, [])
  | .vl (.fls xs) => some (xs, [])
  | .vl (.loc n) => match st[n]? with
    | some (.lst xs) => some (xs, [(n, .lst xs)])
    | _ => none
  | _ => none
def isTupV : SV → Bool
  | .vl (.tup _) => true
  | _ => false
def srcOf (e : Ev) : Esrc := fun C env st => (e C env st).bind fun v s1 => match walked s1 v with
  | some p => .ok (p.1.map .one, p.2) s1
  | none => .bad
def midInt (i : Int) : Prop := -(2 ^ 62) ≤ i ∧ i < 2 ^ 62
instance (i : Int) : Decidable (midInt i) := by unfold midInt; infer_instance
def ups (lo : Int) (n : Nat) : List It := (List.range n).map fun (i : Nat) => .one (.int (lo + (i : Int)))
def srcRange1 (a : Ev) : Esrc := fun C env st => (a C env st).bind fun v s1 => match v with
  | .vl (.int j) => if midInt j then .ok (ups 0 j.toNat, []) s1 else .bad
  | _ => .bad
def srcRange2 (a b : Ev) : Esrc := fun C env st => (a C env st).bind fun v s1 => (b C env s1).bind fun u s2 => match v, u with
  | .vl (.int i), .vl (.int j) => if midInt i ∧ midInt j then .ok (ups i (j - i).toNat, []) s2 else .bad
  | _, _ => .bad
/-- range(a, b, -1) -/
def srcDown (a b : Ev) : Esrc := fun C env st => (a C env st).bind fun v s1 => (b C env s1).bind fun u s2 => match v, u with
  | .vl (.int i), .vl (.int j) => if midInt i ∧ midInt j then .ok ((List.range (i - j).toNat).map fun (m : Nat) => .one (.int (i - (m : Int))), []) s2 else .bad
  | _, _ => .bad
def pairUp : Nat → List D → List It
  | _, [] => []
  | k, x :: xs => .two (.int k) x :: pairUp (k + 1) xs
def srcEnum (e : Ev) : Esrc := fun C env st => (e C env st).bind fun v s1 => if isTupV v = true then .bad else match walked s1 v with
  | some p => .ok (pairUp 0 p.1, p.2) s1
  | none => .bad
def zipUp : List D → List D → List It
  | x :: xs, y :: ys => .two x y :: zipUp xs ys
  | _, _ => []
def srcZip (a b : Ev) : Esrc := fun C env st => (a C env st).bind fun v s1 => (b C env s1).bind fun u s2 => match walked s2 v, walked s2 u with
  | some p, some q => if isTupV v = isTupV u then .ok (zipUp p.1 q.1, p.2 ++ q.2) s2 else .bad
  | _, _ => .bad
def srcRev (e : Ev) : Esrc := fun C env st => (e C env st).bind fun v s1 => match walked s1 v with
  | some p => .ok (p.1.reverse.map .one, p.2) s1
  | none => .bad

/-! targets -/
inductive Tgt where
  | nm (i : Nat) | tp (ts : List Tgt)
mutual
def Tgt.slots : Tgt → List Nat
  | .nm i => [i]
  | .tp ts => Tgt.slotss ts
def Tgt.slotss : List Tgt → List Nat
  | [] => []
  | t :: ts => Tgt.slots t ++ Tgt.slotss ts
end
mutual
def asg : Tgt → D → Slots → Option Slots
  | .nm i, d, env => some (env.set i (some d))
  | .tp ts, d, env => match d with
    | .tup ds => asgs ts ds env
    | _ => none
def asgs : List Tgt → List D → Slots → Option Slots
  | [], [], env => some env
  | t :: ts, d :: ds, env => match asg t d env with
    | some e => asgs ts ds e
    | none => none
  | _, _, _ => none
end
def asgI (t : Tgt) (x : It) (env : Slots) : Option Slots := match x with
  | .one d => asg t d env
  | .two a b => match t with
    | .tp ts => asgs ts [a, b] env
    | _ => none
def wipeS (env : Slots) : List Nat → Slots
  | [] => env
  | v :: vs => (wipeS env vs).set v none

/-! comprehensions -/
def compLoop (C : Calls) (t : Tgt) (test : Et) (elt : Ev) (gs : Guards) (env : Slots) : List It → Store → R (List D)
  | [], st => if guardOk st gs = true then .ok [] st else .bad
  | x :: xs, st => if guardOk st gs = true then (match asgI t x env with
    | none => .bad
    | some env1 => match test C env1 st with
      | .ok true s1 => (match val elt C env1 s1 with
        | .ok d s2 => (compLoop C t test elt gs env xs s2).bind fun ds s3 => .ok (d :: ds) s3
        | _ => .bad)
      | .ok false s1 => compLoop C t test elt gs env xs s1
      | _ => .bad) else .bad
def tYes : Et := fun _ _ st => .ok true st
def eComp (own : List Nat) (src : Esrc) (t : Tgt) (test : Et) (elt : Ev) : Ev := fun C env st => (src C env st).bind fun p s1 => if p.1.length ≤ szl then (compLoop C t test elt p.2 (wipeS env own) p.1 s1).bind fun ds s2 => .ok (.fr ds) s2 else .bad
/-- two clauses -/
def comp2Loop (C : Calls) (t : Tgt) (test : Et) (own1 : List Nat) (src1 : Esrc) (t1 : Tgt) (test1 : Et) (elt : Ev) (gs : Guards) (env : Slots) : List It → Store → R (List D)
  | [], st => if guardOk st gs = true then .ok [] st else .bad
  | x :: xs, st => if guardOk st gs = true then (match asgI t x env with
    | none => .bad
    | some env1 => match test C env1 st with
      | .ok true s1 => (match src1 C env1 s1 with
        | .ok p s2 => (match compLoop C t1 test1 elt p.2 (wipeS env1 own1) p.1 s2 with
          | .ok d s3 => (comp2Loop C t test own1 src1 t1 test1 elt gs env xs s3).bind fun ds s4 => if d.length + ds.length ≤ szl then .ok (d ++ ds) s4 else .bad
          | _ => .bad)
        | _ => .bad)
      | .ok false s1 => comp2Loop C t test own1 src1 t1 test1 elt gs env xs s1
      | _ => .bad) else .bad
def eComp2 (own : List Nat) (src : Esrc) (t : Tgt) (test : Et) (own1 : List Nat) (src1 : Esrc) (t1 : Tgt) (test1 : Et) (elt : Ev) : Ev := fun C env st => (src C env st).bind fun p s1 =>
  (comp2Loop C t test own1 src1 t1 test1 elt p.2 (wipeS env own) p.1 s1).bind fun ds s2 => .ok (.fr ds) s2

/-! subscripts, fields, calls -/
def nthI {α : Type} (xs : List α) (i : Int) : Option α := if 0 ≤ i then xs[i.toNat]? else if -(xs.length : Int) ≤ i then xs[(i + xs.length).toNat]? else none
def eIx (a b : Ev) : Ev := fun C env st => (a C env st).bind fun x s1 => (b C env s1).bind fun y s2 => match y with
  | .vl (.int i) => (match x with
    | .vl (.str z) => if z.length ≤ szl then (match nthI z.cps.toList i with
      | some c => .ok (.vl (.str ⟨#[c]⟩)) s2
      | none => .bad) else .bad
    | x => match items s2 x with
      | some xs => (match nthI xs i with
        | some d => .ok (.vl d) s2
        | none => .bad)
      | none => .bad)
  | _ => .bad
/-- the end of a slice: a number or none -/
def eEnd (e : Option Ev) : Calls → Slots → Store → R (Option Int) := fun C env st => match e with
  | none => .ok none st
  | some e => (e C env st).bind fun v s1 => match v with
    | .vl (.int i) => .ok (some i) s1
    | _ => .bad
def sIx (n d : Nat) : Option Int → Nat
  | none => d
  | some i => if i < 0 then (i + (n : Int)).toNat else min i.toNat n
def cut {α : Type} (xs : List α) (lo hi : Option Int) : List α := (xs.drop (sIx xs.length 0 lo)).take (sIx xs.length xs.length hi - sIx xs.length 0 lo)
def sliced (st : Store) (x : SV) (lo hi : Option Int) : Option SV := match x with
  | .vl (.tup xs) => some (.vl (.tup (cut xs lo hi)))
  | .vl (.str z) => if z.length ≤ szl then some (.vl (.str ⟨(cut z.cps.toList lo hi).toArray⟩)) else none
  | x => match lits st x with
    | some xs => some (.fr (cut xs lo hi))
    | none => none
def eSl (a : Ev) (lo hi : Option Ev) : Ev := fun C env st => (a C env st).bind fun x s1 => (eEnd lo C env s1).bind fun l s2 => (eEnd hi C env s2).bind fun h s3 => .ofO (sliced s3 x l h) s3
def eFld (a : Ev) (f : Str) : Ev := fun C env st => (a C env st).bind fun x s1 => match x with
  | .vl (.loc n) => (match s1[n]? with
    | some (.inst _ fs) => (match fs.lookup f with
      | some d => .ok (.vl d) s1
      | none => .bad)
    | _ => .bad)
  | _ => .bad

def eCall (f : Str) (args : List Ev) : Ev := fun C env st => (evs args C env st).bind fun ds s1 => C.call f ds s1
/-- o.m(..) of an instance -/
def eMeth (a : Ev) (m : Str) (args : List Ev) : Ev := fun C env st => (a C env st).bind fun x s1 => match x with
  | .vl (.loc n) => (match s1[n]? with
    | some (.inst c fs) => if fs.lookup m = none then (match C.meth c m with
      | some f => (evs args C env s1).bind fun ds s2 => C.call f (.loc n :: ds) s2
      | none => .bad) else .bad
    | _ => .bad)
  | _ => .bad
/-- C(..): a new instance, then __init__ -/
def eNew (c : Str) (init : Str) (args : List Ev) : Ev := fun C env st => (evs args C env st).bind fun ds s1 => (C.call init (.loc s1.length :: ds) (s1 ++ [.inst c []])).bind fun d s2 => match d with
  | .vl .non => .ok (.vl (.loc s1.length)) s2
  | _ => .bad

/-! built-in functions -/
def eOn (g : Store → SV → Option SV) (a : Ev) : Ev := fun C env st => (a C env st).bind fun x s1 => .ofO (g s1 x) s1
def gLen (st : Store) (v : SV) : Option SV := match v with
  | .vl (.str x) => if x.length ≤ szl then some (.vl (.int x.length)) else none
  | v => (items st v).map fun xs => .vl (.int xs.length)
def gAbs (_ : Store) (v : SV) : Option SV := match v with
  | .vl (.int i) => some (.vl (.int (if i < 0 then -i else i)))
  | _ => none
def gInt (_ : Store) (v : SV) : Option SV := match v with
  | .vl (.int i) => some (.vl (.int i))
  | .vl (.bl b) => some (.vl (.int (if b then 1 else 0)))
  | _ => none
def dBools : List D → Option (List Bool)
  | [] => some []
  | .bl b :: xs => (dBools xs).map (b :: ·)
  | _ => none
def dInts : List D → Option (List Int)
  | [] => some []
  | .int i :: xs => (dInts xs).map (i :: ·)
  | _ => none
def gAll (st : Store) (v : SV) : Option SV := match lstOf st v with
  | some xs => (dBools xs).map fun bs => .vl (.bl (bs.all id))
  | none => none
def gSum (st : Store) (v : SV) : Option SV := match lstOf st v with
  | some xs => (dInts xs).map fun is => .vl (.int is.sum)
  | none => none
def gTuple (st : Store) (v : SV) : Option SV := (items st v).map fun xs => .vl (.tup xs)
def gList (st : Store) (v : SV) : Option SV := (items st v).map fun xs => .fr xs
def isA (st : Store) (v : SV) (t : Str) : Option Bool := match v with
  | .vl (.int _) => some (t == "int")
  | .vl (.bl _) => some (t == "bool" || t == "int")
  | .vl (.str _) => some (t == "str")
  | .vl .non => some false
  | .vl (.tup _) => some (t == "tuple")
  | .fr _ => some (t == "list")
  | .vl (.fls _) => some (t == "list")
  | .vl (.loc n) => match st[n]? with
    | some (.lst _) => some (t == "list")
    | _ => none
def isaTypes : List Str := ["int", "bool", "str", "tuple", "list"]
def gIsA (t : Str) (st : Store) (v : SV) : Option SV := if t ∈ isaTypes then (isA st v t).map fun b => .vl (.bl b) else none
def eMax2 (a b : Ev) : Ev := fun C env st => (a C env st).bind fun x s1 => (b C env s1).bind fun y s2 => match x, y with
  | .vl (.int i), .vl (.int j) => .ok (.vl (.int (if j > i then j else i))) s2
  | _, _ => .bad
def eMin2 (a b : Ev) : Ev := fun C env st => (a C env st).bind fun x s1 => (b C env s1).bind fun y s2 => match x, y with
  | .vl (.int i), .vl (.int j) => .ok (.vl (.int (if j < i then j else i))) s2
  | _, _ => .bad
/-- the order of sorting -/
def dData (a : D) : PyData := a.py.getD .none
def dLe (a b : D) : Bool := !PySem.W.dataLt (dData b) (dData a)
def allAlike (ds : List PyData) : Bool := ds.all fun x => ds.all fun y => PySem.W.alike x y
def pyTup : PyData → Bool
  | .tuple _ => true
  | _ => false
def pyTup1 : PyData → Bool
  | .tuple (_ :: _) => true
  | _ => false
def sortable (ds : List PyData) : Bool := (ds.all pyTup1 || ds.all fun x => !pyTup x && !pyNone x) && allAlike ds && ds.all fun x => decide (x.depth ≤ deepLine)
/-! sorting, so that the kernel can reckon it -/
def mrg {α : Type} (le : α → α → Bool) : Nat → List α → List α → List α
  | 0, _, _ => []
  | n + 1, xs, ys => match xs, ys with
    | [], ys => ys
    | xs, [] => xs
    | x :: xs, y :: ys => if le x y = true then x :: mrg le n xs (y :: ys) else y :: mrg le n (x :: xs) ys
def msort {α : Type} (le : α → α → Bool) : Nat → List α → List α
  | 0, xs => xs
  | n + 1, xs => match xs with
    | [] => []
    | [a] => [a]
    | a :: b :: xs => mrg le (xs.length + 3) (msort le n ((a :: b :: xs).take ((xs.length + 3) / 2))) (msort le n ((a :: b :: xs).drop ((xs.length + 3) / 2)))
theorem mrg_eq {α : Type} (le : α → α → Bool) : ∀ (n : Nat) (xs ys : List α), xs.length + ys.length < n → mrg le n xs ys = List.merge xs ys le
  | 0, xs, ys, h => absurd h (Nat.not_lt_zero _)
  | n + 1, [], ys, h => by simp [mrg]
  | n + 1, x :: xs, [], h => by simp [mrg]
  | n + 1, x :: xs, y :: ys, h => by
    simp only [List.length_cons] at h
    rw [mrg, List.merge]
    rw [mrg_eq le n xs (y :: ys) (by simp only [List.length_cons]; omega), mrg_eq le n (x :: xs) ys (by simp only [List.length_cons]; omega)]
theorem msort_eq {α : Type} (le : α → α → Bool) : ∀ (n : Nat) (xs : List α), xs.length ≤ n → msort le n xs = xs.mergeSort le
  | 0, xs, h => by
    obtain rfl : xs = [] := List.eq_nil_of_length_eq_zero (by omega)
    simp [msort]
  | n + 1, [], h => by simp [msort]
  | n + 1, [a], h => by simp [msort]
  | n + 1, a :: b :: xs, h => by
    simp only [List.length_cons] at h
    rw [msort, List.mergeSort]
    have h1 := msort_eq le n ((a :: b :: xs).take ((xs.length + 3) / 2)) (by simp only [List.length_take, List.length_cons]; omega)
    have h2 := msort_eq le n ((a :: b :: xs).drop ((xs.length + 3) / 2)) (by simp only [List.length_drop, List.length_cons]; omega)
    rw [h1, h2, mrg_eq le _ _ _ (by simp only [List.length_mergeSort, List.length_take, List.length_drop, List.length_cons]; omega)]
    simp only [List.MergeSort.Internal.splitInTwo, List.splitAt_eq, List.length_cons]
def sortD (xs : List D) : Option (List D) := match D.pys xs with
  | some ds => if sortable ds = true then some (msort dLe xs.length xs) else none
  | none => none
theorem sortD_eq (xs : List D) : sortD xs = match D.pys xs with
  | some ds => if sortable ds = true then some (xs.mergeSort dLe) else none
  | none => none := by
  unfold sortD
  rw [msort_eq dLe xs.length xs (Nat.le_refl _)]
def gSorted (st : Store) (v : SV) : Option SV := match lits st v with
  | some xs => if xs.length ≤ szl then (sortD xs).map .fr else none
  | none => none
/-- the first of each, in the order in which they came -/
def firsts (xs : List D) : List D := xs.foldl (fun acc x => if x ∈ acc then acc else acc ++ [x]) []
/-- what may stand in a set here: dInts; tuples of dInts -/
def isIntD : D → Bool
  | .int _ => true
  | _ => false
def isIntTup : D → Bool
  | .tup xs => xs.all isIntD
  | _ => false
/-- the members of set(x), by data -/
def setD (st : Store) (v : SV) : Option (List D) := match items st v with
  | some xs => if xs.all isIntD = true ∧ xs.length < 4000 then some (firsts xs) else if xs.all isIntTup = true ∧ xs.length < 64 ∧ isTupV v = false then some (firsts xs) else none
  | none => none
/-- sorted(set(x)) -/
def gSortSet (st : Store) (v : SV) : Option SV := match setD st v with
  | some xs => (sortD xs).map .fr
  | none => none
/-- len(set(x)) -/
def gLenSet (st : Store) (v : SV) : Option SV := (setD st v).map fun xs => .vl (.int xs.length)
/-- x.index(y) -/
def eIndex (a b : Ev) : Ev := fun C env st => (a C env st).bind fun x s1 => if (items s1 x).isSome = true then ((b C env s1).bind fun y s2 => match svPy s2 y, items s2 x with
  | some d, some xs => (match D.pys xs with
    | some ds => if d.depth ≤ deepLine ∧ PyData.depthAll ds ≤ deepLine ∧ xs.length ≤ szl then (match ds.findIdx? fun z => PyData.eqv z d with
      | some j => .ok (.vl (.int j)) s2
      | none => .bad) else .bad
    | none => .bad)
  | _, _ => .bad) else .bad

/-! methods that change a list -/
/-- the list of the store at n -/
def lstAt (st : Store) (v : SV) : Option (Nat × List D) := match v with
  | .vl (.loc n) => match st[n]? with
    | some (.lst xs) => some (n, xs)
    | _ => none
  | _ => none
/-- o.append(e): o is looked at first, then e -/
def eAppend (a e : Ev) : Ev := fun C env st => (a C env st).bind fun x s1 => if (lstAt s1 x).isSome = true then ((val e C env s1).bind fun d s2 => match lstAt s2 x with
  | some p => if p.2.length < szl then .ok (.vl .non) (s2.set p.1 (.lst (p.2 ++ [d]))) else .bad
  | none => .bad) else .bad
def eExtend (a e : Ev) : Ev := fun C env st => (a C env st).bind fun x s1 => if (lstAt s1 x).isSome = true then ((e C env s1).bind fun v s2 => match lstOf s2 v with
  | some ys => (match lstAt s2 x with
    | some p => if p.2.length + ys.length ≤ szl then .ok (.vl .non) (s2.set p.1 (.lst (p.2 ++ ys))) else .bad
    | none => .bad)
  | none => .bad) else .bad
def ePop (a : Ev) : Ev := fun C env st => (a C env st).bind fun x s1 => match lstAt s1 x with
  | some p => (match p.2.getLast? with
    | some d => .ok (.vl d) (s1.set p.1 (.lst p.2.dropLast))
    | none => .bad)
  | none => .bad

/-! ### statements -/
def sNext : Es := fun _ env st => .nx env st
def sSeq (a b : Es) : Es := fun C env st => match a C env st with
  | .nx e1 s1 => b C e1 s1
  | r => r
/-- an expression's result goes on to a statement's end -/
def R.to (r : R α) (env : Slots) (f : α → Store → SR) : SR := match r with
  | .ok a st => f a st
  | .exc x st => .exc x env st
  | .bad => .bad
@[simp] theorem R.to_ok {α : Type} (a : α) (st : Store) (env : Slots) (f : α → Store → SR) : (R.ok a st).to env f = f a st := rfl
@[simp] theorem R.to_exc {α : Type} (x : Exn) (st : Store) (env : Slots) (f : α → Store → SR) : (R.exc x st : R α).to env f = .exc x env st := rfl
@[simp] theorem R.to_bad {α : Type} (env : Slots) (f : α → Store → SR) : (R.bad : R α).to env f = .bad := rfl
def sExpr (e : Ev) : Es := fun C env st => (e C env st).to env fun _ s1 => .nx env s1
def sRet (e : Ev) : Es := fun C env st => (val e C env st).to env fun d s1 => .rt d s1
def sRetN : Es := fun _ _ st => .rt .non st
def sIf (t : Et) (a b : Es) : Es := fun C env st => (t C env st).to env fun c s1 => if c = true then a C env s1 else b C env s1
def sAsg (t : Tgt) (e : Ev) : Es := fun C env st => (val e C env st).to env fun d s1 => match asg t d env with
  | some e1 => .nx e1 s1
  | none => .bad
/-- a, b = x, y -/
def sPar (i j : Nat) (a b : Ev) : Es := fun C env st => (evs [a, b] C env st).to env fun ds s1 => match ds with
  | [d, e] => .nx ((env.set i (some d)).set j (some e)) s1
  | _ => .bad
def sFld (o : Ev) (f : Str) (e : Ev) : Es := fun C env st => (val e C env st).to env fun d s1 => (o C env s1).to env fun x s2 => match x with
  | .vl (.loc n) => (match s2[n]? with
    | some (.inst c fs) => if fs.length < 1000 then .nx env (s2.set n (.inst c (putFld f d fs))) else .bad
    | _ => .bad)
  | _ => .bad
where putFld (f : Str) (d : D) : List (Str × D) → List (Str × D)
  | [] => [(f, d)]
  | (g, e) :: r => if g = f then (g, d) :: r else (g, e) :: putFld f d r
def sBreak : Es := fun _ env st => .bk env st
def sCont : Es := fun _ env st => .ct env st
/-- o[i] = e, o a list -/
def sSetIx (o i e : Ev) : Es := fun C env st => (val e C env st).to env fun d s1 => (o C env s1).to env fun x s2 => (i C env s2).to env fun y s3 => match x, y with
  | .vl (.loc n), .vl (.int k) => (match s3[n]? with
    | some (.lst xs) => if 0 ≤ k ∧ k.toNat < xs.length then .nx env (s3.set n (.lst (xs.set k.toNat d))) else .bad
    | _ => .bad)
  | _, _ => .bad
def forLoop (C : Calls) (t : Tgt) (body : Es) (gs : Guards) : List It → Slots → Store → SR
  | [], env, st => if guardOk st gs = true then .nx env st else .bad
  | x :: xs, env, st => if guardOk st gs = true then (match asgI t x env with
    | none => .bad
    | some e1 => match body C e1 st with
      | .nx e2 s2 => forLoop C t body gs xs e2 s2
      | .ct e2 s2 => forLoop C t body gs xs e2 s2
      | .bk e2 s2 => .nx e2 s2
      | r => r) else .bad
def sFor (src : Esrc) (t : Tgt) (body : Es) : Es := fun C env st => (src C env st).to env fun p s1 => forLoop C t body p.2 p.1 env s1
def whileLoop (C : Calls) (t : Et) (body : Es) : Nat → Slots → Store → SR
  | 0, _, _ => .bad
  | k + 1, env, st => (t C env st).to env fun c s1 => if c = true then (match body C env s1 with
      | .nx e2 s2 => whileLoop C t body k e2 s2
      | .ct e2 s2 => whileLoop C t body k e2 s2
      | .bk e2 s2 => .nx e2 s2
      | r => r) else .nx env s1
def whileMost : Nat := 1000000
def sWhile (t : Et) (body : Es) : Es := fun C env st => whileLoop C t body whileMost env st
def sRaise (c : Str) : Es := fun _ env st => .exc ⟨c, []⟩ env st
/-- try: body except x: suite, the names of the classes that x catches -/
def sTry (body : Es) (cs : List Str) (suite : Es) : Es := fun C env st => match body C env st with
  | .exc x e1 s1 => if x.cls ∈ cs then suite C e1 s1 else .exc x e1 s1
  | r => r

/-! ### defs -/
structure FnD where
  np : Nat
  ns : Nat
  body : Es
def callF (f : FnD) (C : Calls) (args : List D) (st : Store) : R D :=
  if args.length = f.np then (match f.body C (args.map some ++ List.replicate (f.ns - f.np) none) st with
    | .rt d s1 => .ok d s1
    | .nx _ s1 => .ok .non s1
    | .exc x _ s1 => .exc x s1
    | _ => .bad) else .bad
/-- a list of the store beyond a length that holds nothing beyond it -/
def escaped (n : Nat) (st : Store) (d : D) : Option (List D) := match d with
  | .loc k => (match st[k]? with
    | some (.lst xs) => if n ≤ k ∧ D.lows n xs = true then some xs else none
    | _ => none)
  | _ => none
/-- what a call made and nobody can reach is forgotten -/
def trunc (st : Store) (r : R D) : R SV := match r with
  | .ok d s1 => if s1.take st.length = st then (if d.low st.length = true then .ok (.vl d) st else match escaped st.length s1 d with
    | some xs => .ok (.fr xs) st
    | none => .ok (.vl d) s1) else .ok (.vl d) s1
  | .exc x s1 => if s1.take st.length = st ∧ (x.fs.all fun p => p.2.low st.length) = true then .exc x st else .exc x s1
  | .bad => .bad
/-- a program: its defs, its classes' methods -/
structure Prg where
  fn : Str → Option FnD
  meth : Str → Str → Option Str
def run (P : Prg) : Nat → Calls
  | 0 => ⟨fun _ _ _ => .bad, P.meth⟩
  | k + 1 => ⟨fun f args st => match P.fn f with
    | some d => trunc st (callF d (run P k) args st)
    | none => .bad, P.meth⟩
end Q


set_option linter.all false
/-! Q1: a def's text compiled into combinators. -/
namespace Q
open PySem

/-- what the compiler knows: the slots' names; which global names are defs, classes (with their __init__), constants -/
structure CC where
  N : List Str
  fn : Str → Bool
  cls : Str → Option Str
  glb : Str → Option D
  exc : Str → Option (List Str)
  fld : Str → Bool
  mu : Str → Bool

def kindIn (sc : Scope) (x : Str) : Option NameKind := sc.names.lookup x
def visB (sc : Scope) (x : Str) : Bool := match sc.names.lookup x with
  | some .local => true
  | some .cell => true
  | some .free => true
  | _ => false
def locB (sc : Scope) (x : Str) : Bool := match sc.names.lookup x with
  | some .local => true
  | some .cell => true
  | _ => false
def glB (sc : Scope) (x : Str) : Bool := decide (sc.names.lookup x = some .globalImplicit)
def plainName (x : Str) : Bool := !(x == ("__debug__" : Str)) && !(x == ("__classdict__" : Str)) && !(x == ("__name__" : Str))
def slot (N : List Str) (x : Str) : Option Nat := match N.findIdx? (· == x) with
  | some i => if N[i]? = some x then some i else none
  | none => none
/-- a built-in's name -/
def bltB (cc : CC) (sc : Scope) (x : Str) : Bool := glB sc x
def ops : List Operator := [.Add, .Sub, .Mult, .FloorDiv, .Mod, .Pow, .LShift]
def cmps : List CmpOp := [.Eq, .NotEq, .Lt, .LtE, .Gt, .GtE, .In, .NotIn]
def ownOf (N : List Str) (scope : Scope) : List (Str × Nat) := scope.names.filterMap fun y => match y.2 with
  | .local => (slot N y.1).map fun i => (y.1, i)
  | .cell => (slot N y.1).map fun i => (y.1, i)
  | _ => none
def noSet : Expr → Bool
  | .Set .. => false
  | _ => true
def noStar : Expr → Bool
  | .Starred .. => false
  | _ => true
def noSlice : Expr → Bool
  | .Slice .. => false
  | _ => true
def noComp : Expr → Bool
  | .ListComp .. => false
  | .SetComp .. => false
  | .DictComp .. => false
  | _ => true
def noTuple : Expr → Bool
  | .Tuple .. => false
  | .List .. => false
  | _ => true
/-- an expression of which attributes are asked -/
def baseB : Expr → Bool
  | .Call .. => false
  | _ => true
def goT (f : Expr → Option Tgt) : List Expr → Option (List Tgt)
  | [] => some []
  | e :: es => match f e, goT f es with
    | some t, some ts => some (t :: ts)
    | _, _ => none
/-- a target: names, tuples of targets -/
def cTgt : Nat → List Str → Scope → Expr → Option Tgt
  | 0, _, _, _ => none
  | n + 1, N, sc, e => match e with
    | .Name x _ => if locB sc x then (slot N x).map .nm else none
    | .Tuple es _ _ => (goT (cTgt n N sc) es).map .tp
    | _ => none
def goE (f : Expr → Option Ev) : List Expr → Option (List Ev)
  | [] => some []
  | e :: es => match f e, goE f es with
    | some t, some ts => if noStar e then some (t :: ts) else none
    | _, _ => none
/-- what may be a list that nobody else holds -/
def maybeNew : Expr → Bool
  | .Name .. => false
  | .Constant .. => false
  | .UnaryOp .. => false
  | .Compare .. => false
  | .BoolOp .. => false
  | .Tuple .. => false
  | .Attribute .. => false
  | .Subscript _ (.Slice ..) _ => true
  | .Subscript .. => false
  | _ => true
/-- .. will not be changed -/
def cZ (f : Expr → Option Ev) (e : Expr) : Option Ev := (f e).map fun g => if maybeNew e = true then eFrz g else g
def goB (f : Expr → Option Ev) (g : Ev → Ev → Ev) : List Expr → Option Ev
  | [] => none
  | [e] => f e
  | e :: es => match f e, goB f g es with
    | some a, some b => some (g a b)
    | _, _ => none
def goBT (f : Expr → Option Et) (g : Et → Et → Et) : List Expr → Option Et
  | [] => none
  | [e] => f e
  | e :: es => match f e, goBT f g es with
    | some a, some b => some (g a b)
    | _, _ => none
def both {α β γ : Type} (a : Option α) (b : Option β) (f : α → β → γ) : Option γ := match a, b with
  | some x, some y => some (f x y)
  | _, _ => none
def cOpt (f : Expr → Option Ev) : Option Expr → Option (Option Ev)
  | none => some none
  | some e => (f e).map some

/-- set(b) -/
def setArg (sc : Scope) : Expr → Option Expr
  | .Call (.Name y _) [b] [] _ => if y == "set" && glB sc y && noStar b then some b else none
  | _ => none
/-- the name of a type -/
def tyArg (sc : Scope) : Expr → Option Str
  | .Name t _ => if glB sc t && decide (t ∈ isaTypes) then some t else none
  | _ => none
/-- the built-in functions of one argument -/
def fun1 (x : Str) : Option (Store → SV → Option SV) := if x == "len" then some gLen else if x == "sorted" then some gSorted else if x == "abs" then some gAbs else if x == "int" then some gInt else if x == "all" then some gAll else if x == "sum" then some gSum
  else if x == "tuple" then some gTuple else if x == "list" then some gList else none
mutual
def cE : Nat → CC → Scope → Expr → Option Ev
  | 0, _, _, _ => none
  | n + 1, cc, sc, e => match e with
    | .Name x _ => if plainName x then (if visB sc x then (slot cc.N x).map eVar else if glB sc x then (cc.glb x).map eC else none) else none
    | .Constant (.int i) _ _ => some (eC (.int i))
    | .Constant (.bool b) _ _ => some (eC (.bl b))
    | .Constant .none _ _ => some (eC .non)
    | .Constant (.str x) _ _ => some (eC (.str x))
    | .BinOp a op b _ => if op ∈ ops then both (cE n cc sc a) (cE n cc sc b) (eBin op) else none
    | .UnaryOp .USub a _ => (cE n cc sc a).map eNeg
    | .UnaryOp .Not a _ => (cE n cc sc a).map eNot
    | .BoolOp .And vs _ => goB (cE n cc sc) eAnd vs
    | .BoolOp .Or vs _ => goB (cE n cc sc) eOr vs
    | .Compare l [op] [c] _ => (cCmp n cc sc l op c).map eTest
    | .Compare l [op, op'] [b, c] _ => if op ∈ cmps && op' ∈ cmps && noSet b && noSet c then (match cE n cc sc l, cE n cc sc b, cE n cc sc c with
        | some x, some y, some z => some (eTest (tChain op op' x y z))
        | _, _, _ => none) else none
    | .IfExp t a b _ => match cT n cc sc t, cE n cc sc a, cE n cc sc b with
      | some t, some a, some b => some (eIf t a b)
      | _, _, _ => none
    | .Tuple es _ _ => if es.length ≤ 1000 then (goE (cZ (cE n cc sc)) es).map eTup else none
    | .List es _ => if es.length ≤ 1000 then (goE (cZ (cE n cc sc)) es).map eLst else none
    | .ListComp elt [⟨tg, it, ifs, 0⟩] scope _ => cComp n cc sc elt tg it ifs scope
    | .Subscript a (.Slice lo hi none _) _ => match cE n cc sc a, cOpt (cE n cc sc) lo, cOpt (cE n cc sc) hi with
      | some a, some l, some h => some (eSl a l h)
      | _, _, _ => none
    | .Subscript a b _ => if noSlice b then both (cE n cc sc a) (cE n cc sc b) eIx else none
    | .Attribute a f _ => if baseB a && cc.fld f then (cE n cc sc a).map fun x => eFld x f else none
    | .Call (.Name x _) args [] _ => cCall n cc sc x args
    | .Call (.Attribute o m ap) args [] cp => if ap.endLine == cp.line && decide (args.length < 30) then cMeth n cc sc o m args else none
    | _ => none
def cCmp : Nat → CC → Scope → Expr → CmpOp → Expr → Option Et
  | 0, _, _, _, _, _ => none
  | n + 1, cc, sc, l, op, c => match op, c with
    | .Is, .Constant .none _ _ => (cE n cc sc l).map tIsN
    | .IsNot, .Constant .none _ _ => (cE n cc sc l).map tNotN
    | .In, .Call (.Name x _) [a] [] _ => if x == "range" && bltB cc sc x && noStar a then both (cE n cc sc l) (cE n cc sc a) tInRange else if op ∈ cmps then both (cE n cc sc l) (cE n cc sc c) (tCmp op) else none
    | .NotIn, .Call (.Name x _) [a] [] _ => if x == "range" && bltB cc sc x && noStar a then both (cE n cc sc l) (cE n cc sc a) fun u v => tNot (tInRange u v) else if op ∈ cmps then both (cE n cc sc l) (cE n cc sc c) (tCmp op) else none
    | op, c => if op ∈ cmps && noSet c then both (cE n cc sc l) (cE n cc sc c) (tCmp op) else none
def cT : Nat → CC → Scope → Expr → Option Et
  | 0, _, _, _ => none
  | n + 1, cc, sc, e => match e with
    | .UnaryOp .Not a _ => (cT n cc sc a).map tNot
    | .BoolOp .And vs _ => goBT (cT n cc sc) tAnd vs
    | .BoolOp .Or vs _ => goBT (cT n cc sc) tOr vs
    | .Compare l [op] [c] _ => cCmp n cc sc l op c
    | .Compare l [op, op'] [b, c] _ => if op ∈ cmps && op' ∈ cmps && noSet b && noSet c then (match cE n cc sc l, cE n cc sc b, cE n cc sc c with
        | some x, some y, some z => some (tChain op op' x y z)
        | _, _, _ => none) else none
    | .Compare .. => none
    | .IfExp .. => none
    | e => (cE n cc sc e).map tTru
/-- the one test of a clause, or none -/
def cTs : Nat → CC → Scope → List Expr → Option Et
  | 0, _, _, _ => none
  | n + 1, cc, sc, ifs => match ifs with
    | [] => some tYes
    | [c] => cT n cc sc c
    | _ => none
def cComp : Nat → CC → Scope → Expr → Expr → Expr → List Expr → Scope → Option Ev
  | 0, _, _, _, _, _, _, _ => none
  | n + 1, cc, sc, elt, tg, it, ifs, scope => if L2.blkC cc.N sc scope (ownOf cc.N scope) && noSet it then (match cSrc n cc sc tg it, cTgt n cc.N scope tg, cTs n cc (L2.relS scope sc) ifs, cZ (cE n cc (L2.relS scope sc)) elt with
      | some s, some t, some u, some e => if t.slots.all (fun i => ((ownOf cc.N scope).map (·.2)).contains i) then some (eComp ((ownOf cc.N scope).map (·.2)) s t u e) else none
      | _, _, _, _ => none) else none
/-- what is walked -/
def cSrc : Nat → CC → Scope → Expr → Expr → Option Esrc
  | 0, _, _, _, _ => none
  | n + 1, cc, sc, tg, it => match it with
    | .Call (.Name x _) args [] _ => if glB sc x && x == "range" then (match args with
        | [a] => if noStar a then (cE n cc sc a).map srcRange1 else none
        | [a, b] => if noStar a && noStar b then both (cE n cc sc a) (cE n cc sc b) srcRange2 else none
        | [a, b, .UnaryOp .USub (.Constant (.int 1) _ _) _] => if noStar a && noStar b then both (cE n cc sc a) (cE n cc sc b) srcDown else none
        | _ => none)
      else if glB sc x && x == "enumerate" then (match args, tg with
        | [a], .Tuple .. => if noStar a then (cE n cc sc a).map srcEnum else none
        | _, _ => none)
      else if glB sc x && x == "zip" then (match args, tg with
        | [a, b], .Tuple .. => if noStar a && noStar b then both (cE n cc sc a) (cE n cc sc b) srcZip else none
        | _, _ => none)
      else if glB sc x && x == "reversed" then (match args with
        | [a] => if noStar a then (cE n cc sc a).map srcRev else none
        | _ => none)
      else (cE n cc sc it).map srcOf
    | it => (cE n cc sc it).map srcOf
/-- f(..) -/
def cCall : Nat → CC → Scope → Str → List Expr → Option Ev
  | 0, _, _, _, _ => none
  | n + 1, cc, sc, x, args => if !(glB sc x && plainName x) then none else
    if cc.fn x then (goE (cZ (cE n cc sc)) args).map (eCall x) else
    match cc.cls x with
    | some init => (goE (cZ (cE n cc sc)) args).map (eNew x init)
    | none => match args with
      | [a] => cCall1 n cc sc x a
      | [a, b] => cCall2 n cc sc x a b
      | _ => none
def cCall1 : Nat → CC → Scope → Str → Expr → Option Ev
  | 0, _, _, _, _ => none
  | n + 1, cc, sc, x, a => match setArg sc a with
    | some b => if x == "sorted" then (cE n cc sc b).map (eOn gSortSet) else if x == "len" then (cE n cc sc b).map (eOn gLenSet) else none
    | none => if !noStar a then none else (fun1 x).bind fun g => (cE n cc sc a).map (eOn g)
def cCall2 : Nat → CC → Scope → Str → Expr → Expr → Option Ev
  | 0, _, _, _, _, _ => none
  | n + 1, cc, sc, x, a, b => if !noStar a then none else if x == "isinstance" then (match tyArg sc b with
      | some t => (cE n cc sc a).map (eOn (gIsA t))
      | none => none)
    else if !noStar b then none
    else if x == "max" then both (cE n cc sc a) (cE n cc sc b) eMax2
    else if x == "min" then both (cE n cc sc a) (cE n cc sc b) eMin2
    else none
/-- o.m(..) -/
def cMeth : Nat → CC → Scope → Expr → Str → List Expr → Option Ev
  | 0, _, _, _, _, _ => none
  | n + 1, cc, sc, o, m, args => if !(baseB o) then none else
    if m == "append" then (match args with
      | [e] => if noStar e then both (cE n cc sc o) (cZ (cE n cc sc) e) eAppend else none
      | _ => none)
    else if m == "extend" then (match args with
      | [e] => if noStar e then both (cE n cc sc o) (cE n cc sc e) eExtend else none
      | _ => none)
    else if m == "index" then (match args with
      | [e] => if noStar e then both (cE n cc sc o) (cE n cc sc e) eIndex else none
      | _ => none)
    else if m == "pop" then (match args with
      | [] => (cE n cc sc o).map ePop
      | _ => none)
    else both (cE n cc sc o) (goE (cZ (cE n cc sc)) args) fun a as => eMeth a m as
end

/-! ### statements -/
def goS (f : Stmt → Option Es) : List Stmt → Option Es
  | [] => some sNext
  | [s] => f s
  | s :: r => match f s, goS f r with
    | some a, some b => some (sSeq a b)
    | _, _ => none
/-- name = [..]: as the machine stores it -/
def setComp (sc : Scope) (y : Str) (py : Pos) (pos : Pos) (scope : Scope) : Bool :=
  match sc.names.lookup y with
  | some .local => py.line == pos.line && !(scope.names.any fun (n, k) => n == y && (k == .local || k == .cell))
  | some .cell => true
  | _ => false
/-- the two names of a, b = x, y -/
def twoNames (sc : Scope) : List Expr → Option (Str × Str)
  | [.Name x p, .Name y q] => if sc.names.lookup x = some .local ∧ sc.names.lookup y = some .local ∧ (q.line == p.line) = true ∧ ¬ (x = y) then some (x, y) else none
  | _ => none
/-- a statement of an except suite -/
def cSu : Stmt → Option Es
  | .Pass _ => some sNext
  | .Break _ => some sBreak
  | .Continue _ => some sCont
  | .Return (some (.Constant (.bool b) _ _)) _ => some (sRet (eC (.bl b)))
  | .Return (some (.Constant .none _ _)) _ => some (sRet (eC .non))
  | _ => none
def cS : Nat → CC → Scope → Stmt → Option Es
  | 0, _, _, _ => none
  | n + 1, cc, sc, s => match s with
    | .Pass _ => some sNext
    | .Break _ => some sBreak
    | .Continue _ => some sCont
    | .Expr (.Constant (.str _) _ _) _ => some sNext
    | .Expr e _ => if noComp e then (cE n cc sc e).map sExpr else none
    | .Return none _ => some sRetN
    | .Return (some e) _ => (cE n cc sc e).map sRet
    | .If t a b _ => match cT n cc sc t, goS (cS n cc sc) a, goS (cS n cc sc) b with
      | some t, some a, some b => some (sIf t a b)
      | _, _, _ => none
    | .While t a [] _ => match cT n cc sc t, goS (cS n cc sc) a with
      | some t, some a => some (sWhile t a)
      | _, _ => none
    | .For tg it a [] _ => if noSet it then (match cSrc n cc sc tg it, cTgt n cc.N sc tg, goS (cS n cc sc) a with
      | some s, some t, some a => some (sFor s t a)
      | _, _, _ => none) else none
    | .Assign [.Name y py] e pos => match e with
      | .ListComp elt [⟨tg, it, ifs, 0⟩] scope p => if setComp sc y py p scope then both (slot cc.N y) (cComp n cc sc elt tg it ifs scope) fun i e => sAsg (.nm i) e else none
      | e => if noComp e && locB sc y then both (slot cc.N y) (if cc.mu y = true then cE n cc sc e else cZ (cE n cc sc) e) fun i e => sAsg (.nm i) e else none
    | .Assign [.Tuple ts k tp] (.Tuple [a, b] k2 p2) pos => match twoNames sc ts with
      | some (x, y) => if ([a, b].all (foldedForSure 8)) = false && ([a, b].all (constantsAlone 8)) = false && noStar a && noStar b then (match slot cc.N x, slot cc.N y, cE n cc sc a, cE n cc sc b with
        | some i, some j, some a, some b => if i ≠ j then some (sPar i j a b) else none
        | _, _, _, _ => none) else none
      | none => none
    | .Assign [.Tuple ts k tp] e pos => if noTuple e && noComp e then both (cTgt n cc.N sc (.Tuple ts k tp)) (cE n cc sc e) sAsg else none
    | .Assign [.Attribute o f _] e pos => if baseB o && noComp e && cc.fld f then both (cE n cc sc o) (cE n cc sc e) fun o e => sFld o f e else none
    | .Assign [.Subscript o i _] e pos => if noComp e && noSlice i then (match cE n cc sc o, cE n cc sc i, cE n cc sc e with
      | some o, some i, some e => some (sSetIx o i e)
      | _, _, _ => none) else none
    | .Raise (some (.Call (.Name x _) [.Constant (.str _) _ _] [] _)) none _ => if glB sc x && plainName x then (match cc.exc x with
      | some _ => some (sRaise x)
      | none => none) else none
    | .Try body [.ExceptHandler (some (.Name x _)) none suite _] [] [] _ => if glB sc x && plainName x && !suite.isEmpty then (match cc.exc x, goS (cS n cc sc) body, goS cSu suite with
      | some cs, some b, some u => some (sTry b cs u)
      | _, _, _ => none) else none
    | _ => none
def fuel : Nat := 60
/-- a def: its slots' names, the parameters first -/
def cDef (cc : CC) (np : Nat) (sc : Scope) (body : List Stmt) : Option FnD := (goS (cS fuel cc sc) body).map fun b => ⟨np, cc.N.length, b⟩
end Q


set_option linter.all false
set_option maxRecDepth 100000
set_option maxHeartbeats 2000000
set_option autoImplicit false
/-! Q2: how values and stores stand in the machine's heap. -/
namespace Q
open PySem PySem.Spec PyProof.Rows L2

/-- what is fixed through the whole run -/
structure Wd where
  prog : Program
  w : World
  K : PySem.W.Frag
  mg : Str → Option Value
  base : Heap
  cls : Str → Option Addr
  xcls : Str → Option Addr

/-- a tuple without attributes of its own: tracked with its object, or of the written part -/
def SqF (K : PySem.W.Frag) (H : Hp) (a : Addr) (vs : List V) : Prop :=
  (∃ o, H a = some (.frz o (.tup vs)) ∧ o.dict = none) ∨
    ∃ (o : Obj) (its : Array Value) (n : Nat), K.lookup a = some o ∧ o.cls = .type "tuple" ∧ o.dict = none ∧ o.data = .seq its n ∧ its.size ≤ sizeLine ∧ Vals vs its.toList
theorem SqF.sq {K : PySem.W.Frag} {H : Hp} {a : Addr} {vs : List V} (h : SqF K H a vs) : SqT K H a vs := by
  rcases h with ⟨o, h, _⟩ | ⟨o, its, n, h1, h2, _, h3, h4, h5⟩
  · exact .inl (.inr ⟨o, h⟩)
  · exact .inr ⟨o, its, n, h1, h2, h3, h4, h5⟩
/-- a list that nobody changes: tracked as it is, or of the written part -/
def SqZ (K : PySem.W.Frag) (H : Hp) (a : Addr) (vs : List V) : Prop :=
  (∃ o, H a = some (.frz o (.lst vs))) ∨
    ∃ (o : Obj) (its : Array Value) (n : Nat), K.lookup a = some o ∧ o.cls = .type "list" ∧ o.dict = none ∧ o.data = .seq its n ∧ its.size ≤ sizeLine ∧ Vals vs its.toList
theorem SqZ.sq {K : PySem.W.Frag} {H : Hp} {a : Addr} {vs : List V} (h : SqZ K H a vs) : SqL K H a vs := by
  rcases h with ⟨o, h⟩ | h
  · exact .inl (.inr ⟨o, h⟩)
  · exact .inr h
section
variable (S : Wd) (ms : List Addr) (H : Hp)
mutual
inductive RepD : V → D → Prop
  | non : RepD .non .non
  | bl (b : Bool) : RepD (.bl b) (.bl b)
  | int (i : Int) : RepD (.int i) (.int i)
  | str (x : Str) : RepD (.str x) (.str x)
  | tup {a : Addr} {vs : List V} {ds : List D} : SqF S.K H a vs → RepDs vs ds → RepD (.ref a) (.tup ds)
  | loc {a : Addr} {n : Nat} : ms[n]? = some a → RepD (.ref a) (.loc n)
  | fls {a : Addr} {vs : List V} {ds : List D} : SqZ S.K H a vs → RepDs vs ds → RepD (.ref a) (.fls ds)
inductive RepDs : List V → List D → Prop
  | nil : RepDs [] []
  | cons {v : V} {vs : List V} {d : D} {ds : List D} : RepD v d → RepDs vs ds → RepDs (v :: vs) (d :: ds)
end
inductive RepFs : List (Str × V) → List (Str × D) → Prop
  | nil : RepFs [] []
  | cons {f : Str} {v : V} {d : D} {vs : List (Str × V)} {ds : List (Str × D)} : RepD S ms H v d → RepFs vs ds → RepFs ((f, v) :: vs) ((f, d) :: ds)
inductive RepO : Addr → O → Prop
  | lst {a : Addr} {vs : List V} {ds : List D} : H a = some (.lst vs) → RepDs S ms H vs ds → RepO a (.lst ds)
  | inst {a C dx : Addr} {c : Str} {fs : List (Str × V)} {ds : List (Str × D)} : S.cls c = some C → H a = some (.ins C dx fs) → RepFs S ms H fs ds → RepO a (.inst c ds)
structure RepS (st : Store) : Prop where
  nd : ms.Nodup
  len : ms.length = st.length
  ob : ∀ (n : Nat) (a : Addr) (o : O), ms[n]? = some a → st[n]? = some o → RepO S ms H a o
end

/-- from (ms, H) to (ms', H') -/
structure Ext (ms : List Addr) (H : Hp) (ms' : List Addr) (H' : Hp) : Prop where
  more : ∃ new, ms' = ms ++ new ∧ ∀ b ∈ new, H b = none
  keep : ∀ b o, H b = some o → b ∉ ms → H' b = some o

section
variable {S : Wd} {ms ms1 ms2 : List Addr} {H H1 H2 : Hp} {st st1 st2 : Store} {v : V} {d : D}
theorem Ext.refl : Ext ms H ms H := ⟨⟨[], by simp, by simp⟩, fun _ _ h _ => h⟩
theorem Ext.same (h : Same H H1) : Ext ms H ms H1 := ⟨⟨[], by simp, by simp⟩, fun _ _ e _ => h _ _ e⟩
/-- where it stands, it is tracked -/
theorem RepO.at {a : Addr} {o : O} (r : RepO S ms H a o) : ∃ u, H a = some u ∧ (∀ xs, u ≠ .tup xs) ∧ ∀ ob x, u ≠ .frz ob x := by
  cases r with
  | lst h _ => exact ⟨_, h, (fun _ e => by cases e), fun _ _ e => by cases e⟩
  | inst _ h _ => exact ⟨_, h, (fun _ e => by cases e), fun _ _ e => by cases e⟩
theorem RepS.mem (r : RepS S ms H st) {a : Addr} (h : a ∈ ms) : ∃ (n : Nat) (o : O), ms[n]? = some a ∧ st[n]? = some o ∧ RepO S ms H a o := by
  obtain ⟨n, hn, e⟩ := List.getElem_of_mem h
  have hl : n < st.length := by rw [← r.len]; exact hn
  have e1 : ms[n]? = some a := by rw [List.getElem?_eq_getElem hn, e]
  exact ⟨n, st[n], e1, List.getElem?_eq_getElem hl, r.ob n a _ e1 (List.getElem?_eq_getElem hl)⟩
theorem RepS.notTup (r : RepS S ms H st) {a : Addr} {xs : List V} (h : Rd H a (.tup xs)) : a ∉ ms := fun hm => by
  obtain ⟨n, o, _, _, ro⟩ := r.mem hm
  obtain ⟨u, e, n1, n2⟩ := ro.at
  rcases h with h | ⟨ob, h⟩
  · rw [e] at h; cases h; exact n1 _ rfl
  · rw [e] at h; cases h; exact n2 _ _ rfl
theorem RepS.notFrz (r : RepS S ms H st) {a : Addr} {o : Obj} {u : HO} (h : H a = some (.frz o u)) : a ∉ ms := fun hm => by
  obtain ⟨n, o', _, _, ro⟩ := r.mem hm
  obtain ⟨u', e, _, n2⟩ := ro.at
  rw [e] at h; cases h; exact n2 _ _ rfl
theorem Ext.sqZ (x : Ext ms H ms1 H1) (r : RepS S ms H st) {a : Addr} {xs : List V} (h : SqZ S.K H a xs) : SqZ S.K H1 a xs := by
  rcases h with ⟨o, h⟩ | h
  · exact .inl ⟨o, x.keep _ _ h (r.notFrz h)⟩
  · exact .inr h
theorem Ext.sqF (x : Ext ms H ms1 H1) (r : RepS S ms H st) {a : Addr} {xs : List V} (h : SqF S.K H a xs) : SqF S.K H1 a xs := by
  rcases h with ⟨o, h, hd⟩ | h
  · exact .inl ⟨o, x.keep _ _ h (r.notTup (.inr ⟨o, h⟩)), hd⟩
  · exact .inr h
mutual
theorem RepD.ext (x : Ext ms H ms1 H1) (r : RepS S ms H st) : ∀ {v : V} {d : D}, RepD S ms H v d → RepD S ms1 H1 v d
  | _, _, .non => .non
  | _, _, .bl b => .bl b
  | _, _, .int i => .int i
  | _, _, .str y => .str y
  | _, _, .tup h t => .tup (x.sqF r h) (RepDs.ext x r t)
  | _, _, .fls h t => .fls (x.sqZ r h) (RepDs.ext x r t)
  | _, _, .loc (n := n) h => .loc (by
    obtain ⟨new, e, _⟩ := x.more
    rw [e, List.getElem?_append_left]
    · exact h
    · exact (List.getElem?_eq_some_iff.mp h).1)
theorem RepDs.ext (x : Ext ms H ms1 H1) (r : RepS S ms H st) : ∀ {vs : List V} {ds : List D}, RepDs S ms H vs ds → RepDs S ms1 H1 vs ds
  | _, _, .nil => .nil
  | _, _, .cons h t => .cons (RepD.ext x r h) (RepDs.ext x r t)
end
theorem RepFs.ext (x : Ext ms H ms1 H1) (r : RepS S ms H st) : ∀ {vs : List (Str × V)} {ds : List (Str × D)}, RepFs S ms H vs ds → RepFs S ms1 H1 vs ds
  | _, _, .nil => .nil
  | _, _, .cons h t => .cons (h.ext x r) (RepFs.ext x r t)
theorem Ext.trans (x : Ext ms H ms1 H1) (r : RepS S ms1 H1 st1) (y : Ext ms1 H1 ms2 H2) (r0 : RepS S ms H st) : Ext ms H ms2 H2 := by
  obtain ⟨n1, e1, f1⟩ := x.more
  obtain ⟨n2, e2, f2⟩ := y.more
  have dom : ∀ b, H1 b = none → H b = none := fun b hb => by
    cases q : H b with
    | none => rfl
    | some o =>
      by_cases hm : b ∈ ms
      · obtain ⟨n, o', _, _, ro⟩ := r.mem (a := b) (by rw [e1]; exact List.mem_append_left _ hm)
        obtain ⟨u, e, _⟩ := ro.at
        rw [hb] at e; cases e
      · rw [x.keep _ _ q hm] at hb; cases hb
  refine ⟨⟨n1 ++ n2, by rw [e2, e1, List.append_assoc], fun b hb => ?_⟩, fun b o h hm => ?_⟩
  · rcases List.mem_append.mp hb with hb | hb
    · exact f1 b hb
    · exact dom b (f2 b hb)
  · refine y.keep b o (x.keep b o h hm) fun h1 => ?_
    rw [e1] at h1
    rcases List.mem_append.mp h1 with h1 | h1
    · exact hm h1
    · rw [f1 b h1] at h; cases h
/-- what was free is free ahead -/
theorem Ext.dom (x : Ext ms H ms1 H1) (r : RepS S ms1 H1 st1) {b : Addr} (hb : H1 b = none) : H b = none := by
  obtain ⟨n1, e1, f1⟩ := x.more
  cases q : H b with
  | none => rfl
  | some o =>
    by_cases hm : b ∈ ms
    · obtain ⟨n, o', _, _, ro⟩ := r.mem (a := b) (by rw [e1]; exact List.mem_append_left _ hm)
      obtain ⟨u, e, _⟩ := ro.at
      rw [hb] at e; cases e
    · rw [x.keep _ _ q hm] at hb; cases hb
/-- all kept: the store stands -/
theorem RepO.same (x : Ext ms H ms1 H1) (r : RepS S ms H st) {a : Addr} {o : O} (h : ∀ u, H a = some u → H1 a = some u) (ro : RepO S ms H a o) : RepO S ms1 H1 a o := by
  cases ro with
  | lst e t => exact .lst (h _ e) (t.ext x r)
  | inst c e t => exact .inst c (h _ e) (t.ext x r)
theorem RepS.same (h : Same H H1) (r : RepS S ms H st) : RepS S ms H1 st :=
  ⟨r.nd, r.len, fun n a o e1 e2 => (r.ob n a o e1 e2).same (.same h) r (h a)⟩

/-- what an expression gave; H0: the heap ahead of it -/
def RepSV (S : Wd) (H0 : Hp) (ms : List Addr) (H : Hp) (v : V) : SV → Prop
  | .fr ds => ∃ p vs, v = .ref p ∧ H0 p = none ∧ H p = some (.lst vs) ∧ p ∉ ms ∧ RepDs S ms H vs ds
  | .vl d => RepD S ms H v d
theorem RepSV.ext {H0 : Hp} {sv : SV} (x : Ext ms1 H1 ms2 H2) (r : RepS S ms1 H1 st1) (h : RepSV S H0 ms1 H1 v sv) : RepSV S H0 ms2 H2 v sv := by
  cases sv with
  | vl d => exact RepD.ext x r h
  | fr ds =>
    obtain ⟨p, vs, e1, e2, e3, e4, e5⟩ := h
    refine ⟨p, vs, e1, e2, x.keep _ _ e3 e4, fun hm => ?_, e5.ext x r⟩
    obtain ⟨new, e, f⟩ := x.more
    rw [e] at hm
    rcases List.mem_append.mp hm with hm | hm
    · exact e4 hm
    · rw [f p hm] at e3; cases e3
/-- told from further ahead -/
theorem RepSV.back {H0 : Hp} {sv : SV} (x : Ext ms H0 ms1 H1) (r : RepS S ms1 H1 st1) (h : RepSV S H1 ms2 H2 v sv) : RepSV S H0 ms2 H2 v sv := by
  cases sv with
  | vl d => exact h
  | fr ds =>
    obtain ⟨p, vs, e1, e2, e3, e4, e5⟩ := h
    exact ⟨p, vs, e1, x.dom r e2, e3, e4, e5⟩

/-- the slots -/
structure RepE (S : Wd) (ms : List Addr) (H : Hp) (σ : L2.St) (env : Slots) : Prop where
  len : env.length = σ.length
  at_ : ∀ (i : Nat) (d : D), env[i]? = some (some d) → ∃ v, σ[i]? = some (some v) ∧ RepD S ms H v d
theorem RepE.ext {σ : L2.St} {env : Slots} (x : Ext ms H ms1 H1) (r : RepS S ms H st) (h : RepE S ms H σ env) : RepE S ms1 H1 σ env :=
  ⟨h.len, fun i d e => let ⟨v, e1, r1⟩ := h.at_ i d e; ⟨v, e1, r1.ext x r⟩⟩
theorem RepE.set {σ : L2.St} {env : Slots} {i : Nat} (h : RepE S ms H σ env) (r : RepD S ms H v d) : RepE S ms H (σ.set i (some v)) (env.set i (some d)) := by
  refine ⟨by simp [h.len], fun j e hj => ?_⟩
  by_cases hij : i = j
  · subst hij
    by_cases hl : i < env.length
    · rw [List.getElem?_set_self hl] at hj
      cases hj
      exact ⟨v, by rw [List.getElem?_set_self (by rw [← h.len]; exact hl)], r⟩
    · rw [List.getElem?_eq_none (by simpa using hl)] at hj; cases hj
  · rw [List.getElem?_set_ne hij] at hj
    obtain ⟨v', e1, r1⟩ := h.at_ j e hj
    exact ⟨v', by rw [List.getElem?_set_ne hij]; exact e1, r1⟩
theorem RepE.wipe {σ : L2.St} {env : Slots} (h : RepE S ms H σ env) : ∀ vs : List Nat, RepE S ms H (L2.wipe σ vs) (wipeS env vs)
  | [] => h
  | i :: vs => by
    have ih := RepE.wipe h vs
    refine ⟨by simp [wipeS, L2.wipe, ih.len], fun j e hj => ?_⟩
    by_cases hij : i = j
    · subst hij
      by_cases hl : i < (wipeS env vs).length
      · rw [wipeS, List.getElem?_set_self hl] at hj; cases hj
      · rw [wipeS, List.getElem?_eq_none (by simpa using hl)] at hj; cases hj
    · rw [wipeS, List.getElem?_set_ne hij] at hj
      obtain ⟨v', e1, r1⟩ := ih.at_ j e hj
      exact ⟨v', by rw [L2.wipe, List.getElem?_set_ne hij]; exact e1, r1⟩

/-- an exception: its class, its own dict -/
structure RepX (S : Wd) (ms : List Addr) (H : Hp) (x : Exn) (c : Value) (d : Option Addr) : Prop where
  cls : ∃ C, S.xcls x.cls = some C ∧ c = .ref C
  fs : (x.fs = [] ∧ d = none) ∨ ∃ a fs, d = some a ∧ a ∉ ms ∧ H a = some (.xd fs) ∧ RepFs S ms H fs x.fs


/-- the end of an expression that began at (ms, H): Rp says how an answer stands for what was reckoned -/
abbrev Rp (α β : Type) := Hp → List Addr → Hp → β → α → Prop
def EndG {α β : Type} (S : Wd) (W : WX) (σ : L2.St) (ms : List Addr) (H : Hp) (P : Rp α β) (Q : β → Hp → Prop) : R α → Prop
  | .ok a st' => ∀ v ms' H', Ext ms H ms' H' → RepS S ms' H' st' → P H ms' H' v a → Q v H'
  | .exc x st' => ∀ ms' H' c d, Ext ms H ms' H' → RepS S ms' H' st' → RepX S ms' H' x c d → W c d σ H'
  | .bad => False
/-- P is true from further ahead -/
def Back {α β : Type} (P : Rp α β) : Prop := ∀ (H0 H1 : Hp) (ms : List Addr) (H : Hp) (v : β) (a : α), (∀ b, H1 b = none → H0 b = none) → P H1 ms H v a → P H0 ms H v a
variable {W : WX} {σ : L2.St} {α β γ δ : Type} {P : Rp α β} {Q : β → Hp → Prop}
theorem EndG.from {r : R α} (b : Back P) (x : Ext ms H ms1 H1) (r0 : RepS S ms H st) (r1 : RepS S ms1 H1 st1) (h : EndG S W σ ms H P Q r) : EndG S W σ ms1 H1 P Q r := by
  cases r with
  | ok a st' => exact fun v ms' H' y ry p => h v ms' H' (x.trans r1 y r0) ry (b _ _ _ _ _ _ (fun c hc => x.dom r1 hc) p)
  | exc e st' => exact fun ms' H' c d y ry p => h ms' H' c d (x.trans r1 y r0) ry p
  | bad => exact h
/-- an answer goes on -/
theorem EndG.bind {P1 : Rp γ δ} {Q1 : δ → Hp → Prop} {r : R γ} {g : γ → Store → R α} (b : Back P) (r0 : RepS S ms H st) (h : EndG S W σ ms H P Q (r.bind g))
    (k : ∀ a s1 v ms1 H1, Ext ms H ms1 H1 → RepS S ms1 H1 s1 → P1 H ms1 H1 v a → EndG S W σ ms1 H1 P Q (g a s1) → Q1 v H1) : EndG S W σ ms H P1 Q1 r := by
  cases r with
  | ok a s1 => exact fun v ms1 H1 x r1 p => k a s1 v ms1 H1 x r1 p (EndG.from b x r0 r1 h)
  | exc e s1 => exact h
  | bad => exact h
/-- .. where the answer's end is told apart -/
theorem EndG.done {r : R α} {a : α} {st' : Store} {v : β} {ms' : List Addr} {H' : Hp} (h : EndG S W σ ms H P Q r) (e : r = .ok a st') (x : Ext ms H ms' H') (rs : RepS S ms' H' st') (p : P H ms' H' v a) : Q v H' := by
  subst e
  exact h v ms' H' x rs p
theorem EndG.ofO {o : Option α} {st' : Store} (h : EndG S W σ ms H P Q (.ofO o st')) : ∃ a, o = some a ∧ EndG S W σ ms H P Q (.ok a st') := by
  cases o with
  | none => exact h.elim
  | some a => exact ⟨a, rfl, h⟩

/-! how answers stand -/
def pSV (S : Wd) : Rp SV V := fun H0 ms H v a => RepSV S H0 ms H v a
def pD (S : Wd) : Rp D V := fun _ ms H v d => RepD S ms H v d
def pDs (S : Wd) : Rp (List D) (List V) := fun _ ms H v d => RepDs S ms H v d
def pB : Rp Bool Bool := fun _ _ _ v a => v = a
theorem pSV_back : Back (pSV S) := fun H0 H1 ms H v a hd h => by
  cases a with
  | vl d => exact h
  | fr ds =>
    obtain ⟨p, vs, e1, e2, e3, e4, e5⟩ := h
    exact ⟨p, vs, e1, hd p e2, e3, e4, e5⟩
theorem pD_back : Back (pD S) := fun _ _ _ _ _ _ _ h => h
theorem pDs_back : Back (pDs S) := fun _ _ _ _ _ _ _ h => h
theorem pB_back : Back pB := fun _ _ _ _ _ _ _ h => h

/-- a reading by what is reckoned -/
def tG (S : Wd) (W : WX) (C : Calls) (P : Rp α β) (f : Calls → Slots → Store → R α) : L2.St → Hp → (β → Hp → Prop) → Prop := fun σ H Q =>
  ∃ env st ms, RepS S ms H st ∧ RepE S ms H σ env ∧ EndG S W σ ms H P Q (f C env st)
end

/-- where an expression stands -/
structure Ctx (S : Wd) (N : List Str) (k : Nat) (W : WX) (sc : Scope) (X : Cx) : Prop where
  prog : X.prog = S.prog
  w : X.w = S.w
  K : X.K = S.K
  mg : X.mg = S.mg
  base : X.base = S.base
  slots : X.N = N
  nd : X.N.Nodup
  scope : X.env.scope = sc
  calm : X.calm = true
  room : Room k X.A
  takes : Takes X W

/-- what is proved of an expression, a test, arguments -/
def FE (S : Wd) (cc : CC) (k : Nat) (C : Calls) (sc : Scope) (e : Expr) (f : Ev) : Prop := ∀ W X, Ctx S cc.N k W sc X → PE X e (tG S W C (pSV S) f)
def FT (S : Wd) (cc : CC) (k : Nat) (C : Calls) (sc : Scope) (e : Expr) (f : Et) : Prop := ∀ W X, Ctx S cc.N k W sc X → PT X e (tG S W C pB f)
def FA (S : Wd) (cc : CC) (k : Nat) (C : Calls) (sc : Scope) (es : List Expr) (f : List Ev) : Prop := ∀ W X, Ctx S cc.N k W sc X → PA X es (tG S W C (pDs S) (evs f))
theorem PE.imp {X : Cx} {e : Expr} {t t' : TE} (h : PE X e t) (i : ∀ σ H Q, t' σ H Q → t σ H Q) : PE X e t' := ⟨fun pins s σ H Q I q => h.run pins s σ H Q I (i σ H Q q)⟩
theorem PT.imp {X : Cx} {e : Expr} {t t' : TT} (h : PT X e t) (i : ∀ σ H Q, t' σ H Q → t σ H Q) : PT X e t' := ⟨fun pins s σ H Q I q => h.run pins s σ H Q I (i σ H Q q)⟩
theorem PA.imp {X : Cx} {e : List Expr} {t t' : TA} (h : PA X e t) (i : ∀ σ H Q, t' σ H Q → t σ H Q) : PA X e t' := ⟨fun pos pins s σ H Q I q => h.run pos pins s σ H Q I (i σ H Q q)⟩
theorem PS.imp {X : Cx} {e : Stmt} {t t' : TS} (h : PS X e t) (i : ∀ D σ H, t' D σ H → t D σ H) : PS X e t' := ⟨fun pins s σ H D I q => h.run pins s σ H D I (i D σ H q)⟩
theorem PI.imp {X : Cx} {tg e : Expr} {t t' : TI} (h : PI X tg e t) (i : ∀ σ H R, t' σ H R → t σ H R) : PI X tg e t' := ⟨fun pins s σ H R I q => h.run pins s σ H R I (i σ H R q)⟩
end Q


set_option linter.all false
set_option maxRecDepth 100000
set_option maxHeartbeats 2000000
set_option autoImplicit false
/-! Q3: operators and comparisons. -/
namespace Q
open PySem PySem.Spec PyProof.Rows L2
theorem szl_eq : szl = sizeLine := by rw [sizeLine_eq]; rfl
section
variable {S : Wd} {ms : List Addr} {H H0 H1 : Hp} {st : Store} {v : V} {d : D}
theorem same_upd {p : Addr} {o : HO} (h : H p = none) : Same H (upd H p o) := fun b u e => by rw [upd_ne (ne_of_none e h)]; exact e
theorem RepS.free (r : RepS S ms H st) {p : Addr} (h : H p = none) : p ∉ ms := fun hm => by
  obtain ⟨n, o, _, _, ro⟩ := r.mem hm
  obtain ⟨u, e, _⟩ := ro.at
  rw [h] at e; cases e
theorem RepDs.same (h : Same H H1) (r : RepS S ms H st) {vs : List V} {ds : List D} (t : RepDs S ms H vs ds) : RepDs S ms H1 vs ds := t.ext (.same h) r
theorem RepD.same (h : Same H H1) (r : RepS S ms H st) {v : V} {d : D} (t : RepD S ms H v d) : RepD S ms H1 v d := t.ext (.same h) r
theorem RepDs.length : ∀ {vs : List V} {ds : List D}, RepDs S ms H vs ds → vs.length = ds.length
  | _, _, .nil => rfl
  | _, _, .cons _ t => by simp [RepDs.length t]
theorem RepDs.append : ∀ {vs ws : List V} {ds es : List D}, RepDs S ms H vs ds → RepDs S ms H ws es → RepDs S ms H (vs ++ ws) (ds ++ es)
  | _, _, _, _, .nil, u => u
  | _, _, _, _, .cons h t, u => .cons h (RepDs.append t u)
theorem RepDs.get : ∀ {vs : List V} {ds : List D} {i : Nat} {d : D}, RepDs S ms H vs ds → ds[i]? = some d → ∃ v, vs[i]? = some v ∧ RepD S ms H v d
  | _, _, _, _, .nil, h => by simp at h
  | _, _, 0, _, .cons h t, e => by simp at e; subst e; exact ⟨_, rfl, h⟩
  | _, _, i + 1, _, .cons h t, e => by
    obtain ⟨v, e1, r⟩ := RepDs.get (i := i) t (by simpa using e)
    exact ⟨v, by simpa using e1, r⟩
theorem RepDs.get' : ∀ {vs : List V} {ds : List D} {i : Nat} {v : V}, RepDs S ms H vs ds → vs[i]? = some v → ∃ d, ds[i]? = some d ∧ RepD S ms H v d
  | _, _, _, _, .nil, h => by simp at h
  | _, _, 0, _, .cons h t, e => by simp at e; subst e; exact ⟨_, rfl, h⟩
  | _, _, i + 1, _, .cons h t, e => by
    obtain ⟨v, e1, r⟩ := RepDs.get' (i := i) t (by simpa using e)
    exact ⟨v, by simpa using e1, r⟩
theorem RepDs.take : ∀ {vs : List V} {ds : List D} (n : Nat), RepDs S ms H vs ds → RepDs S ms H (vs.take n) (ds.take n)
  | _, _, 0, _ => .nil
  | _, _, n + 1, .nil => .nil
  | _, _, n + 1, .cons h t => .cons h (RepDs.take n t)
theorem RepDs.drop : ∀ {vs : List V} {ds : List D} (n : Nat), RepDs S ms H vs ds → RepDs S ms H (vs.drop n) (ds.drop n)
  | _, _, 0, t => t
  | _, _, n + 1, .nil => .nil
  | _, _, n + 1, .cons h t => RepDs.drop n t
theorem RepDs.set {v : V} {d : D} (r : RepD S ms H v d) : ∀ {vs : List V} {ds : List D} (n : Nat), RepDs S ms H vs ds → RepDs S ms H (vs.set n v) (ds.set n d)
  | _, _, _, .nil => .nil
  | _, _, 0, .cons _ t => .cons r t
  | _, _, n + 1, .cons h t => .cons h (RepDs.set r n t)
theorem RepDs.replicate {vs : List V} {ds : List D} (t : RepDs S ms H vs ds) : ∀ n : Nat, RepDs S ms H (List.replicate n vs).flatten (List.replicate n ds).flatten
  | 0 => .nil
  | n + 1 => by
    simp only [List.replicate_succ, List.flatten_cons]
    exact t.append (RepDs.replicate t n)
theorem RepS.look (r : RepS S ms H st) {a : Addr} {n : Nat} {o : O} (hm : ms[n]? = some a) (hs : st[n]? = some o) : RepO S ms H a o := r.ob n a o hm hs
/-- a list that may be changed -/
theorem lstOf_rep {sv : SV} {ds : List D} (r : RepS S ms H st) (h : RepSV S H0 ms H v sv) (e : lstOf st sv = some ds) : ∃ l vs, v = .ref l ∧ H l = some (.lst vs) ∧ RepDs S ms H vs ds := by
  unfold lstOf at e
  split at e
  · obtain ⟨p, vs, e1, _, e3, _, e5⟩ := h
    cases e
    exact ⟨p, vs, e1, e3, e5⟩
  · split at e
    · rename_i n xs hn
      cases e
      cases h with
      | loc hm =>
        have ro := r.look hm hn
        cases ro with
        | lst e1 t => exact ⟨_, _, rfl, e1, t⟩
    · cases e
  · cases e
/-- a list to be read -/
theorem lits_rep {sv : SV} {ds : List D} (r : RepS S ms H st) (h : RepSV S H0 ms H v sv) (e : lits st sv = some ds) : ∃ a vs, v = .ref a ∧ SqL S.K H a vs ∧ RepDs S ms H vs ds := by
  unfold lits at e
  split at e
  · obtain ⟨p, vs, e1, _, e3, _, e5⟩ := h
    cases e
    exact ⟨p, vs, e1, .of e3, e5⟩
  · cases e
    cases h with
    | fls hq t => exact ⟨_, _, rfl, hq.sq, t⟩
  · split at e
    · rename_i n xs hn
      cases e
      cases h with
      | loc hm =>
        have ro := r.look hm hn
        cases ro with
        | lst e1 t => exact ⟨_, _, rfl, .of e1, t⟩
    · cases e
  · cases e
/-- what has items: a list or a tuple to be read -/
theorem items_rep {sv : SV} {ds : List D} (r : RepS S ms H st) (h : RepSV S H0 ms H v sv) (e : items st sv = some ds) : ∃ a vs, v = .ref a ∧ (SqL S.K H a vs ∨ SqT S.K H a vs) ∧ RepDs S ms H vs ds := by
  unfold items at e
  split at e
  · obtain ⟨p, vs, e1, _, e3, _, e5⟩ := h
    cases e
    exact ⟨p, vs, e1, .inl (.of e3), e5⟩
  · cases e
    cases h with
    | tup hq t => exact ⟨_, _, rfl, .inr hq.sq, t⟩
  · cases e
    cases h with
    | fls hq t => exact ⟨_, _, rfl, .inl hq.sq, t⟩
  · split at e
    · rename_i n xs hn
      cases e
      cases h with
      | loc hm =>
        have ro := r.look hm hn
        cases ro with
        | lst e1 t => exact ⟨_, _, rfl, .inl (.of e1), t⟩
    · cases e
  · cases e
mutual
theorem dp_of : ∀ {v : V} {d : D} {p : PyData}, RepD S ms H v d → d.py = some p → Dp S.K H v p
  | _, _, _, .non, e => by simp [D.py] at e; subst e; exact .non
  | _, _, _, .bl b, e => by simp [D.py] at e; subst e; exact .bl b
  | _, _, _, .int i, e => by simp [D.py] at e; subst e; exact .int i
  | _, _, _, .str x, e => by simp [D.py] at e; subst e; exact .str x
  | _, _, _, .loc _, e => by simp [D.py] at e
  | _, _, _, .fls (ds := ds) h t, e => by
    simp only [D.py, Option.map_eq_some_iff] at e
    obtain ⟨ps, e1, e2⟩ := e
    subst e2
    exact .lst h.sq (dps_of t e1)
  | _, _, _, .tup (ds := ds) h t, e => by
    simp only [D.py, Option.map_eq_some_iff] at e
    obtain ⟨ps, e1, e2⟩ := e
    subst e2
    exact .tup h.sq (dps_of t e1)
theorem dps_of : ∀ {vs : List V} {ds : List D} {ps : List PyData}, RepDs S ms H vs ds → D.pys ds = some ps → DpAll S.K H vs ps
  | _, _, _, .nil, e => by simp [D.pys] at e; subst e; exact .nil
  | _, _, _, .cons h t, e => by
    simp only [D.pys] at e
    split at e
    · rename_i a as h1 h2
      cases e
      exact .cons (dp_of h h1) (dps_of t h2)
    · cases e
end
mutual
theorem plain_py : ∀ {d : D} {p : PyData}, d.py = some p → p.plain = true
  | .non, _, e => by simp [D.py] at e; subst e; rfl
  | .bl _, _, e => by simp [D.py] at e; subst e; rfl
  | .int _, _, e => by simp [D.py] at e; subst e; rfl
  | .str _, _, e => by simp [D.py] at e; subst e; rfl
  | .loc _, _, e => by simp [D.py] at e
  | .fls ds, _, e => by
    simp only [D.py, Option.map_eq_some_iff] at e
    obtain ⟨ps, e1, e2⟩ := e
    subst e2
    rw [PyData.plain]
    exact plain_pys e1
  | .tup ds, _, e => by
    simp only [D.py, Option.map_eq_some_iff] at e
    obtain ⟨ps, e1, e2⟩ := e
    subst e2
    simp only [PyData.plain]
    exact plain_pys e1
theorem plain_pys : ∀ {ds : List D} {ps : List PyData}, D.pys ds = some ps → PyData.plainAll ps = true
  | [], _, e => by simp [D.pys] at e; subst e; rfl
  | d :: ds, _, e => by
    simp only [D.pys] at e
    split at e
    · rename_i a as h1 h2
      cases e
      simp only [PyData.plainAll, plain_py h1, plain_pys h2, Bool.and_self]
    · cases e
end
theorem sv_dp {sv : SV} {p : PyData} (r : RepS S ms H st) (h : RepSV S H0 ms H v sv) (e : svPy st sv = some p) : Dp S.K H v p ∧ p.plain = true := by
  unfold svPy at e
  split at e
  · obtain ⟨q, vs, e1, _, e3, _, e5⟩ := h
    simp only [Option.map_eq_some_iff] at e
    obtain ⟨ps, h1, rfl⟩ := e
    subst e1
    exact ⟨.lst (.of e3) (dps_of e5 h1), by simp only [PyData.plain]; exact plain_pys h1⟩
  · rename_i n
    cases h with
    | loc hm =>
      split at e
      · rename_i xs hn
        have ro := r.look hm hn
        simp only [Option.map_eq_some_iff] at e
        obtain ⟨ps, h1, rfl⟩ := e
        cases ro with
        | lst e1 t => exact ⟨.lst (.of e1) (dps_of t h1), by simp only [PyData.plain]; exact plain_pys h1⟩
      · cases e
  · cases h with
    | fls hq t =>
      simp only [Option.map_eq_some_iff] at e
      obtain ⟨ps, h1, rfl⟩ := e
      exact ⟨.lst hq.sq (dps_of t h1), by simp only [PyData.plain]; exact plain_pys h1⟩
  · rename_i d _ _
    exact ⟨dp_of h e, plain_py e⟩
end

/-- the wish behind an operator that changes nothing -/
def Out (S : Wd) (ms : List Addr) (H : Hp) (r : SV) (Q : VK) : Prop := ∀ v H', Same H H' → RepSV S H ms H' v r → Q v H'
/-- an operator's reading -/
def rOp (S : Wd) (g : Store → SV → SV → Option SV) : R2 := fun x y H Q => ∃ ms st a b H0 H0' r, RepS S ms H st ∧ RepSV S H0 ms H x a ∧ RepSV S H0' ms H y b ∧ g st a b = some r ∧ Out S ms H r Q
def bSV (g : Store → SV → SV → Option Bool) : Store → SV → SV → Option SV := fun st a b => (g st a b).map fun c => .vl (.bl c)
section
variable {S : Wd} {ms : List Addr} {H H0 H1 : Hp} {st : Store} {v : V} {d : D} {Q : VK} {X : Cx}
theorem Out.int {i : Int} (h : Out S ms H (.vl (.int i)) Q) : Q (.int i) H := h _ _ (.refl H) (.int i)
theorem Out.bl {i : Bool} (h : Out S ms H (.vl (.bl i)) Q) : Q (.bl i) H := h _ _ (.refl H) (.bl i)
theorem Out.str {i : Str} (h : Out S ms H (.vl (.str i)) Q) : Q (.str i) H := h _ _ (.refl H) (.str i)
/-- a new list -/
theorem Out.fr {ds : List D} {vs : List V} (r : RepS S ms H st) (t : RepDs S ms H vs ds) (h : Out S ms H (.fr ds) Q) : ∀ p, H p = none → Q (.ref p) (upd H p (.lst vs)) := fun p hp =>
  h _ _ (same_upd hp) ⟨p, vs, rfl, hp, upd_same, r.free hp, t.same (same_upd hp) r⟩
/-- a new tuple -/
theorem Out.tup {ds : List D} {vs : List V} (r : RepS S ms H st) (t : RepDs S ms H vs ds) (h : Out S ms H (.vl (.tup ds)) Q) : ∀ p o, H p = none → o.dict = none → Q (.ref p) (upd H p (.frz o (.tup vs))) := fun p o hp ho =>
  h _ _ (same_upd hp) (.tup (.inl ⟨o, upd_same, ho⟩) (t.same (same_upd hp) r))
/-- a tuple that is there -/
theorem Out.old {ds : List D} {vs : List V} {a : Addr} (t : RepDs S ms H vs ds) (q : SqF S.K H a vs) (h : Out S ms H (.vl (.tup ds)) Q) : Q (.ref a) H := h _ _ (.refl H) (.tup q t)
theorem rI_of {H : Hp} {x : V} {i : Int} {H0 : Hp} {ms : List Addr} (h : RepSV S H0 ms H x (.vl (.int i))) : x = .int i := by
  have h : RepD S ms H x (.int i) := h
  cases h; rfl
theorem rS_of {H : Hp} {x : V} {i : Str} {H0 : Hp} {ms : List Addr} (h : RepSV S H0 ms H x (.vl (.str i))) : x = .str i := by
  have h : RepD S ms H x (.str i) := h
  cases h; rfl
/-- a new tuple, tracked with its object -/
theorem laidF {pins : List (Addr × Obj)} {σ : L2.St} {s : Shared} {its : List Value} {vs : List V} {t' : Nat} (I : Inv X pins σ H s) (rv : Vals vs its) (hz : vs.length ≤ sizeLine) :
    Inv X pins σ (upd H s.heap.objs.size (.frz { cls := .type "tuple", data := .seq its.toArray } (.tup vs))) { s with heap := s.heap.push { cls := .type "tuple", data := .seq its.toArray }, toks := t' } :=
  I.laid (t' := t') (fun b ob q => Heap.get?_push_of_some _ q) (Nat.le_refl _) ⟨Heap.get?_push_size _ rfl, hz, its, rv, IsTup.new _ _⟩
def rCatF (K : PySem.W.Frag) : R2 := fun x y H Q => ∃ a b xs ys, x = .ref a ∧ y = .ref b ∧ SqT K H a xs ∧ SqT K H b ys ∧ xs.length + ys.length ≤ sizeLine ∧
  (xs = [] → Q (.ref b) H) ∧ (xs ≠ [] → ys = [] → Q (.ref a) H) ∧ (xs ≠ [] → ys ≠ [] → ∀ p o, H p = none → o.dict = none → Q (.ref p) (upd H p (.frz o (.tup (xs ++ ys)))))
theorem op_catF : OpR X (binaryOp .Add) (rCatF X.K) := by
  intro pins s σ H x y v u Q I rx ry h
  obtain ⟨a, b, xs, ys, rfl, rfl, ha, hb, hz, q0, q1, q2⟩ := h
  cases rx
  cases ry
  obtain ⟨its, r1, p1, _⟩ := I.tuple ha
  obtain ⟨its2, r2, p2, _⟩ := I.tuple hb
  by_cases hx : xs = []
  · subst hx
    cases r1
    exact cat_tup0 p1 p2 ⟨.ref b, H, I, rfl, q0 rfl⟩
  · refine HT.cat_tup p1 p2 (fun z => hx (r1.nil_iff.mp z)) (fun z => ⟨.ref a, H, I, rfl, q1 hx (r2.nil_iff.mp z)⟩) (fun z => ?_) (by rw [← r1.length, ← r2.length]; exact hz)
    exact ⟨.ref s.heap.objs.size, _, laidF (t' := s.toks) I (r1.append r2) (by rw [List.length_append]; exact hz), rfl, q2 hx (fun w => z (r2.nil_iff.mpr w)) _ _ (I.hok.fresh (Nat.le_refl _)) rfl⟩
/-- a op b -/
theorem op_bin {op : Operator} (hK : X.K = S.K) (ho : op ∈ ops) : OpR X (binaryOp op) (rOp S (binop op)) := by
  intro pins s σ H x y v u Q I rx ry h
  obtain ⟨ms, st, a, b, H0, H0', r, rs, ra, rb, e, out⟩ := h
  unfold binop at e
  split at e
  · rename_i i j
    have ea := rI_of ra
    have eb := rI_of rb
    subst ea eb
    unfold binInt at e
    split at e
    · cases e
      exact op_add pins s σ H _ _ v u Q I rx ry ⟨i, j, rfl, rfl, out.int⟩
    · cases e
      exact op_sub pins s σ H _ _ v u Q I rx ry ⟨i, j, rfl, rfl, out.int⟩
    · split at e
      · rename_i hm
        cases e
        exact op_mul pins s σ H _ _ v u Q I rx ry ⟨i, j, rfl, rfl, hm, out.int⟩
      · cases e
    · split at e
      · rename_i hm
        cases e
        exact op_fdiv pins s σ H _ _ v u Q I rx ry ⟨i, j, rfl, rfl, hm, out.int⟩
      · cases e
    · split at e
      · rename_i hm
        cases e
        exact op_mod pins s σ H _ _ v u Q I rx ry ⟨i, j, rfl, rfl, hm, out.int⟩
      · cases e
    · split at e
      · rename_i hm
        cases e
        exact op_pow pins s σ H _ _ v u Q I rx ry ⟨i, j, rfl, rfl, hm, out.int⟩
      · cases e
    · split at e
      · rename_i hm
        cases e
        exact op_shl pins s σ H _ _ v u Q I rx ry ⟨i, j, rfl, rfl, hm, out.int⟩
      · cases e
    · cases e
  · rename_i i j
    split at e
    · rename_i hm
      obtain ⟨rfl, hz⟩ := hm
      cases e
      have ea := rS_of ra
      have eb := rS_of rb
      subst ea eb
      exact op_add_str pins s σ H _ _ v u Q I rx ry ⟨i, j, rfl, rfl, by rw [← szl_eq]; exact hz, out.str⟩
    · cases e
  · rename_i xs ys
    split at e
    · rename_i hm
      obtain ⟨rfl, hz⟩ := hm
      cases e
      have ra : RepD S ms H x (.tup xs) := ra
      have rb : RepD S ms H y (.tup ys) := rb
      cases ra with
      | tup ha ta =>
        cases rb with
        | tup hb tb =>
          rename_i a vs b ws
          refine op_catF pins s σ H _ _ v u Q I rx ry ⟨a, b, vs, ws, rfl, rfl, by rw [hK]; exact ha.sq, by rw [hK]; exact hb.sq, by rw [ta.length, tb.length, ← szl_eq]; exact hz, ?_, ?_, ?_⟩
          · rintro rfl
            cases ta
            exact out.old tb hb
          · rintro _ rfl
            cases tb
            exact (by simpa using out : Out S ms H (.vl (.tup xs)) Q).old ta ha
          · intro _ _
            exact out.tup rs (ta.append tb)
    · cases e
  · rename_i sv k _
    split at e
    · rename_i xs hl
      split at e
      · rename_i hm
        obtain ⟨rfl, h1, h2, hz⟩ := hm
        cases e
        obtain ⟨l, vs, rfl, hH, t⟩ := lstOf_rep rs ra hl
        have eb := rI_of rb
        subst eb
        refine op_rep pins s σ H _ _ v u Q I rx ry ⟨l, k, vs, rfl, rfl, hH, by omega, by omega, by rw [t.length, ← szl_eq]; exact hz, ?_⟩
        exact out.fr rs (t.replicate k.toNat)
      · cases e
    · cases e
  · split at e
    · rename_i xs ys h1 h2
      split at e
      · rename_i hm
        obtain ⟨rfl, hz⟩ := hm
        cases e
        obtain ⟨l, vs, rfl, hH, t⟩ := lstOf_rep rs ra h1
        obtain ⟨l', vs', rfl, hH', t'⟩ := lstOf_rep rs rb h2
        refine op_cat pins s σ H _ _ v u Q I rx ry ⟨l, l', vs, vs', rfl, rfl, hH, hH', by rw [t.length, t'.length, ← szl_eq]; exact hz, ?_⟩
        exact out.fr rs (t.append t')
      · cases e
    · cases e

/-! comparisons -/
theorem units_of {k : Nat} {A : Around} (r : Room k A) : A.units + 64 < cLine := r.units
theorem cmp_ok {op : CmpOp} {k : Nat} (hK : X.K = S.K) (hr : Room k X.A) (ho : op ∈ cmps) : OpR X (compareOp op) (rOp S (bSV (cmp op))) := by
  intro pins s σ H x y v u Q I rx ry h
  obtain ⟨ms, st, a, b, H0, H0', r, rs, ra, rb, e, out⟩ := h
  have hu := hr.units
  simp only [bSV, Option.map_eq_some_iff] at e
  obtain ⟨c, e, rfl⟩ := e
  have q := out.bl
  have fin : ∀ {c' : Bool}, c' = c → EP X pins σ Q (.bool c') s := fun {c'} ec => ⟨.bl c, H, I, by subst ec; rfl, q⟩
  -- == and !=
  have heq : ∀ {e' : Bool}, svEq st a b = some e' → ∃ da db as bs, Reads s.heap v da as ∧ Reads s.heap u db bs ∧ da.plain = true ∧ db.plain = true ∧ X.A.units + min da.depth db.depth < cLine ∧ PyData.eqv da db = e' := by
    intro e' h
    unfold svEq at h
    split at h
    · rename_i da db h1 h2
      obtain ⟨d1, p1⟩ := sv_dp rs ra h1
      obtain ⟨d2, p2⟩ := sv_dp rs rb h2
      rw [← hK] at d1 d2
      obtain ⟨as, r1⟩ := Dp.reads I _ _ _ d1 rx
      obtain ⟨bs, r2⟩ := Dp.reads I _ _ _ d2 ry
      unfold pyEq at h
      split at h
      · rename_i hd
        cases h
        refine ⟨da, db, as, bs, r1, r2, p1, p2, ?_, rfl⟩
        have h1 : da.depth ≤ 60 := hd.1
        have : min da.depth db.depth ≤ da.depth := Nat.min_le_left _ _
        omega
      · cases h
    · cases h
  have hin : ∀ {e' : Bool}, svIn st a b = some e' → ∃ da xs as bs, Reads s.heap v da as ∧ (Reads s.heap u (.list xs) bs ∨ Reads s.heap u (.tuple xs) bs) ∧ da.plain = true ∧ PyData.plainAll xs = true ∧ X.A.units + 1 + min (PyData.depthAll xs) da.depth < cLine ∧ (xs.any fun y => PyData.eqv y da) = e' := by
    intro e' h
    unfold svIn at h
    split at h
    · rename_i da ys h1 h2
      split at h
      · rename_i bs h3
        obtain ⟨d1, p1⟩ := sv_dp rs ra h1
        rw [← hK] at d1
        obtain ⟨as, r1⟩ := Dp.reads I _ _ _ d1 rx
        obtain ⟨l, vs, rfl, hl, t⟩ := items_rep rs rb h2
        unfold pyIn at h
        split at h
        · rename_i hd
          cases h
          have hd1 : da.depth ≤ 60 := hd.1
          have : min (PyData.depthAll bs) da.depth ≤ da.depth := Nat.min_le_right _ _
          rw [← hK] at hl
          have dt := dps_of t h3
          rw [← hK] at dt
          rcases hl with hl | hl
          · obtain ⟨bs', r2⟩ := Dp.reads I _ _ _ (Dp.lst hl dt) ry
            exact ⟨da, bs, as, bs', r1, .inl r2, p1, plain_pys h3, by omega, rfl⟩
          · obtain ⟨bs', r2⟩ := Dp.reads I _ _ _ (Dp.tup hl dt) ry
            exact ⟨da, bs, as, bs', r1, .inr r2, p1, plain_pys h3, by omega, rfl⟩
        · cases h
      · cases h
    · cases h
  have hord : ∀ {op' : CmpOp}, (op' = .Lt ∨ op' = .LtE ∨ op' = .Gt ∨ op' = .GtE) → cmpOrd op' st a b = some c → wpAny (model X.prog X.w) X.A (compareOp op' v u) (EP X pins σ Q) X.xe s := by
    intro op' hop h
    unfold cmpOrd at h
    split at h
    · rename_i i j
      have ea := rI_of ra
      have eb := rI_of rb
      subst ea eb
      rcases hop with rfl | rfl | rfl | rfl
      · cases h
        exact op_lt pins s σ H _ _ v u Q I rx ry ⟨i, j, rfl, rfl, q⟩
      · cases h
        exact op_le pins s σ H _ _ v u Q I rx ry ⟨i, j, rfl, rfl, q⟩
      · cases h
        exact op_gt pins s σ H _ _ v u Q I rx ry ⟨i, j, rfl, rfl, q⟩
      · cases h
        exact op_ge pins s σ H _ _ v u Q I rx ry ⟨i, j, rfl, rfl, q⟩
    · split at h
      · rename_i hlt
        subst hlt
        split at h
        · rename_i da db h1 h2
          obtain ⟨d1, p1⟩ := sv_dp rs ra h1
          obtain ⟨d2, p2⟩ := sv_dp rs rb h2
          rw [← hK] at d1 d2
          obtain ⟨as, r1⟩ := Dp.reads I _ _ _ d1 rx
          obtain ⟨bs, r2⟩ := Dp.reads I _ _ _ d2 ry
          unfold pyLt at h
          split at h
          · rename_i hd
            obtain ⟨ha, hn, hd1, hd2⟩ := hd
            cases h
            have h1 : da.depth ≤ 60 := hd1
            have hmin : min da.depth db.depth ≤ da.depth := Nat.min_le_left _ _
            refine PySem.W.rcLt_alike da db X.A s v u as bs r1 r2 ha (by rintro rfl; simp [pyNone] at hn) (by omega) _ _ _ _ (fin rfl)
          · cases h
        · cases h
      · cases h
  unfold cmp at e
  split at e
  · obtain ⟨da, db, as, bs, r1, r2, p1, p2, hu', e'⟩ := heq e
    exact PySem.SeqAt.eq_plain r1 r2 p1 p2 hu' (fin e')
  · simp only [Option.map_eq_some_iff] at e
    obtain ⟨e', h1, h2⟩ := e
    obtain ⟨da, db, as, bs, r1, r2, p1, p2, hu', e''⟩ := heq h1
    exact PySem.SeqAt.ne_plain r1 r2 p1 p2 hu' (fin (by rw [e'', h2]))
  · obtain ⟨da, xs, as, bs, r1, r2, p1, p2, hu', e'⟩ := hin e
    rcases r2 with r2 | r2
    · exact PySem.SeqAt.in_list_data r2 r1 p2 p1 hu' (fin e')
    · exact PySem.SeqAt.in_tuple_data r2 r1 p2 p1 hu' (fin e')
  · simp only [Option.map_eq_some_iff] at e
    obtain ⟨e', h1, h2⟩ := e
    obtain ⟨da, xs, as, bs, r1, r2, p1, p2, hu', e''⟩ := hin h1
    rcases r2 with r2 | r2
    · exact PySem.SeqAt.notIn_list_data r2 r1 p2 p1 hu' (fin (by rw [e'', h2]))
    · exact PySem.SeqAt.notIn_tuple_data r2 r1 p2 p1 hu' (fin (by rw [e'', h2]))
  · cases e
  · cases e
  · rename_i op' n1 n2 n3 n4 n5 n6
    refine hord ?_ e
    clear hord hin heq
    revert n1 n2 n3 n4 n5 n6
    cases op <;> simp
end
end Q


set_option linter.all false
set_option maxRecDepth 100000
set_option maxHeartbeats 2000000
set_option autoImplicit false
/-! Q4: expressions. -/
namespace Q
open PySem PySem.Spec PyProof.Rows L2
section
variable {S : Wd} {ms ms1 ms2 : List Addr} {H H0 H1 : Hp} {st s1 s2 : Store} {v : V} {d : D} {W : WX} {σ : L2.St} {α β γ δ : Type} {P : Rp α β} {Q : β → Hp → Prop}
mutual
theorem RepD.more {new : List Addr} : ∀ {v : V} {d : D}, RepD S ms H v d → RepD S (ms ++ new) H v d
  | _, _, .non => .non
  | _, _, .bl b => .bl b
  | _, _, .int i => .int i
  | _, _, .str y => .str y
  | _, _, .tup h t => .tup h (RepDs.more t)
  | _, _, .fls h t => .fls h (RepDs.more t)
  | _, _, .loc (n := n) h => .loc (by
    rw [List.getElem?_append_left]
    · exact h
    · exact (List.getElem?_eq_some_iff.mp h).1)
theorem RepDs.more {new : List Addr} : ∀ {vs : List V} {ds : List D}, RepDs S ms H vs ds → RepDs S (ms ++ new) H vs ds
  | _, _, .nil => .nil
  | _, _, .cons h t => .cons (RepD.more h) (RepDs.more t)
end
theorem RepFs.more {new : List Addr} : ∀ {vs : List (Str × V)} {ds : List (Str × D)}, RepFs S ms H vs ds → RepFs S (ms ++ new) H vs ds
  | _, _, .nil => .nil
  | _, _, .cons h t => .cons h.more (RepFs.more t)
theorem RepO.more {new : List Addr} {a : Addr} {o : O} (r : RepO S ms H a o) : RepO S (ms ++ new) H a o := by
  cases r with
  | lst h t => exact .lst h t.more
  | inst c h t => exact .inst c h t.more
/-- an object joins the store -/
theorem RepS.push {p : Addr} {o : O} (r : RepS S ms H st) (hp : p ∉ ms) (ho : RepO S (ms ++ [p]) H p o) : RepS S (ms ++ [p]) H (st ++ [o]) := by
  refine ⟨?_, by simp [r.len], fun n a u e1 e2 => ?_⟩
  · rw [List.nodup_append]
    exact ⟨r.nd, by simp, fun a ha b hb e => by simp at hb; subst hb; subst e; exact hp ha⟩
  · by_cases hn : n < ms.length
    · rw [List.getElem?_append_left hn] at e1
      rw [List.getElem?_append_left (by rw [← r.len]; exact hn)] at e2
      exact (r.ob n a u e1 e2).more
    · rw [List.getElem?_append_right (by omega)] at e1
      rw [List.getElem?_append_right (by rw [← r.len]; omega)] at e2
      have hz : n - ms.length = 0 := by
        have := (List.getElem?_eq_some_iff.mp e1).1
        simp at this
        omega
      rw [hz] at e1
      rw [← r.len, hz] at e2
      simp at e1 e2
      subst e1 e2
      exact ho
theorem RepS.at_len {p : Addr} (r : RepS S ms H st) : (ms ++ [p])[st.length]? = some p := by
  rw [← r.len]; simp
/-- an answer goes on; the end is told from where it began -/
theorem EndG.bind0 {P1 : Rp γ δ} {Q1 : δ → Hp → Prop} {r : R γ} {g : γ → Store → R α} (h : EndG S W σ ms H P Q (r.bind g))
    (k : ∀ a s1 v ms1 H1, Ext ms H ms1 H1 → RepS S ms1 H1 s1 → P1 H ms1 H1 v a → EndG S W σ ms H P Q (g a s1) → Q1 v H1) : EndG S W σ ms H P1 Q1 r := by
  cases r with
  | ok a s1 => exact fun v ms1 H1 x r1 p => k a s1 v ms1 H1 x r1 p h
  | exc e s1 => exact h
  | bad => exact h
theorem R.bind_assoc {r : R α} {f : α → Store → R β} {g : β → Store → R γ} : (r.bind f).bind g = r.bind fun a s => (f a s).bind g := by cases r <;> rfl
/-- a value that is settled -/
theorem EndG.val {f : Ev} {C : Calls} {env : Slots} {g : D → Store → R α} {Q1 : V → Hp → Prop} (b : Back P) (r0 : RepS S ms H st) (h : EndG S W σ ms H P Q ((val f C env st).bind g))
    (k : ∀ d s1 v ms1 H1, Ext ms H ms1 H1 → RepS S ms1 H1 s1 → RepD S ms1 H1 v d → EndG S W σ ms1 H1 P Q (g d s1) → Q1 v H1) : EndG S W σ ms H (pSV S) Q1 (f C env st) := by
  unfold _root_.Q.val at h
  rw [R.bind_assoc] at h
  refine EndG.bind0 (P1 := pSV S) h fun a s1 v ms1 H1 x r1 p h' => ?_
  cases a with
  | vl d => exact k d s1 v ms1 H1 x r1 p (EndG.from b x r0 r1 h')
  | fr ds =>
    obtain ⟨p, vs, rfl, e2, e3, e4, e5⟩ := p
    have r2 : RepS S (ms1 ++ [p]) H1 (s1 ++ [.lst ds]) := r1.push e4 (.lst e3 e5.more)
    have x2 : Ext ms H (ms1 ++ [p]) H1 := by
      obtain ⟨new, e, f⟩ := x.more
      refine ⟨⟨new ++ [p], by rw [e, List.append_assoc], fun c hc => ?_⟩, x.keep⟩
      rcases List.mem_append.mp hc with hc | hc
      · exact f c hc
      · simp at hc; subst hc; exact e2
    exact k (.loc s1.length) _ _ _ H1 x2 r2 (.loc r1.at_len) (EndG.from b x2 r0 r2 h')
theorem EndG.ret {a : α} {v : β} {ms' : List Addr} {H' : Hp} (h : EndG S W σ ms H P Q (.ok a st)) (x : Ext ms H ms' H') (rs : RepS S ms' H' st) (p : P H ms' H' v a) : Q v H' := h v ms' H' x rs p
/-! a list that nobody else holds stays as it is from here on -/
section
variable {w : List V} {p : Addr} {u : HO}
theorem sqF_updz {a : Addr} {vs : List V} (hD : H p = some (.lst w)) (h : SqF S.K H a vs) : SqF S.K (upd H p u) a vs := by
  rcases h with ⟨o, h, e⟩ | h
  · exact .inl ⟨o, by rw [upd_ne (fun z => by rw [z, hD] at h; cases h)]; exact h, e⟩
  · exact .inr h
theorem sqZ_updz {a : Addr} {vs : List V} (hD : H p = some (.lst w)) (h : SqZ S.K H a vs) : SqZ S.K (upd H p u) a vs := by
  rcases h with ⟨o, h⟩ | h
  · exact .inl ⟨o, by rw [upd_ne (fun z => by rw [z, hD] at h; cases h)]; exact h⟩
  · exact .inr h
mutual
theorem RepD.updz (hD : H p = some (.lst w)) : ∀ {v : V} {d : D}, RepD S ms H v d → RepD S ms (upd H p u) v d
  | _, _, .non => .non
  | _, _, .bl b => .bl b
  | _, _, .int i => .int i
  | _, _, .str y => .str y
  | _, _, .tup h t => .tup (sqF_updz hD h) (RepDs.updz hD t)
  | _, _, .fls h t => .fls (sqZ_updz hD h) (RepDs.updz hD t)
  | _, _, .loc h => .loc h
theorem RepDs.updz (hD : H p = some (.lst w)) : ∀ {vs : List V} {ds : List D}, RepDs S ms H vs ds → RepDs S ms (upd H p u) vs ds
  | _, _, .nil => .nil
  | _, _, .cons h t => .cons (RepD.updz hD h) (RepDs.updz hD t)
end
theorem RepFs.updz (hD : H p = some (.lst w)) : ∀ {vs : List (Str × V)} {ds : List (Str × D)}, RepFs S ms H vs ds → RepFs S ms (upd H p u) vs ds
  | _, _, .nil => .nil
  | _, _, .cons h t => .cons (RepD.updz hD h) (RepFs.updz hD t)
theorem RepS.updz (hD : H p = some (.lst w)) (hp : p ∉ ms) (r : RepS S ms H st) : RepS S ms (upd H p u) st := by
  refine ⟨r.nd, r.len, fun n a o e1 e2 => ?_⟩
  have ha : a ≠ p := fun z => hp (z ▸ List.mem_of_getElem? e1)
  cases r.ob n a o e1 e2 with
  | lst h t => exact .lst (by rw [upd_ne ha]; exact h) (t.updz hD)
  | inst c h t => exact .inst c (by rw [upd_ne ha]; exact h) (t.updz hD)
end
theorem pe_frz {X : Cx} {e : Expr} {t : TE} (h : PE X e t) : PE X e (fun σ H Q => t σ H fun v H1 => Q v H1 ∨ ∃ a vs, v = .ref a ∧ H1 a = some (.lst vs) ∧ ∀ o, Q v (upd H1 a (.frz o (.lst vs)))) :=
  ⟨fun pins s σ H Q I q => thn (h.run pins s σ H _ I q) fun v s1 ⟨x, H1, I1, r1, q1⟩ => by
    rcases q1 with q1 | ⟨a, vs, rfl, e1, q1⟩
    · exact ⟨x, H1, I1, r1, q1⟩
    · obtain ⟨od, I2⟩ := I1.lock e1 trivial
      exact ⟨_, _, I2, r1, q1 od⟩⟩
theorem fe_frz {cc : CC} {k : Nat} {C : Calls} {sc : Scope} {e : Expr} {f : Ev} (h : FE S cc k C sc e f) : FE S cc k C sc e (eFrz f) := fun W X cx =>
  _root_.Q.PE.imp (pe_frz (h W X cx)) fun σ H Q ⟨env, st, ms, r, re, q⟩ => ⟨env, st, ms, r, re, EndG.bind0 (P1 := pSV S) q fun a s1 v ms1 H1 x1 r1 p1 h1 => by
    cases a with
    | vl d => exact .inl (h1 v ms1 H1 x1 r1 p1)
    | fr ds =>
      obtain ⟨p, vs, rfl, e2, e3, e4, e5⟩ := p1
      refine .inr ⟨p, vs, rfl, e3, fun o => h1 _ ms1 _ ⟨x1.more, fun b u hb hm => ?_⟩ (r1.updz e3 e4) ?_⟩
      · rw [upd_ne (fun z => by rw [z, e2] at hb; cases hb)]
        exact x1.keep b u hb hm
      · exact .fls (.inl ⟨o, upd_same⟩) (e5.updz e3)⟩
theorem fe_z {cc : CC} {k : Nat} {C : Calls} {sc : Scope} {g : Expr → Option Ev} (h : ∀ e f, g e = some f → FE S cc k C sc e f) : ∀ e f, cZ g e = some f → FE S cc k C sc e f := fun e f hf => by
  unfold cZ at hf
  simp only [Option.map_eq_some_iff] at hf
  obtain ⟨f', h1, rfl⟩ := hf
  split
  · exact fe_frz (h e f' h1)
  · exact h e f' h1
end

section
variable {S : Wd} {cc : CC} {k : Nat} {C : Calls} {sc : Scope}
theorem slot_get {N : List Str} {x : Str} {i : Nat} (h : slot N x = some i) : N[i]? = some x := by
  unfold slot at h
  split at h
  · split at h
    · rename_i h1
      cases h
      exact h1
    · cases h
  · cases h
theorem vis_of {x : Str} (h : visB sc x = true) : Vis sc x := by
  unfold visB at h
  split at h
  · exact .inl (by assumption)
  · exact .inr (.inl (by assumption))
  · exact .inr (.inr (by assumption))
  · cases h
theorem loc_of {x : Str} (h : locB sc x = true) : Loc sc x := by
  unfold locB at h
  split at h
  · exact .inl (by assumption)
  · exact .inr (by assumption)
  · cases h
theorem gl_of {W : WX} {X : Cx} {x : Str} (c : Ctx S cc.N k W sc X) (h : glB sc x = true) : Gl X x := by
  unfold glB at h
  unfold Gl
  show X.env.scope.names.lookup x = _
  rw [c.scope]
  exact of_decide_eq_true h
theorem plain_of {x : Str} (h : plainName x = true) : (x == ("__debug__" : Str)) = false ∧ (x == ("__classdict__" : Str)) = false ∧ x ≠ ("__name__" : Str) := by
  unfold plainName at h
  simp only [Bool.and_eq_true, Bool.not_eq_true'] at h
  exact ⟨h.1.1, h.1.2, by simpa using h.2⟩
theorem fe_var {x : Str} {i : Nat} {p : Pos} (hs : slot cc.N x = some i) (hv : visB sc x = true) (hp : plainName x = true) : FE S cc k C sc (.Name x p) (eVar i) := by
  intro W X c
  obtain ⟨h1, h2, _⟩ := plain_of hp
  refine PE.imp (pe_var (i := i) (by rw [c.slots]; exact slot_get hs) (by rw [c.scope]; exact vis_of hv) h1 h2) fun σ H Q => ?_
  rintro ⟨env, st, ms, r, re, h⟩
  unfold eVar at h
  split at h
  · rename_i d hd
    obtain ⟨v, e1, r1⟩ := re.at_ i d hd
    exact ⟨v, e1, h.ret .refl r r1⟩
  · exact h.elim
theorem fe_glb {x : Str} {d : D} {p : Pos} {u : Value} {v : V} (hg : glB sc x = true) (hp : plainName x = true) (hm : S.mg x = some u) (rv : RelV v u) (rd : ∀ ms H, RepD S ms H v d) : FE S cc k C sc (.Name x p) (eC d) := by
  intro W X c
  refine PE.imp (pe_glob (v := v) (gl_of c hg) (by rw [c.mg]; exact hm) rv (plain_of hp).1) fun σ H Q => ?_
  rintro ⟨env, st, ms, r, re, h⟩
  exact h.ret .refl r (rd ms H)
theorem fe_int {i : Int} {j : Nat} {p : Pos} : FE S cc k C sc (.Constant (.int i) j p) (eC (.int i)) := fun W X c => PE.imp pe_int fun σ H Q ⟨env, st, ms, r, re, h⟩ => h.ret .refl r (.int i)
theorem fe_bool {i : Bool} {j : Nat} {p : Pos} : FE S cc k C sc (.Constant (.bool i) j p) (eC (.bl i)) := fun W X c => PE.imp pe_bl fun σ H Q ⟨env, st, ms, r, re, h⟩ => h.ret .refl r (.bl i)
theorem fe_non {j : Nat} {p : Pos} : FE S cc k C sc (.Constant .none j p) (eC .non) := fun W X c => PE.imp pe_non fun σ H Q ⟨env, st, ms, r, re, h⟩ => h.ret .refl r .non
theorem fe_str {x : Str} {j : Nat} {p : Pos} : FE S cc k C sc (.Constant (.str x) j p) (eC (.str x)) := fun W X c => PE.imp pe_str fun σ H Q ⟨env, st, ms, r, re, h⟩ => h.ret .refl r (.str x)
variable {a b e : Expr} {fa fb : Ev} {p : Pos}
/-- two expressions, then an operator that changes nothing -/
theorem end_op {W : WX} {σ : L2.St} {ms : List Addr} {H : Hp} {st : Store} {env : Slots} {Q : VK} {g : Store → SV → SV → Option SV} (r : RepS S ms H st) (re : RepE S ms H σ env)
    (h : EndG S W σ ms H (pSV S) Q ((fa C env st).bind fun x s1 => (fb C env s1).bind fun y s2 => .ofO (g s2 x y) s2)) : tOp (rOp S g) (tG S W C (pSV S) fa) (tG S W C (pSV S) fb) σ H Q := by
  refine ⟨env, st, ms, r, re, EndG.bind pSV_back r h fun x s1 v ms1 H1 x1 r1 p1 h1 => ?_⟩
  refine ⟨env, s1, ms1, r1, re.ext x1 r, EndG.bind pSV_back r1 h1 fun y s2 u ms2 H2 x2 r2 p2 h2 => ?_⟩
  obtain ⟨z, hz, h3⟩ := h2.ofO
  exact ⟨ms2, s2, x, y, H, H1, z, r2, RepSV.ext x2 r1 p1, p2, hz, fun v H' sm rv => h3.ret (.same sm) (r2.same sm) rv⟩
theorem fe_bin {op : Operator} (ho : op ∈ ops) (ha : FE S cc k C sc a fa) (hb : FE S cc k C sc b fb) : FE S cc k C sc (.BinOp a op b p) (eBin op fa fb) := by
  intro W X c
  refine PE.imp (pe_op (op_bin c.K ho) (ha W X c) (hb W X c)) fun σ H Q => ?_
  rintro ⟨env, st, ms, r, re, h⟩
  exact end_op r re h
theorem fe_neg (ha : FE S cc k C sc a fa) : FE S cc k C sc (.UnaryOp .USub a p) (eNeg fa) := by
  intro W X c
  refine PE.imp (pe_un un_neg (ha W X c)) fun σ H Q => ?_
  rintro ⟨env, st, ms, r, re, h⟩
  refine ⟨env, st, ms, r, re, EndG.bind pSV_back r h fun x s1 v ms1 H1 x1 r1 p1 h1 => ?_⟩
  split at h1
  · rename_i i
    exact ⟨i, rI_of p1, h1.ret .refl r1 (.int (-i))⟩
  · exact h1.elim
theorem tru_rep {ms : List Addr} {H H0 : Hp} {st : Store} {sv : SV} {v : V} {b : Bool} (r : RepS S ms H st) (h : RepSV S H0 ms H v sv) (e : tru st sv = some b) : TruV S.K v H b := by
  have emp : ∀ {vs : List V} {ds : List D}, RepDs S ms H vs ds → (!ds.isEmpty) = !vs.isEmpty := fun t => by cases t <;> rfl
  unfold tru at e
  split at e
  · obtain ⟨q, vs, rfl, _, e3, _, e5⟩ := h
    cases e
    exact .inl ⟨vs, .of e3, emp e5⟩
  · cases e; cases h; rfl
  · cases e; cases h; rfl
  · cases e; cases h; rfl
  · split at e
    · rename_i x hz
      cases e; cases h
      refine ⟨by rw [← szl_eq]; exact hz, ?_⟩
      cases hx : x.length <;> rfl
    · cases e
  · cases e
    cases h with
    | tup hq t => exact .inr (.inl ⟨_, hq.sq, emp t⟩)
  · rename_i n
    cases h with
    | loc hm =>
      split at e
      · rename_i xs hn
        cases e
        cases r.look hm hn with
        | lst e1 t => exact .inl ⟨_, .of e1, emp t⟩
      · cases e
  · cases e
    cases h with
    | fls hq t => exact .inl ⟨_, hq.sq, emp t⟩
theorem fe_not (ha : FE S cc k C sc a fa) : FE S cc k C sc (.UnaryOp .Not a p) (eNot fa) := by
  intro W X c
  refine PE.imp (pe_notT (ha W X c)) fun σ H Q => ?_
  rintro ⟨env, st, ms, r, re, h⟩
  refine ⟨env, st, ms, r, re, EndG.bind pSV_back r h fun x s1 v ms1 H1 x1 r1 p1 h1 => ?_⟩
  split at h1
  · rename_i b hb
    exact ⟨b, by rw [c.K]; exact tru_rep r1 p1 hb, h1.ret .refl r1 (.bl _)⟩
  · exact h1.elim
theorem fe_one {op : BoolOp} (ha : FE S cc k C sc a fa) : FE S cc k C sc (.BoolOp op [a] p) fa := fun W X c => pe_one (ha W X c)
theorem fe_and {rest : List Expr} (ha : FE S cc k C sc a fa) (hb : FE S cc k C sc (.BoolOp .And (b :: rest) p) fb) : FE S cc k C sc (.BoolOp .And (a :: b :: rest) p) (eAnd fa fb) := by
  intro W X c
  refine PE.imp (pe_andT (ha W X c) (hb W X c)) fun σ H Q => ?_
  rintro ⟨env, st, ms, r, re, h⟩
  refine ⟨env, st, ms, r, re, EndG.bind0 (P1 := pSV S) h fun x s1 v ms1 H1 x1 r1 p1 h1 => ?_⟩
  split at h1
  · rename_i hb
    exact ⟨true, by rw [c.K]; exact tru_rep r1 p1 hb, iteT ⟨env, s1, ms1, r1, re.ext x1 r, EndG.from pSV_back x1 r r1 h1⟩⟩
  · rename_i hb
    exact ⟨false, by rw [c.K]; exact tru_rep r1 p1 hb, iteF (h1.ret x1 r1 p1)⟩
  · exact h1.elim
theorem fe_or {rest : List Expr} (ha : FE S cc k C sc a fa) (hb : FE S cc k C sc (.BoolOp .Or (b :: rest) p) fb) : FE S cc k C sc (.BoolOp .Or (a :: b :: rest) p) (eOr fa fb) := by
  intro W X c
  refine PE.imp (pe_orT (ha W X c) (hb W X c)) fun σ H Q => ?_
  rintro ⟨env, st, ms, r, re, h⟩
  refine ⟨env, st, ms, r, re, EndG.bind0 (P1 := pSV S) h fun x s1 v ms1 H1 x1 r1 p1 h1 => ?_⟩
  split at h1
  · rename_i hb
    exact ⟨true, by rw [c.K]; exact tru_rep r1 p1 hb, iteT (h1.ret x1 r1 p1)⟩
  · rename_i hb
    exact ⟨false, by rw [c.K]; exact tru_rep r1 p1 hb, iteF ⟨env, s1, ms1, r1, re.ext x1 r, EndG.from pSV_back x1 r r1 h1⟩⟩
  · exact h1.elim

/-! comparisons -/
theorem noSet_mark {op : CmpOp} (h : noSet b = true) : behindInMarks op b = false := by
  cases b <;> first | rfl | cases h
theorem end_cmp {W : WX} {σ : L2.St} {ms : List Addr} {H : Hp} {st : Store} {env : Slots} {Q : Bool → Hp → Prop} {Qv : VK} {g : Store → SV → SV → Option Bool} (hq : ∀ z H', Q z H' → Qv (.bl z) H') (r : RepS S ms H st) (re : RepE S ms H σ env)
    (h : EndG S W σ ms H pB Q ((fa C env st).bind fun x s1 => (fb C env s1).bind fun y s2 => .ofO (g s2 x y) s2)) :
    tOp (rOp S (bSV g)) (tG S W C (pSV S) fa) (tG S W C (pSV S) fb) σ H Qv := by
  refine ⟨env, st, ms, r, re, EndG.bind pB_back r h fun x s1 v ms1 H1 x1 r1 p1 h1 => ?_⟩
  refine ⟨env, s1, ms1, r1, re.ext x1 r, EndG.bind pB_back r1 h1 fun y s2 u ms2 H2 x2 r2 p2 h2 => ?_⟩
  obtain ⟨z, hz, h3⟩ := h2.ofO
  refine ⟨ms2, s2, x, y, H, H1, .vl (.bl z), r2, RepSV.ext x2 r1 p1, p2, by simp [bSV, hz], fun v H' sm rv => ?_⟩
  have rv : RepD S ms2 H' v (.bl z) := rv
  cases rv
  exact hq _ _ (h3.ret (.same sm) (r2.same sm) rfl)
theorem ft_cmp {op : CmpOp} (ho : op ∈ cmps) (hn : noSet b = true) (ha : FE S cc k C sc a fa) (hb : FE S cc k C sc b fb) : FT S cc k C sc (.Compare a [op] [b] p) (tCmp op fa fb) := by
  intro W X c
  refine PT.imp (pt_cmpR (cmp_ok c.K c.room ho) (ha W X c) (hb W X c) (noSet_mark hn)) fun σ H Q => ?_
  rintro ⟨env, st, ms, r, re, h⟩
  exact end_cmp (fun z _ q => ⟨z, rfl, q⟩) r re h
/-- a test's answer as a value -/
theorem end_test {W : WX} {σ : L2.St} {ms : List Addr} {H : Hp} {Q : VK} {r : R Bool} (h : EndG S W σ ms H (pSV S) Q (r.bind fun b s1 => .ok (.vl (.bl b)) s1)) : EndG S W σ ms H pB (fun b H' => Q (.bl b) H') r :=
  EndG.bind0 h fun z s1 v ms1 H1 x1 r1 p1 h1 => by
    have p1 : v = z := p1
    subst p1
    exact h1.ret x1 r1 (.bl v)
theorem fe_cmp {op : CmpOp} (ho : op ∈ cmps) (hn : noSet b = true) (ha : FE S cc k C sc a fa) (hb : FE S cc k C sc b fb) : FE S cc k C sc (.Compare a [op] [b] p) (eTest (tCmp op fa fb)) := by
  intro W X c
  refine PE.imp (pe_cmpR (cmp_ok c.K c.room ho) (ha W X c) (hb W X c) (noSet_mark hn)) fun σ H Q => ?_
  rintro ⟨env, st, ms, r, re, h⟩
  exact end_cmp (fun z _ q => q) r re (end_test h)
/-- a op b op' c -/
theorem end_chain {op op' : CmpOp} {b c : Expr} {fc : Ev} {W : WX} {σ : L2.St} {ms : List Addr} {H : Hp} {st : Store} {env : Slots} {Q : Bool → Hp → Prop} {Qv : VK} (hq : ∀ z H', Q z H' → Qv (.bl z) H') (r : RepS S ms H st) (re : RepE S ms H σ env)
    (h : EndG S W σ ms H pB Q (tChain op op' fa fb fc C env st)) :
    L2.tChain (rOp S (bSV (cmp op))) (rOp S (bSV (cmp op'))) (tG S W C (pSV S) fa) (tG S W C (pSV S) fb) (tG S W C (pSV S) fc) σ H Qv := by
  unfold _root_.Q.tChain at h
  refine ⟨env, st, ms, r, re, EndG.bind pB_back r h fun x s1 v ms1 H1 x1 r1 p1 h1 => ?_⟩
  refine ⟨env, s1, ms1, r1, re.ext x1 r, EndG.bind pB_back r1 h1 fun y s2 u ms2 H2 x2 r2 p2 h2 => ?_⟩
  split at h2
  · rename_i hc
    refine ⟨ms2, s2, x, y, H, H1, .vl (.bl true), r2, RepSV.ext x2 r1 p1, p2, by simp [bSV, hc], fun v H' sm rv => ?_⟩
    have rv : RepD S ms2 H' v (.bl true) := rv
    cases rv
    have re2 : RepE S ms2 H' σ env := ((re.ext x1 r).ext x2 r1).ext (.same sm) r2
    have r2' := r2.same sm
    have h2' := EndG.from pB_back (.same sm) r2 r2' h2
    refine ⟨true, rfl, iteT ⟨env, s2, ms2, r2', re2, EndG.bind pB_back r2' h2' fun z s3 u' ms3 H3 x3 r3 p3 h3 => ?_⟩⟩
    obtain ⟨t, ht, h4⟩ := h3.ofO
    refine ⟨ms3, s3, y, z, H1, H', .vl (.bl t), r3, RepSV.ext x3 r2' (RepSV.ext (.same sm) r2 p2), p3, by simp [bSV, ht], fun v H'' sm' rv' => ?_⟩
    have rv' : RepD S ms3 H'' v (.bl t) := rv'
    cases rv'
    exact hq _ _ (h4.ret (.same sm') (r3.same sm') rfl)
  · rename_i hc
    refine ⟨ms2, s2, x, y, H, H1, .vl (.bl false), r2, RepSV.ext x2 r1 p1, p2, by simp [bSV, hc], fun v H' sm rv => ?_⟩
    have rv : RepD S ms2 H' v (.bl false) := rv
    cases rv
    exact ⟨false, rfl, iteF (hq _ _ (h2.ret (.same sm) (r2.same sm) rfl))⟩
  · exact h2.elim
theorem lastMarks_no {op op' : CmpOp} {b c : Expr} (h : noSet c = true) : lastMarks [op, op'] [b, c] = false := by
  show lastMarks [op'] [c] = false
  exact noSet_mark h
theorem ft_chain {op op' : CmpOp} {c : Expr} {fc : Ev} (ho : op ∈ cmps) (ho' : op' ∈ cmps) (hn : noSet c = true) (ha : FE S cc k C sc a fa) (hb : FE S cc k C sc b fb) (hc : FE S cc k C sc c fc) : FT S cc k C sc (.Compare a [op, op'] [b, c] p) (tChain op op' fa fb fc) := by
  intro W X cx
  refine PT.imp (pt_chain (cmp_ok cx.K cx.room ho) (cmp_ok cx.K cx.room ho') (ha W X cx) (hb W X cx) (hc W X cx) (lastMarks_no hn)) fun σ H Q => ?_
  rintro ⟨env, st, ms, r, re, h⟩
  exact end_chain (b := b) (c := c) (fun z _ q => ⟨z, rfl, q⟩) r re h
theorem fe_chain {op op' : CmpOp} {c : Expr} {fc : Ev} (ho : op ∈ cmps) (ho' : op' ∈ cmps) (hn : noSet c = true) (ha : FE S cc k C sc a fa) (hb : FE S cc k C sc b fb) (hc : FE S cc k C sc c fc) : FE S cc k C sc (.Compare a [op, op'] [b, c] p) (eTest (tChain op op' fa fb fc)) := by
  intro W X cx
  refine PE.imp (pe_chain (cmp_ok cx.K cx.room ho) (cmp_ok cx.K cx.room ho') (ha W X cx) (hb W X cx) (hc W X cx) (lastMarks_no hn)) fun σ H Q => ?_
  rintro ⟨env, st, ms, r, re, h⟩
  exact end_chain (b := b) (c := c) (fun z _ q => q) r re (end_test h)
end
end Q


set_option linter.all false
set_option maxRecDepth 100000
set_option maxHeartbeats 2000000
set_option autoImplicit false
/-! Q5: more expressions: None, ranges, displays, tests, subscripts, fields. -/
namespace Q
open PySem PySem.Spec PyProof.Rows L2
section
variable {S : Wd} {cc : CC} {k : Nat} {C : Calls} {sc : Scope} {a b e : Expr} {fa fb : Ev} {p : Pos}
theorem isNon_rep {H0 H : Hp} {ms : List Addr} {v : V} {sv : SV} (h : RepSV S H0 ms H v sv) : decide (v = .non) = isNon sv := by
  cases sv with
  | fr ds => obtain ⟨q, vs, rfl, _⟩ := h; rfl
  | vl d =>
    have h : RepD S ms H v d := h
    cases h <;> rfl
theorem end_isN {W : WX} {σ : L2.St} {ms : List Addr} {H : Hp} {st : Store} {env : Slots} {Q : Bool → Hp → Prop} {Qv : VK} {neg : Bool → Bool} (hq : ∀ z H', Q z H' → Qv (.bl z) H') (r : RepS S ms H st) (re : RepE S ms H σ env)
    (h : EndG S W σ ms H pB Q ((fa C env st).bind fun x s1 => .ok (neg (isNon x)) s1)) : tOp (fun x y H Q => y = .non ∧ Q (.bl (neg (decide (x = .non)))) H) (tG S W C (pSV S) fa) (tC .non) σ H Qv := by
  refine ⟨env, st, ms, r, re, EndG.bind pB_back r h fun x s1 v ms1 H1 x1 r1 p1 h1 => ⟨rfl, ?_⟩⟩
  rw [isNon_rep p1]
  exact hq _ _ (h1.ret .refl r1 rfl)
theorem ft_isN {j : Nat} {q : Pos} (ha : FE S cc k C sc a fa) : FT S cc k C sc (.Compare a [.Is] [.Constant .none j q] p) (tIsN fa) := by
  intro W X c
  refine PT.imp (pt_cmpR op_isN (ha W X c) pe_non (nomark _)) fun σ H Q => ?_
  rintro ⟨env, st, ms, r, re, h⟩
  exact end_isN (neg := id) (fun z _ q => ⟨z, rfl, q⟩) r re h
theorem ft_notN {j : Nat} {q : Pos} (ha : FE S cc k C sc a fa) : FT S cc k C sc (.Compare a [.IsNot] [.Constant .none j q] p) (tNotN fa) := by
  intro W X c
  refine PT.imp (pt_cmpR op_notN (ha W X c) pe_non (nomark _)) fun σ H Q => ?_
  rintro ⟨env, st, ms, r, re, h⟩
  exact end_isN (neg := fun b => !b) (fun z _ q => ⟨z, rfl, q⟩) r re h
theorem fe_isN {j : Nat} {q : Pos} (ha : FE S cc k C sc a fa) : FE S cc k C sc (.Compare a [.Is] [.Constant .none j q] p) (eTest (tIsN fa)) := by
  intro W X c
  refine PE.imp (pe_cmpR op_isN (ha W X c) pe_non (nomark _)) fun σ H Q => ?_
  rintro ⟨env, st, ms, r, re, h⟩
  exact end_isN (neg := id) (fun z _ q => q) r re (end_test h)
theorem fe_notN {j : Nat} {q : Pos} (ha : FE S cc k C sc a fa) : FE S cc k C sc (.Compare a [.IsNot] [.Constant .none j q] p) (eTest (tNotN fa)) := by
  intro W X c
  refine PE.imp (pe_cmpR op_notN (ha W X c) pe_non (nomark _)) fun σ H Q => ?_
  rintro ⟨env, st, ms, r, re, h⟩
  exact end_isN (neg := fun b => !b) (fun z _ q => q) r re (end_test h)

/-! x in range(n) -/
theorem cr_range1 {X : Cx} : CallR X (.type "range") (fun vs H Q => ∃ j, vs = [V.int j] ∧ ∀ p, H p = none → Q (.ref p) (upd H p (.rng 0 j))) := by
  intro pins s σ H xs us Q I r h
  obtain ⟨j, rfl, q⟩ := h
  obtain ⟨u1, rfl, rj⟩ := vals1 r
  obtain ⟨t, rfl⟩ := rj
  refine call_range_1 ⟨.ref s.heap.objs.size, upd H s.heap.objs.size (.rng 0 j), I.laid (t' := _) (fun b o e => Heap.get?_push_of_some _ e) (Nat.le_refl _) ?_, rfl, q _ (I.hok.fresh (Nat.le_refl _))⟩
  exact ⟨_, t, _, Heap.get?_push_size _ rfl⟩
theorem op_notIn_rng {X : Cx} : OpR X (compareOp .NotIn) (fun x y H Q => ∃ i a lo hi, x = V.int i ∧ y = V.ref a ∧ H a = some (.rng lo hi) ∧ Q (.bl (!decide (lo ≤ i ∧ i < hi))) H) := by
  intro pins s σ H x y v u Q I rx ry h
  obtain ⟨i, a, lo, hi, rfl, rfl, ha, q⟩ := h
  obtain ⟨k, rfl⟩ := rx
  obtain rfl : u = Value.ref a := ry
  obtain ⟨t1, t2, t3, ho⟩ := I.hok a _ ha
  show wpAny _ _ (do return Value.bool (!(← contains (Value.ref a) (Value.int i k)))) _ _ s
  refine wpAny_bind (wpAny_contains_slot (T := "range") ⟨_, ho, rfl⟩ F.slot_range_contains (call_meets F.slot_range_contains ⟨_, ho, rfl⟩ F.entry_range_contains (F.args_range_contains_2 _ _) (q_contains a lo hi i t1 t2 t3 k)
    ⟨ho, wpAny_truthy_bool (wpAny_pure ⟨.bl _, H, I, rfl, ?_⟩)⟩))
  rw [place1]
  exact q
theorem end_inR {W : WX} {σ : L2.St} {ms : List Addr} {H : Hp} {st : Store} {env : Slots} {Q : Bool → Hp → Prop} {Qv : VK} {neg : Bool → Bool} (hq : ∀ z H', Q z H' → Qv (.bl z) H') (r : RepS S ms H st) (re : RepE S ms H σ env)
    (h : EndG S W σ ms H pB Q ((tInRange fa fb C env st).bind fun b s1 => .ok (neg b) s1)) :
    tOp (fun x y H Q => ∃ i a lo hi, x = V.int i ∧ y = V.ref a ∧ H a = some (.rng lo hi) ∧ Q (.bl (neg (decide (lo ≤ i ∧ i < hi)))) H) (tG S W C (pSV S) fa)
      (tCB (fun vs H Q => ∃ j, vs = [V.int j] ∧ ∀ p, H p = none → Q (.ref p) (upd H p (.rng 0 j))) (tCons (tG S W C (pSV S) fb) tNil)) σ H Qv := by
  unfold tInRange at h
  rw [R.bind_assoc] at h
  refine ⟨env, st, ms, r, re, EndG.bind pB_back r h fun x s1 v ms1 H1 x1 r1 p1 h1 => ?_⟩
  rw [R.bind_assoc] at h1
  refine ⟨env, s1, ms1, r1, re.ext x1 r, EndG.bind pB_back r1 h1 fun y s2 u ms2 H2 x2 r2 p2 h2 => ?_⟩
  split at h2
  · rename_i i j
    split at h2
    · have ea := rI_of (RepSV.ext x2 r1 p1)
      have eb := rI_of p2
      subst ea eb
      refine ⟨j, rfl, fun q hqn => ⟨i, q, 0, j, rfl, rfl, upd_same, ?_⟩⟩
      have sm : Same H2 (upd H2 q (.rng 0 j)) := same_upd hqn
      exact hq _ _ (h2.ret (.same sm) (r2.same sm) rfl)
    · exact h2.elim
  · exact h2.elim
theorem boot_rng : bootBuiltins "range" = some (.type "range") := by decide +kernel
theorem pa_one {W : WX} {X : Cx} (c : Ctx S cc.N k W sc X) (ha : FE S cc k C sc a fa) (hn : noStar a = true) : PA X [a] (tCons (tG S W C (pSV S) fa) tNil) := by
  refine pa_cons (ha W X c) pa_nil ?_
  cases a <;> first | rfl | cases hn
theorem star1 {X : Cx} (hn : noStar a = true) : starEach [a] X.env = (false, eval a X.env) :: starEach [] X.env := by
  cases a <;> first | rfl | cases hn
theorem pe_rng1 {W : WX} {X : Cx} {q1 q2 : Pos} (c : Ctx S cc.N k W sc X) (hg : glB sc "range" = true) (hm : S.mg "range" = none) (hn : noStar b = true) (hb : FE S cc k C sc b fb) :
    PE X (.Call (.Name "range" q1) [b] [] q2) (tCB (fun vs H Q => ∃ j, vs = [V.int j] ∧ ∀ p, H p = none → Q (.ref p) (upd H p (.rng 0 j))) (tCons (tG S W C (pSV S) fb) tNil)) :=
  pe_callTy cr_range1 (gl_of c hg) (by rw [c.mg]; exact hm) boot_rng (pa_one c hb hn) (he := star1 hn) (hpl := rfl)
theorem ft_inR {q1 q2 : Pos} (hg : glB sc "range" = true) (hm : S.mg "range" = none) (hn : noStar b = true) (ha : FE S cc k C sc a fa) (hb : FE S cc k C sc b fb) : FT S cc k C sc (.Compare a [.In] [.Call (.Name "range" q1) [b] [] q2] p) (tInRange fa fb) := by
  intro W X c
  refine PT.imp (pt_cmpR op_in_rng (ha W X c) (pe_rng1 c hg hm hn hb) rfl) fun σ H Q => ?_
  rintro ⟨env, st, ms, r, re, h⟩
  refine end_inR (neg := id) (fun z _ q => ⟨z, rfl, q⟩) r re ?_
  cases hh : tInRange fa fb C env st <;> rw [hh] at h <;> exact h
theorem ft_notInR {q1 q2 : Pos} (hg : glB sc "range" = true) (hm : S.mg "range" = none) (hn : noStar b = true) (ha : FE S cc k C sc a fa) (hb : FE S cc k C sc b fb) : FT S cc k C sc (.Compare a [.NotIn] [.Call (.Name "range" q1) [b] [] q2] p) (tNot (tInRange fa fb)) := by
  intro W X c
  refine PT.imp (pt_cmpR op_notIn_rng (ha W X c) (pe_rng1 c hg hm hn hb) rfl) fun σ H Q => ?_
  rintro ⟨env, st, ms, r, re, h⟩
  exact end_inR (neg := fun b => !b) (fun z _ q => ⟨z, rfl, q⟩) r re h
theorem fe_inR {q1 q2 : Pos} (hg : glB sc "range" = true) (hm : S.mg "range" = none) (hn : noStar b = true) (ha : FE S cc k C sc a fa) (hb : FE S cc k C sc b fb) : FE S cc k C sc (.Compare a [.In] [.Call (.Name "range" q1) [b] [] q2] p) (eTest (tInRange fa fb)) := by
  intro W X c
  refine PE.imp (pe_cmpR op_in_rng (ha W X c) (pe_rng1 c hg hm hn hb) rfl) fun σ H Q => ?_
  rintro ⟨env, st, ms, r, re, h⟩
  have h := end_test h
  refine end_inR (neg := id) (fun z _ q => q) r re ?_
  cases hh : tInRange fa fb C env st <;> rw [hh] at h <;> exact h
theorem fe_notInR {q1 q2 : Pos} (hg : glB sc "range" = true) (hm : S.mg "range" = none) (hn : noStar b = true) (ha : FE S cc k C sc a fa) (hb : FE S cc k C sc b fb) : FE S cc k C sc (.Compare a [.NotIn] [.Call (.Name "range" q1) [b] [] q2] p) (eTest (tNot (tInRange fa fb))) := by
  intro W X c
  refine PE.imp (pe_cmpR op_notIn_rng (ha W X c) (pe_rng1 c hg hm hn hb) rfl) fun σ H Q => ?_
  rintro ⟨env, st, ms, r, re, h⟩
  exact end_inR (neg := fun b => !b) (fun z _ q => q) r re (end_test h)

/-! tests -/
theorem plainTest {X : Cx} (h1 : ∀ x q, a ≠ .UnaryOp .Not x q) (h2 : ∀ o vs q, a ≠ .BoolOp o vs q) (h3 : ∀ t x y q, a ≠ .IfExp t x y q) (h4 : ∀ l o cs q, a ≠ .Compare l o cs q) :
    ∀ whole, isTrue a X.env whole = (do let v ← whole; standAt a.pos; holding [v] (truthy v)) := by
  intro whole
  cases a with
  | UnaryOp o x q => cases o <;> first | rfl | exact absurd rfl (h1 x q)
  | BoolOp o vs q => exact absurd rfl (h2 o vs q)
  | IfExp t x y q => exact absurd rfl (h3 t x y q)
  | Compare l o cs q => exact absurd rfl (h4 l o cs q)
  | _ => rfl
theorem ft_tru (ha : FE S cc k C sc a fa) (h1 : ∀ x q, a ≠ .UnaryOp .Not x q) (h2 : ∀ o vs q, a ≠ .BoolOp o vs q) (h3 : ∀ t x y q, a ≠ .IfExp t x y q) (h4 : ∀ l o cs q, a ≠ .Compare l o cs q) : FT S cc k C sc a (tTru fa) := by
  intro W X c
  refine PT.imp (pt_truth (ha W X c) (plainTest h1 h2 h3 h4)) fun σ H Q => ?_
  rintro ⟨env, st, ms, r, re, h⟩
  refine ⟨env, st, ms, r, re, EndG.bind pB_back r h fun x s1 v ms1 H1 x1 r1 p1 h1 => ?_⟩
  obtain ⟨z, hz, h3⟩ := h1.ofO
  exact ⟨z, by rw [c.K]; exact tru_rep r1 p1 hz, h3.ret .refl r1 rfl⟩
theorem ft_not {t : Et} (ha : FT S cc k C sc a t) : FT S cc k C sc (.UnaryOp .Not a p) (tNot t) := by
  intro W X c
  refine PT.imp (pt_not (ha W X c)) fun σ H Q => ?_
  rintro ⟨env, st, ms, r, re, h⟩
  refine ⟨env, st, ms, r, re, EndG.bind pB_back r h fun x s1 v ms1 H1 x1 r1 p1 h1 => ?_⟩
  have p1 : v = x := p1
  subst p1
  exact h1.ret .refl r1 rfl
/-- a test, whatever stands for its whole -/
def FW (S : Wd) (cc : CC) (k : Nat) (C : Calls) (sc : Scope) (e : Expr) (f : Et) : Prop := ∀ W X, Ctx S cc.N k W sc X → PW X e (tG S W C pB f)
theorem fw_and1 {t : Et} (ha : FT S cc k C sc a t) : FW S cc k C sc (.BoolOp .And [a] p) t := fun W X c => pw_and1 (ha W X c)
theorem fw_or1 {t : Et} (ha : FT S cc k C sc a t) : FW S cc k C sc (.BoolOp .Or [a] p) t := fun W X c => pw_or1 (ha W X c)
theorem PW.imp {X : Cx} {e : Expr} {t t' : TT} (h : PW X e t) (i : ∀ σ H Q, t' σ H Q → t σ H Q) : PW X e t' := ⟨fun wh pins s σ H Q I q => h.run wh pins s σ H Q I (i σ H Q q)⟩
theorem fw_and {t u : Et} {rest : List Expr} (ha : FT S cc k C sc a t) (hb : FW S cc k C sc (.BoolOp .And (b :: rest) p) u) : FW S cc k C sc (.BoolOp .And (a :: b :: rest) p) (tAnd t u) := by
  intro W X c
  refine PW.imp (pw_and (ha W X c) (hb W X c)) fun σ H Q => ?_
  rintro ⟨env, st, ms, r, re, h⟩
  refine ⟨env, st, ms, r, re, EndG.bind pB_back r h fun x s1 v ms1 H1 x1 r1 p1 h1 => ?_⟩
  have p1 : v = x := p1
  subst p1
  cases v with
  | true => exact iteT ⟨env, s1, ms1, r1, re.ext x1 r, h1⟩
  | false => exact iteF (h1.ret .refl r1 rfl)
theorem fw_or {t u : Et} {rest : List Expr} (ha : FT S cc k C sc a t) (hb : FW S cc k C sc (.BoolOp .Or (b :: rest) p) u) : FW S cc k C sc (.BoolOp .Or (a :: b :: rest) p) (tOr t u) := by
  intro W X c
  refine PW.imp (pw_or (ha W X c) (hb W X c)) fun σ H Q => ?_
  rintro ⟨env, st, ms, r, re, h⟩
  refine ⟨env, st, ms, r, re, EndG.bind pB_back r h fun x s1 v ms1 H1 x1 r1 p1 h1 => ?_⟩
  have p1 : v = x := p1
  subst p1
  cases v with
  | true => exact iteT (h1.ret .refl r1 rfl)
  | false => exact iteF ⟨env, s1, ms1, r1, re.ext x1 r, h1⟩
theorem fw_ft {t : Et} (h : FW S cc k C sc a t) : FT S cc k C sc a t := fun W X c => (h W X c).pt
theorem fe_if {t : Expr} {u : Et} (ht : FT S cc k C sc t u) (ha : FE S cc k C sc a fa) (hb : FE S cc k C sc b fb) : FE S cc k C sc (.IfExp t a b p) (eIf u fa fb) := by
  intro W X c
  refine PE.imp (pe_ifExp (ht W X c) (ha W X c) (hb W X c)) fun σ H Q => ?_
  rintro ⟨env, st, ms, r, re, h⟩
  refine ⟨env, st, ms, r, re, EndG.bind pSV_back r h fun x s1 v ms1 H1 x1 r1 p1 h1 => ?_⟩
  have p1 : v = x := p1
  subst p1
  cases v with
  | true => exact iteT ⟨env, s1, ms1, r1, re.ext x1 r, h1⟩
  | false => exact iteF ⟨env, s1, ms1, r1, re.ext x1 r, h1⟩

/-! arguments, displays -/
theorem fa_nil : FA S cc k C sc [] [] := by
  intro W X c
  refine PA.imp pa_nil fun σ H Q => ?_
  rintro ⟨env, st, ms, r, re, h⟩
  exact h.ret .refl r .nil
theorem fa_cons {es : List Expr} {fs : List Ev} (hn : noStar a = true) (ha : FE S cc k C sc a fa) (hs : FA S cc k C sc es fs) : FA S cc k C sc (a :: es) (fa :: fs) := by
  intro W X c
  refine PA.imp (pa_cons (ha W X c) (hs W X c) (by cases a <;> first | rfl | cases hn)) fun σ H Q => ?_
  rintro ⟨env, st, ms, r, re, h⟩
  unfold evs at h
  refine ⟨env, st, ms, r, re, EndG.val pDs_back r h fun d s1 v ms1 H1 x1 r1 p1 h1 => ?_⟩
  refine ⟨env, s1, ms1, r1, re.ext x1 r, EndG.bind pDs_back r1 h1 fun ds s2 vs ms2 H2 x2 r2 p2 h2 => ?_⟩
  exact h2.ret .refl r2 (.cons (p1.ext x2 r1) p2)
theorem fa_of {g : Expr → Option Ev} (hE : ∀ e f, g e = some f → FE S cc k C sc e f) : ∀ {es : List Expr} {fs : List Ev}, goE g es = some fs → FA S cc k C sc es fs
  | [], fs, h => by simp [goE] at h; subst h; exact fa_nil
  | e :: es, fs, h => by
    unfold goE at h
    split at h
    · rename_i t ts h1 h2
      split at h
      · rename_i hn
        cases h
        exact fa_cons hn (hE e t h1) (fa_of hE h2)
      · cases h
    · cases h
def tTupF (t : TA) : TE := fun σ H Q => t σ H fun xs H1 => xs.length ≤ sizeLine ∧ ∀ p o, H1 p = none → o.dict = none → Q (.ref p) (upd H1 p (.frz o (.tup xs)))
theorem pe_tupF {X : Cx} {x1} {es : List Expr} {t : TA} {pos : Pos} (h : PA X es t) : PE X (.Tuple es x1 pos) (tTupF t) := by
  refine ⟨fun pins s σ H Q I hq => ?_⟩
  refine wpAny_Tuple_spliced (thn (h.run pos pins s σ H _ I hq) fun us s1 ⟨xs, H1, I1, r, z, q⟩ => ⟨by rw [← r.length]; exact z, ?_⟩)
  exact ⟨.ref s1.heap.objs.size, _, laidF (t' := s1.toks) I1 r z, rfl, q _ _ (I1.hok.fresh (Nat.le_refl _)) rfl⟩
theorem fe_tup {es : List Expr} {fs : List Ev} {j : Nat} (hs : FA S cc k C sc es fs) (hl : es.length ≤ szl) (hf : fs.length = es.length) : FE S cc k C sc (.Tuple es j p) (eTup fs) := by
  intro W X c
  refine PE.imp (pe_tupF (hs W X c)) fun σ H Q => ?_
  rintro ⟨env, st, ms, r, re, h⟩
  unfold eTup at h
  have len : ∀ {fs : List Ev} {st s1 : Store} {ds : List D}, evs fs C env st = .ok ds s1 → ds.length = fs.length := by
    intro fs
    induction fs with
    | nil => intro st s1 ds h; cases h; rfl
    | cons f fs ih =>
      intro st s1 ds h
      unfold evs at h
      cases h1 : val f C env st with
      | ok d s2 =>
        rw [h1] at h
        simp only [R.bind_ok] at h
        cases h2 : evs fs C env s2 with
        | ok es s3 =>
          rw [h2] at h
          cases h
          simp [ih h2]
        | exc _ _ => rw [h2] at h; cases h
        | bad => rw [h2] at h; cases h
      | exc _ _ => rw [h1] at h; cases h
      | bad => rw [h1] at h; cases h
  refine ⟨env, st, ms, r, re, ?_⟩
  cases hv : evs fs C env st with
  | bad => rw [hv] at h; exact h
  | exc x s1 => rw [hv] at h; exact h
  | ok ds s1 =>
    rw [hv] at h
    intro vs ms1 H1 x1 r1 p1
    have h1 := EndG.from pSV_back x1 r r1 h
    have p1 : RepDs S ms1 H1 vs ds := p1
    refine ⟨by rw [p1.length, len hv, hf, ← szl_eq]; exact hl, fun q o hq ho => ?_⟩
    exact h1.ret (.same (same_upd hq)) (r1.same (same_upd hq)) (RepD.tup (.inl ⟨o, upd_same, ho⟩) (p1.same (same_upd hq) r1))
theorem fe_lst {es : List Expr} {fs : List Ev} (hs : FA S cc k C sc es fs) (hl : es.length ≤ szl) (hf : fs.length = es.length) : FE S cc k C sc (.List es p) (eLst fs) := by
  intro W X c
  refine PE.imp (pe_lst (hs W X c)) fun σ H Q => ?_
  rintro ⟨env, st, ms, r, re, h⟩
  unfold eLst at h
  have len : ∀ {fs : List Ev} {st s1 : Store} {ds : List D}, evs fs C env st = .ok ds s1 → ds.length = fs.length := by
    intro fs
    induction fs with
    | nil => intro st s1 ds h; cases h; rfl
    | cons f fs ih =>
      intro st s1 ds h
      unfold evs at h
      cases h1 : val f C env st with
      | ok d s2 =>
        rw [h1] at h
        simp only [R.bind_ok] at h
        cases h2 : evs fs C env s2 with
        | ok es s3 =>
          rw [h2] at h
          cases h
          simp [ih h2]
        | exc _ _ => rw [h2] at h; cases h
        | bad => rw [h2] at h; cases h
      | exc _ _ => rw [h1] at h; cases h
      | bad => rw [h1] at h; cases h
  refine ⟨env, st, ms, r, re, ?_⟩
  cases hv : evs fs C env st with
  | bad => rw [hv] at h; exact h
  | exc x s1 => rw [hv] at h; exact h
  | ok ds s1 =>
    rw [hv] at h
    intro vs ms1 H1 x1 r1 p1
    have h1 := EndG.from pSV_back x1 r r1 h
    have p1 : RepDs S ms1 H1 vs ds := p1
    refine ⟨by rw [p1.length, len hv, hf, ← szl_eq]; exact hl, fun q hq => ?_⟩
    exact h1.ret (.same (same_upd hq)) (r1.same (same_upd hq)) ⟨q, vs, rfl, hq, upd_same, r1.free hq, p1.same (same_upd hq) r1⟩
theorem goE_len {g : Expr → Option Ev} : ∀ {es : List Expr} {fs : List Ev}, goE g es = some fs → fs.length = es.length
  | [], fs, h => by simp [goE] at h; subst h; rfl
  | e :: es, fs, h => by
    unfold goE at h
    split at h
    · rename_i t ts h1 h2
      split at h
      · cases h
        simp [goE_len h2]
      · cases h
    · cases h

/-! subscripts, slices, fields -/
theorem nth_at {α : Type} {xs : List α} {i : Int} {x : α} (h : nthI xs i = some x) : atI xs i = some x := by
  unfold nthI at h
  unfold atI ixN
  by_cases h0 : 0 ≤ i
  · rw [if_pos h0] at h
    have hl : i.toNat < xs.length := (List.getElem?_eq_some_iff.mp h).1
    rw [if_pos h0, if_pos (by omega)]
    exact h
  · rw [if_neg h0] at h
    rw [if_neg h0]
    split at h
    · rename_i h1
      rw [if_pos h1]
      exact h
    · cases h
theorem plainIx (hn : noSlice b = true) : PlainIx b := by
  intro o i
  cases b <;> first | rfl | cases hn
theorem RepDs.nth {ms : List Addr} {H : Hp} {vs : List V} {ds : List D} {i : Int} {d : D} (t : RepDs S ms H vs ds) (h : nthI ds i = some d) : ∃ v, nthI vs i = some v ∧ RepD S ms H v d := by
  unfold nthI at h ⊢
  rw [t.length]
  split at h
  · rename_i h0
    rw [if_pos h0]
    exact t.get h
  · rename_i h0
    rw [if_neg h0]
    split at h
    · rename_i h1
      rw [if_pos h1]
      exact t.get h
    · cases h
theorem fe_ix (hn : noSlice b = true) (ha : FE S cc k C sc a fa) (hb : FE S cc k C sc b fb) : FE S cc k C sc (.Subscript a b p) (eIx fa fb) := by
  intro W X c
  refine PE.imp (pe_ix ix_seq (ha W X c) (hb W X c) (plainIx hn)) fun σ H Q => ?_
  rintro ⟨env, st, ms, r, re, h⟩
  unfold eIx at h
  refine ⟨env, st, ms, r, re, EndG.bind pSV_back r h fun x s1 v ms1 H1 x1 r1 p1 h1 => ?_⟩
  refine ⟨env, s1, ms1, r1, re.ext x1 r, EndG.bind pSV_back r1 h1 fun y s2 u ms2 H2 x2 r2 p2 h2 => ?_⟩
  have p1' := RepSV.ext x2 r1 p1
  split at h2
  · rename_i i
    have eb := rI_of p2
    subst eb
    split at h2
    · rename_i z
      split at h2
      · rename_i hz
        split at h2
        · rename_i ch hc
          have ea := rS_of p1'
          subst ea
          exact .inr (.inr ⟨z, i, ch, rfl, rfl, by rw [← szl_eq]; exact hz, nth_at hc, h2.ret .refl r2 (.str _)⟩)
        · exact h2.elim
      · exact h2.elim
    · split at h2
      · rename_i xs hx
        split at h2
        · rename_i d hd
          obtain ⟨ad, vs, rfl, hq, t⟩ := items_rep r2 p1' hx
          obtain ⟨w, hw, rw'⟩ := t.nth hd
          have fin := h2.ret .refl r2 (show RepSV S H2 ms2 H2 w (.vl d) from rw')
          rcases hq with hq | hq
          · exact .inl ⟨ad, vs, i, w, rfl, rfl, by rw [c.K]; exact hq, nth_at hw, fin⟩
          · exact .inr (.inl ⟨ad, vs, i, w, rfl, rfl, by rw [c.K]; exact hq, nth_at hw, fin⟩)
        · exact h2.elim
      · exact h2.elim
  · exact h2.elim
end
end Q


set_option linter.all false
set_option maxRecDepth 100000
set_option maxHeartbeats 2000000
set_option autoImplicit false
/-! Q6: slices, fields, built-in functions, methods of lists. -/
namespace Q
open PySem PySem.Spec PyProof.Rows L2
section
variable {S : Wd} {cc : CC} {k : Nat} {C : Calls} {sc : Scope} {a b e : Expr} {fa fb : Ev} {p : Pos}
theorem sIx_eq (n d : Nat) (o : Option Int) : sIx n d o = HT.sIx n d o := by cases o <;> rfl
/-! slices -/
def rSlF (K : PySem.W.Frag) : V → Option Int → Option Int → Hp → VK → Prop := fun x lo hi H Q => ∃ a xs, x = .ref a ∧ SqT K H a xs ∧
  (HT.sIx xs.length 0 lo = 0 ∧ HT.sIx xs.length xs.length hi = xs.length → Q (.ref a) H) ∧ (¬ (HT.sIx xs.length 0 lo = 0 ∧ HT.sIx xs.length xs.length hi = xs.length) → ∀ p o, H p = none → o.dict = none → Q (.ref p) (upd H p (.frz o (.tup (cutV xs lo hi)))))
theorem sl_tupF {X : Cx} : SlR X (rSlF X.K) := by
  intro pins s σ H x v vl vu lo hi sl Q I rx hs pl pu h
  obtain ⟨a, xs, rfl, hx, q1, q2⟩ := h
  cases rx
  obtain ⟨its, r, ht, hz⟩ := I.tuple hx
  have hlen : its.toArray.size = xs.length := by rw [List.size_toArray]; exact r.length.symm
  refine ⟨"tuple", _, PyProof.Rows.slot_tuple_getitem.lookup, ht.typeIs, ?_⟩
  by_cases hw : HT.sIx xs.length 0 lo = 0 ∧ HT.sIx xs.length xs.length hi = xs.length
  · exact getItem_tuple_whole ht hs pl pu (by rw [hlen]; exact hw) ⟨.ref a, H, I, rfl, q1 hw⟩
  · refine HT.getItem_tuple_cut ht hs pl pu (by rw [hlen]; exact hw) ?_ (by rw [hlen]; exact hz)
    rw [hlen]
    exact ⟨.ref s.heap.objs.size, _, laidF (t' := s.toks) I ((r.drop (HT.sIx xs.length 0 lo)).take (HT.sIx xs.length xs.length hi - HT.sIx xs.length 0 lo)) (Nat.le_trans (cutV_length xs lo hi) hz), rfl, q2 hw _ _ (I.hok.fresh (Nat.le_refl _)) rfl⟩
theorem RepDs.cut {ms : List Addr} {H : Hp} {vs : List V} {ds : List D} {lo hi : Option Int} (t : RepDs S ms H vs ds) : RepDs S ms H (cutV vs lo hi) (cut ds lo hi) := by
  unfold cutV _root_.Q.cut
  rw [t.length, ← sIx_eq, ← sIx_eq]
  exact (t.drop _).take _
theorem cut_whole {α : Type} {xs : List α} {lo hi : Option Int} (h : sIx xs.length 0 lo = 0 ∧ sIx xs.length xs.length hi = xs.length) : cut xs lo hi = xs := by
  unfold _root_.Q.cut
  rw [h.1, h.2]
  simp
/-- the end of a slice -/
def pO : Rp (Option Int) (Option Int) := fun _ _ _ v a => v = a
theorem pO_back : Back pO := fun _ _ _ _ _ _ _ h => h
def FO (S : Wd) (cc : CC) (k : Nat) (C : Calls) (sc : Scope) (e : Option Expr) (f : Option Ev) : Prop := ∀ W X, Ctx S cc.N k W sc X → PO X e (tG S W C pO (eEnd f))
theorem PO.imp {X : Cx} {e : Option Expr} {t t' : TO} (h : PO X e t) (i : ∀ σ H Q, t' σ H Q → t σ H Q) : PO X e t' := ⟨fun pins s σ H Q I q => h.run pins s σ H Q I (i σ H Q q)⟩
theorem fo_none : FO S cc k C sc none none := fun W X c => PO.imp po_none fun σ H Q ⟨env, st, ms, r, re, h⟩ => h.ret .refl r rfl
theorem fo_some (ha : FE S cc k C sc a fa) : FO S cc k C sc (some a) (some fa) := by
  intro W X c
  refine PO.imp (po_some (ha W X c)) fun σ H Q => ?_
  rintro ⟨env, st, ms, r, re, h⟩
  refine ⟨env, st, ms, r, re, EndG.bind pO_back r h fun x s1 v ms1 H1 x1 r1 p1 h1 => ?_⟩
  split at h1
  · rename_i i
    exact ⟨i, rI_of p1, h1.ret .refl r1 rfl⟩
  · exact h1.elim
theorem fe_sl {lo hi : Option Expr} {fl fh : Option Ev} {q : Pos} (ha : FE S cc k C sc a fa) (hl : FO S cc k C sc lo fl) (hh : FO S cc k C sc hi fh) : FE S cc k C sc (.Subscript a (.Slice lo hi none q) p) (eSl fa fl fh) := by
  intro W X c
  refine PE.imp (pe_slice (sl_list.or (sl_tupF.or sl_str)) (ha W X c) (hl W X c) (hh W X c)) fun σ H Q => ?_
  rintro ⟨env, st, ms, r, re, h⟩
  unfold eSl at h
  refine ⟨env, st, ms, r, re, EndG.bind pSV_back r h fun x s1 v ms1 H1 x1 r1 p1 h1 => ?_⟩
  refine ⟨env, s1, ms1, r1, re.ext x1 r, EndG.bind pSV_back r1 h1 fun l s2 l' ms2 H2 x2 r2 p2 h2 => ?_⟩
  refine ⟨env, s2, ms2, r2, (re.ext x1 r).ext x2 r1, EndG.bind pSV_back r2 h2 fun u s3 u' ms3 H3 x3 r3 p3 h3 => ?_⟩
  have p2 : l' = l := p2
  have p3 : u' = u := p3
  subst p2 p3
  obtain ⟨z, hz, h4⟩ := h3.ofO
  have pv := RepSV.ext x3 r2 (RepSV.ext x2 r1 p1)
  have out : Out S ms3 H3 z Q := fun v' H' sm rv => h4.ret (.same sm) (r3.same sm) rv
  unfold sliced at hz
  split at hz
  · rename_i xs
    cases hz
    have pv' : RepD S ms3 H3 v (.tup xs) := pv
    cases pv' with
    | tup hq t =>
      rename_i ad vs
      refine .inr (.inl ⟨ad, vs, rfl, by rw [c.K]; exact hq.sq, fun hw => ?_, fun _ => out.tup r3 t.cut⟩)
      have hw' : sIx xs.length 0 l' = 0 ∧ sIx xs.length xs.length u' = xs.length := by
        rw [← t.length, sIx_eq, sIx_eq]; exact hw
      rw [cut_whole hw'] at out
      exact out.old t hq
  · rename_i y
    split at hz
    · rename_i hy
      cases hz
      have ev := rS_of pv
      subst ev
      refine .inr (.inr ⟨y, rfl, by rw [← szl_eq]; exact hy, ?_⟩)
      have q := out.str
      unfold _root_.Q.cut at q
      rw [sIx_eq, sIx_eq] at q
      exact q
    · cases hz
  · split at hz
    · rename_i xs hx
      cases hz
      obtain ⟨ad, vs, rfl, hq, t⟩ := lits_rep r3 pv hx
      exact .inl ⟨ad, vs, rfl, by rw [c.K]; exact hq, out.fr r3 t.cut⟩
    · cases hz
/-! fields -/
theorem RepFs.look {ms : List Addr} {H : Hp} {f : Str} {d : D} : ∀ {fs : List (Str × V)} {ds : List (Str × D)}, RepFs S ms H fs ds → ds.lookup f = some d → ∃ v, fs.lookup f = some v ∧ RepD S ms H v d
  | _, _, .nil, h => by simp at h
  | _, _, .cons (f := g) r t, h => by
    simp only [List.lookup_cons] at h ⊢
    cases hg : f == g with
    | true => rw [hg] at h; cases h; exact ⟨_, rfl, r⟩
    | false => rw [hg] at h; exact RepFs.look t h
theorem base_of {X : Cx} {f : Str} (h : baseB a = true) : attributeBase a f X.env (eval a X.env) = eval a X.env := by
  cases a <;> first | rfl | cases h
/-- what the compiler knows of classes -/
structure ClsOk (S : Wd) (C : Addr) : Prop where
  cl : Cls S.K C
theorem fe_fld {f : Str} (hb : baseB a = true) (ha : FE S cc k C sc a fa) (hc : ∀ c C, S.cls c = some C → Cls S.K C) (hn : ∀ c C, S.cls c = some C → NoAttr S.K C f) : FE S cc k C sc (.Attribute a f p) (eFld fa f) := by
  intro W X c
  refine PE.imp (pe_fld (ha W X c) (base_of hb)) fun σ H Q => ?_
  rintro ⟨env, st, ms, r, re, h⟩
  unfold eFld at h
  refine ⟨env, st, ms, r, re, EndG.bind pSV_back r h fun x s1 v ms1 H1 x1 r1 p1 h1 => ?_⟩
  split at h1
  · rename_i n
    split at h1
    · rename_i cn fs hs
      split at h1
      · rename_i d hd
        have p1 : RepD S ms1 H1 v (.loc n) := p1
        cases p1 with
        | loc hm =>
          cases r1.look hm hs with
          | inst ec eH t =>
            obtain ⟨w, hw, rw'⟩ := t.look hd
            exact ⟨_, _, _, _, w, rfl, eH, by rw [c.K]; exact hc _ _ ec, by rw [c.K]; exact hn _ _ ec, hw, h1.ret .refl r1 rw'⟩
      · exact h1.elim
    · exact h1.elim
  · exact h1.elim

/-! built-in functions of one argument -/
/-- g is what r tells of the argument -/
def ROn (S : Wd) (g : Store → SV → Option SV) (r : List V → Hp → VK → Prop) : Prop := ∀ ms st H H0 x a z Q, RepS S ms H st → RepSV S H0 ms H x a → g st a = some z → Out S ms H z Q → r [x] H Q
theorem end_on {W : WX} {σ : L2.St} {ms : List Addr} {H : Hp} {st : Store} {env : Slots} {Q : VK} {g : Store → SV → Option SV} {r : List V → Hp → VK → Prop} (hr : ROn S g r) (rs : RepS S ms H st) (re : RepE S ms H σ env)
    (h : EndG S W σ ms H (pSV S) Q (eOn g fa C env st)) : tCB r (tCons (tG S W C (pSV S) fa) tNil) σ H Q := by
  unfold eOn at h
  refine ⟨env, st, ms, rs, re, EndG.bind pSV_back rs h fun x s1 v ms1 H1 x1 r1 p1 h1 => ?_⟩
  obtain ⟨z, hz, h2⟩ := h1.ofO
  exact hr ms1 s1 H1 H v x z Q r1 p1 hz fun v' H' sm rv => h2.ret (.same sm) (r1.same sm) rv
theorem fe_onB {x : Str} {id : String} {g : Store → SV → Option SV} {r : Wd → List V → Hp → VK → Prop} {q : Pos} (hr : ROn S g (r S)) (hc : ∀ W X, Ctx S cc.N k W sc X → CallR X (.builtin id) (r S))
    (hg : glB sc x = true) (hp : plainName x = true) (hm : S.mg x = none) (hv : bootBuiltins x = some (.builtin id)) (hn : noStar a = true) (ha : FE S cc k C sc a fa) : FE S cc k C sc (.Call (.Name x q) [a] [] p) (eOn g fa) := by
  intro W X c
  refine PE.imp (pe_callB (hc W X c) (gl_of c hg) (by rw [c.mg]; exact hm) hv (pa_one c ha hn) (plain_of hp).2.2 (plain_of hp).1 (star1 hn) rfl) fun σ H Q => ?_
  rintro ⟨env, st, ms, rs, re, h⟩
  exact end_on hr rs re h
theorem fe_onT {x : Str} {T : String} {g : Store → SV → Option SV} {r : Wd → List V → Hp → VK → Prop} {q : Pos} (hr : ROn S g (r S)) (hc : ∀ W X, Ctx S cc.N k W sc X → CallR X (.type T) (r S))
    (hg : glB sc x = true) (hp : plainName x = true) (hm : S.mg x = none) (hv : bootBuiltins x = some (.type T)) (hn : noStar a = true) (ha : FE S cc k C sc a fa) : FE S cc k C sc (.Call (.Name x q) [a] [] p) (eOn g fa) := by
  intro W X c
  refine PE.imp (pe_callTy (hc W X c) (gl_of c hg) (by rw [c.mg]; exact hm) hv (pa_one c ha hn) (plain_of hp).2.2 (plain_of hp).1 (star1 hn) rfl) fun σ H Q => ?_
  rintro ⟨env, st, ms, rs, re, h⟩
  exact end_on hr rs re h
/-! len -/
def rLen (S : Wd) : List V → Hp → VK → Prop := fun xs H Q => ∃ x n, xs = [x] ∧ LenV S.K x H n ∧ Q (.int n) H
theorem ron_len : ROn S gLen (rLen S) := by
  intro ms st H H0 x a z Q r p1 e out
  unfold gLen at e
  split at e
  · rename_i y
    split at e
    · rename_i hy
      cases e
      have ev := rS_of p1
      subst ev
      exact ⟨_, y.length, rfl, ⟨by rw [← szl_eq]; exact hy, rfl⟩, out.int⟩
    · cases e
  · simp only [Option.map_eq_some_iff] at e
    obtain ⟨xs, hx, rfl⟩ := e
    obtain ⟨ad, vs, rfl, hq, t⟩ := items_rep r p1 hx
    refine ⟨_, vs.length, rfl, ?_, by rw [t.length]; exact out.int⟩
    rcases hq with hq | hq
    · exact .inl ⟨vs, hq, rfl⟩
    · exact .inr ⟨vs, hq, rfl⟩
theorem boot_len' : bootBuiltins "len" = some (.builtin "len") := by decide +kernel
theorem fe_len {q : Pos} (hg : glB sc "len" = true) (hm : S.mg "len" = none) (hn : noStar a = true) (ha : FE S cc k C sc a fa) : FE S cc k C sc (.Call (.Name "len" q) [a] [] p) (eOn gLen fa) :=
  fe_onB (r := rLen) ron_len (fun W X c => by have q := call_len (X := X); rw [c.K] at q; exact q) hg (by decide) hm boot_len' hn ha
/-! abs -/
def rAbs (S : Wd) : List V → Hp → VK → Prop := fun xs H Q => ∃ i, xs = [.int i] ∧ Q (.int (if i < 0 then -i else i)) H
theorem ron_abs : ROn S gAbs (rAbs S) := by
  intro ms st H H0 x a z Q r p1 e out
  unfold gAbs at e
  split at e
  · cases e
    have ev := rI_of p1
    subst ev
    exact ⟨_, rfl, out.int⟩
  · cases e
theorem boot_abs' : bootBuiltins "abs" = some (.builtin "abs") := by decide +kernel
theorem fe_abs {q : Pos} (hg : glB sc "abs" = true) (hm : S.mg "abs" = none) (hn : noStar a = true) (ha : FE S cc k C sc a fa) : FE S cc k C sc (.Call (.Name "abs" q) [a] [] p) (eOn gAbs fa) :=
  fe_onB (r := rAbs) ron_abs (fun W X c => call_abs) hg (by decide) hm boot_abs' hn ha
/-! int -/
def rInt (S : Wd) : List V → Hp → VK → Prop := fun xs H Q => (∃ i, xs = [.int i] ∧ Q (.int i) H) ∨ ∃ k, xs = [.bl k] ∧ Q (.int (if k then 1 else 0)) H
theorem ron_int : ROn S gInt (rInt S) := by
  intro ms st H H0 x a z Q r p1 e out
  unfold gInt at e
  split at e
  · cases e
    have ev := rI_of p1
    subst ev
    exact .inl ⟨_, rfl, out.int⟩
  · rename_i b
    cases e
    have p1 : RepD S ms H x (.bl b) := p1
    cases p1
    exact .inr ⟨_, rfl, out.int⟩
  · cases e
theorem boot_int' : bootBuiltins "int" = some (.type "int") := by decide +kernel
theorem fe_cint {q : Pos} (hg : glB sc "int" = true) (hm : S.mg "int" = none) (hn : noStar a = true) (ha : FE S cc k C sc a fa) : FE S cc k C sc (.Call (.Name "int" q) [a] [] p) (eOn gInt fa) :=
  fe_onT (r := rInt) ron_int (fun W X c => call_int1) hg (by decide) hm boot_int' hn ha
/-! all, sum -/
theorem bools_rep {ms : List Addr} {H : Hp} : ∀ {vs : List V} {ds : List D} {bs : List Bool}, RepDs S ms H vs ds → dBools ds = some bs → vs = bs.map V.bl
  | _, _, _, .nil, h => by simp [dBools] at h; subst h; rfl
  | _, _, _, .cons (d := d) r t, h => by
    cases d <;> simp only [dBools] at h <;> try cases h
    simp only [Option.map_eq_some_iff] at h
    obtain ⟨bs, h1, rfl⟩ := h
    cases r
    rw [bools_rep t h1]
    rfl
theorem ints_rep {ms : List Addr} {H : Hp} : ∀ {vs : List V} {ds : List D} {ns : List Int}, RepDs S ms H vs ds → dInts ds = some ns → vs = ns.map V.int
  | _, _, _, .nil, h => by simp [dInts] at h; subst h; rfl
  | _, _, _, .cons (d := d) r t, h => by
    cases d <;> simp only [dInts] at h <;> try cases h
    simp only [Option.map_eq_some_iff] at h
    obtain ⟨bs, h1, rfl⟩ := h
    cases r
    rw [ints_rep t h1]
    rfl
theorem ron_all : ROn S gAll (rAll S.K) := by
  intro ms st H H0 x a z Q r p1 e out
  unfold gAll at e
  split at e
  · rename_i xs hx
    simp only [Option.map_eq_some_iff] at e
    obtain ⟨bs, hb, rfl⟩ := e
    obtain ⟨l, vs, rfl, hH, t⟩ := lstOf_rep r p1 hx
    have ev := bools_rep t hb
    subst ev
    exact ⟨l, bs, rfl, .of hH, out.bl⟩
  · cases e
theorem boot_all' : bootBuiltins "all" = some (.builtin "all") := by decide +kernel
theorem fe_all {q : Pos} (hg : glB sc "all" = true) (hm : S.mg "all" = none) (hn : noStar a = true) (ha : FE S cc k C sc a fa) : FE S cc k C sc (.Call (.Name "all" q) [a] [] p) (eOn gAll fa) :=
  fe_onB (r := fun S => rAll S.K) ron_all (fun W X c => by have q := cr_all (X := X) c.calm; rw [c.K] at q; exact q) hg (by decide) hm boot_all' hn ha
theorem ron_sum : ROn S gSum (rSum S.K) := by
  intro ms st H H0 x a z Q r p1 e out
  unfold gSum at e
  split at e
  · rename_i xs hx
    simp only [Option.map_eq_some_iff] at e
    obtain ⟨bs, hb, rfl⟩ := e
    obtain ⟨l, vs, rfl, hH, t⟩ := lstOf_rep r p1 hx
    have ev := ints_rep t hb
    subst ev
    exact ⟨l, bs, rfl, .of hH, out.int⟩
  · cases e
theorem boot_sum' : bootBuiltins "sum" = some (.builtin "sum") := by decide +kernel
theorem fe_sum {q : Pos} (hg : glB sc "sum" = true) (hm : S.mg "sum" = none) (hn : noStar a = true) (ha : FE S cc k C sc a fa) : FE S cc k C sc (.Call (.Name "sum" q) [a] [] p) (eOn gSum fa) :=
  fe_onB (r := fun S => rSum S.K) ron_sum (fun W X c => by have q := cr_sum (X := X) c.calm; rw [c.K] at q; exact q) hg (by decide) hm boot_sum' hn ha
/-! tuple, list -/
def rTupF (S : Wd) : List V → Hp → VK → Prop := fun xs H Q => ∃ p ys, xs = [.ref p] ∧ ((SqL S.K H p ys ∧ ∀ l o, H l = none → o.dict = none → Q (.ref l) (upd H l (.frz o (.tup ys)))) ∨ (SqT S.K H p ys ∧ Q (.ref p) H))
theorem call_tupF {X : Cx} (hK : X.K = S.K) : CallR X (.type "tuple") (rTupF S) := by
  intro pins s σ H xs us Q I r h
  obtain ⟨p, ys, rfl, h⟩ := h
  rw [← hK] at h
  obtain ⟨u, rfl, rx⟩ := vals1 r
  cases rx
  rcases h with ⟨hq, q⟩ | ⟨hq, q⟩
  · obtain ⟨its, r', pl, hz⟩ := I.list hq
    have hlen := r'.length
    refine call_tuple_list pl.isList (fun h' kp => ?_) (by simp only [List.size_toArray] <;> omega)
    have I1 : Inv X pins σ H { s with heap := h' } := I.kept (t' := s.toks) kp
    exact ⟨.ref h'.objs.size, _, laidF (t' := s.toks) I1 r' hz, rfl, q _ _ (I1.hok.fresh (Nat.le_refl _)) rfl⟩
  · obtain ⟨its, r', pl, hz⟩ := I.tuple hq
    exact call_tuple_same pl ⟨.ref p, H, I, rfl, q⟩
theorem ron_tuple : ROn S gTuple (rTupF S) := by
  intro ms st H H0 x a z Q r p1 e out
  unfold gTuple at e
  simp only [Option.map_eq_some_iff] at e
  obtain ⟨xs, hx, rfl⟩ := e
  cases a with
  | fr ds =>
    have hx : lits st (.fr ds) = some xs := hx
    obtain ⟨ad, vs, rfl, hq, t⟩ := lits_rep r p1 hx
    exact ⟨ad, vs, rfl, .inl ⟨hq, out.tup r t⟩⟩
  | vl d =>
    cases d with
    | tup ds =>
      have hx : some ds = some xs := hx
      obtain rfl := Option.some.inj hx
      have p1 : RepD S ms H x (.tup ds) := p1
      cases p1 with
      | tup hq t => exact ⟨_, _, rfl, .inr ⟨hq.sq, out.old t hq⟩⟩
    | loc n =>
      have hx : lits st (.vl (.loc n)) = some xs := hx
      obtain ⟨ad, vs, rfl, hq, t⟩ := lits_rep r p1 hx
      exact ⟨ad, vs, rfl, .inl ⟨hq, out.tup r t⟩⟩
    | fls ds =>
      have hx : lits st (.vl (.fls ds)) = some xs := hx
      obtain ⟨ad, vs, rfl, hq, t⟩ := lits_rep r p1 hx
      exact ⟨ad, vs, rfl, .inl ⟨hq, out.tup r t⟩⟩
    | _ => cases hx
theorem boot_tuple' : bootBuiltins "tuple" = some (.type "tuple") := by decide +kernel
theorem fe_tuple {q : Pos} (hg : glB sc "tuple" = true) (hm : S.mg "tuple" = none) (hn : noStar a = true) (ha : FE S cc k C sc a fa) : FE S cc k C sc (.Call (.Name "tuple" q) [a] [] p) (eOn gTuple fa) :=
  fe_onT (r := rTupF) ron_tuple (fun W X c => call_tupF c.K) hg (by decide) hm boot_tuple' hn ha
def rLst (S : Wd) : List V → Hp → VK → Prop := fun xs H Q => ∃ p ys, xs = [.ref p] ∧ (SqL S.K H p ys ∨ SqT S.K H p ys) ∧ ∀ l, H l = none → Q (.ref l) (upd H l (.lst ys))
theorem ron_list : ROn S gList (rLst S) := by
  intro ms st H H0 x a z Q r p1 e out
  unfold gList at e
  simp only [Option.map_eq_some_iff] at e
  obtain ⟨xs, hx, rfl⟩ := e
  obtain ⟨ad, vs, rfl, hq, t⟩ := items_rep r p1 hx
  exact ⟨ad, vs, rfl, hq, out.fr r t⟩
theorem boot_list' : bootBuiltins "list" = some (.type "list") := by decide +kernel
theorem fe_list {q : Pos} (hg : glB sc "list" = true) (hm : S.mg "list" = none) (hn : noStar a = true) (ha : FE S cc k C sc a fa) : FE S cc k C sc (.Call (.Name "list" q) [a] [] p) (eOn gList fa) :=
  fe_onT (r := rLst) ron_list (fun W X c => by have q := call_list_of (X := X); rw [c.K] at q; exact q) hg (by decide) hm boot_list' hn ha
end
end Q


set_option linter.all false
set_option maxRecDepth 100000
set_option maxHeartbeats 2000000
set_option autoImplicit false
/-! Q7: isinstance, max, min, methods of lists. -/
namespace Q
open PySem PySem.Spec PyProof.Rows L2
section
variable {S : Wd} {ms : List Addr} {H : Hp} {st : Store} {v : V} {d : D}
theorem upd_other {a b : Addr} {u : HO} (h : b ≠ a) : upd H a u b = H b := upd_ne h
theorem Ext.upd {a : Addr} {u : HO} (h : a ∈ ms) : Ext ms H ms (upd H a u) :=
  ⟨⟨[], by simp, by simp⟩, fun b o e hb => by rw [upd_ne (fun z => hb (by rw [z]; exact h))]; exact e⟩
theorem nd_ne {n m : Nat} {a b : Addr} (nd : ms.Nodup) (h1 : ms[n]? = some a) (h2 : ms[m]? = some b) (hn : n ≠ m) : b ≠ a := by
  rintro rfl
  exact hn ((List.getElem?_inj (List.getElem?_eq_some_iff.mp h1).1 nd).mp (h1.trans h2.symm))
theorem RepS.upd {n : Nat} {a : Addr} {u : HO} {o : O} (r : RepS S ms H st) (hm : ms[n]? = some a) (ho : RepO S ms (upd H a u) a o) : RepS S ms (upd H a u) (st.set n o) := by
  have hmem : a ∈ ms := List.mem_of_getElem? hm
  refine ⟨r.nd, by simp [r.len], fun m b w e1 e2 => ?_⟩
  by_cases hn : n = m
  · subst hn
    obtain rfl : a = b := Option.some.inj (hm.symm.trans e1)
    have hl : n < st.length := by rw [← r.len]; exact (List.getElem?_eq_some_iff.mp hm).1
    rw [List.getElem?_set_self hl] at e2
    cases e2
    exact ho
  · rw [List.getElem?_set_ne hn] at e2
    exact (r.ob m b w e1 e2).same (.upd hmem) r fun w hw => by rw [upd_ne (nd_ne r.nd hm e1 hn)]; exact hw
theorem lstAt_rep {H0 : Hp} {sv : SV} {q : Nat × List D} (r : RepS S ms H st) (h : RepSV S H0 ms H v sv) (e : lstAt st sv = some q) :
    ∃ l vs, v = .ref l ∧ sv = .vl (.loc q.1) ∧ ms[q.1]? = some l ∧ st[q.1]? = some (.lst q.2) ∧ H l = some (.lst vs) ∧ RepDs S ms H vs q.2 := by
  unfold lstAt at e
  split at e
  · rename_i n
    split at e
    · rename_i xs hn
      cases e
      have h : RepD S ms H v (.loc n) := h
      cases h with
      | loc hm =>
        cases r.look hm hn with
        | lst e1 t => exact ⟨_, _, rfl, rfl, hm, hn, e1, t⟩
    · cases e
  · cases e
theorem lst_set {n : Nat} {a : Addr} {ws : List V} {ds : List D} (r : RepS S ms H st) (hm : ms[n]? = some a) (t : RepDs S ms H ws ds) : RepS S ms (upd H a (.lst ws)) (st.set n (.lst ds)) :=
  r.upd hm (.lst upd_same (t.ext (.upd (List.mem_of_getElem? hm)) r))
end
section
variable {S : Wd} {cc : CC} {k : Nat} {C : Calls} {sc : Scope} {a b e : Expr} {fa fb : Ev} {p : Pos}
/-! isinstance -/
theorem tyF {K : PySem.W.Frag} {H : Hp} {a : Addr} {vs : List V} (h : SqF K H a vs) : TyX K H (.ref a) (.type "tuple") := by
  rcases h with ⟨o, h, _⟩ | ⟨o, its, n, h1, h2, _⟩
  · exact .fTuple h
  · exact .kTuple h1 h2
theorem kitOf {a b : String} (ha : a ∈ ["int", "bool", "str", "tuple", "list", "NoneType"]) (hb : b ∈ ["int", "bool", "str", "tuple", "list"]) : kitB a b = some (a == b || (a == "bool" && b == "int")) := by
  simp only [List.mem_cons, List.not_mem_nil, or_false] at ha hb
  rcases ha with rfl | rfl | rfl | rfl | rfl | rfl <;> rcases hb with rfl | rfl | rfl | rfl | rfl <;> decide +kernel
/-- the text of a type's name -/
def tyStr (t : Str) : String := if t = "int" then "int" else if t = "bool" then "bool" else if t = "str" then "str" else if t = "tuple" then "tuple" else "list"
theorem isA_rep {ms : List Addr} {H0 H : Hp} {st : Store} {v : V} {sv : SV} {t : Str} {r : Bool} (rs : RepS S ms H st) (h : RepSV S H0 ms H v sv) (ht : t ∈ isaTypes) (e : isA st sv t = some r) :
    ∃ a, TyX S.K H v (.type a) ∧ kitB a (tyStr t) = some r := by
  have hb : tyStr t ∈ ["int", "bool", "str", "tuple", "list"] := by
    unfold tyStr
    repeat' split
    all_goals simp
  have fin : ∀ a, TyX S.K H v (.type a) → a ∈ ["int", "bool", "str", "tuple", "list", "NoneType"] → (a == tyStr t || (a == "bool" && tyStr t == "int")) = r → ∃ a, TyX S.K H v (.type a) ∧ kitB a (tyStr t) = some r := by
    intro a h1 h2 h3
    exact ⟨a, h1, by rw [kitOf h2 hb, h3]⟩
  unfold isaTypes at ht
  simp only [List.mem_cons, List.not_mem_nil, or_false] at ht
  unfold isA at e
  split at e
  · cases e; cases h
    refine fin "int" (.base (.int _)) (by simp) ?_
    rcases ht with rfl | rfl | rfl | rfl | rfl <;> decide
  · cases e; cases h
    refine fin "bool" (.base (.bl _)) (by simp) ?_
    rcases ht with rfl | rfl | rfl | rfl | rfl <;> decide
  · cases e; cases h
    refine fin "str" (.base (.str _)) (by simp) ?_
    rcases ht with rfl | rfl | rfl | rfl | rfl <;> decide
  · cases e; cases h
    refine fin "NoneType" (.base .non) (by simp) ?_
    rcases ht with rfl | rfl | rfl | rfl | rfl <;> decide
  · cases e
    cases h with
    | tup hq _ =>
      refine fin "tuple" (tyF hq) (by simp) ?_
      rcases ht with rfl | rfl | rfl | rfl | rfl <;> decide
  · cases e
    obtain ⟨q, vs, rfl, _, e3, _⟩ := h
    refine fin "list" (.base (.lst e3)) (by simp) ?_
    rcases ht with rfl | rfl | rfl | rfl | rfl <;> decide
  · cases e
    cases h with
    | fls hq _ =>
      rename_i la _ _
      have ty : TyX S.K H (.ref la) (.type "list") := by
        rcases hq with ⟨o, ho⟩ | ⟨o, its, n, h1, h2, _⟩
        · exact .base (.frz ho)
        · exact .kList h1 h2
      refine fin "list" ty (by simp) ?_
      rcases ht with rfl | rfl | rfl | rfl | rfl <;> decide
  · cases h with
    | loc hm =>
      split at e
      · rename_i n xs hn
        cases e
        cases rs.look hm hn with
        | lst e1 _ =>
          refine fin "list" (.base (.lst e1)) (by simp) ?_
          rcases ht with rfl | rfl | rfl | rfl | rfl <;> decide
      · cases e
theorem boot_isi : bootBuiltins "isinstance" = some (.builtin "isinstance") := by decide +kernel
theorem boot_tys {t : Str} (h : t ∈ isaTypes) : bootBuiltins t = some (.type (tyStr t)) := by
  unfold isaTypes at h
  simp only [List.mem_cons, List.not_mem_nil, or_false] at h
  rcases h with rfl | rfl | rfl | rfl | rfl <;> decide +kernel
theorem nm_tys {t : Str} (h : t ∈ isaTypes) : t ≠ "__name__" ∧ (t == ("__debug__" : Str)) = false := by
  unfold isaTypes at h
  simp only [List.mem_cons, List.not_mem_nil, or_false] at h
  rcases h with rfl | rfl | rfl | rfl | rfl <;> decide
theorem fe_isa {q q2 : Pos} {t : Str} (ht : t ∈ isaTypes) (hg : glB sc "isinstance" = true) (hgt : glB sc t = true) (hm : S.mg "isinstance" = none) (hmt : S.mg t = none) (hn : noStar a = true) (ha : FE S cc k C sc a fa) :
    FE S cc k C sc (.Call (.Name "isinstance" q) [a, .Name t q2] [] p) (eOn (gIsA t) fa) := by
  intro W X c
  have pt : PE X (.Name t q2) (tC (.ty (tyStr t))) := pe_bltn (gl_of c hgt) (by rw [c.mg]; exact hmt) (boot_tys ht) rfl (nm_tys ht).1 (nm_tys ht).2
  have pa : PA X [a, .Name t q2] (tCons (tG S W C (pSV S) fa) (tCons (tC (.ty (tyStr t))) tNil)) := by
    refine pa_cons (ha W X c) (pa_cons pt pa_nil rfl) ?_
    cases a <;> first | rfl | cases hn
  refine PE.imp (pe_callB call_isi (gl_of c hg) (by rw [c.mg]; exact hm) boot_isi pa (by decide) (by decide) (by cases a <;> first | rfl | cases hn) rfl) fun σ H Q => ?_
  rintro ⟨env, st, ms, rs, re, h⟩
  unfold eOn at h
  refine ⟨env, st, ms, rs, re, EndG.bind pSV_back rs h fun x s1 v ms1 H1 x1 r1 p1 h1 => ?_⟩
  obtain ⟨z, hz, h2⟩ := h1.ofO
  unfold gIsA at hz
  rw [if_pos ht] at hz
  simp only [Option.map_eq_some_iff] at hz
  obtain ⟨r, hr, rfl⟩ := hz
  obtain ⟨A, ty, kt⟩ := isA_rep r1 p1 ht hr
  exact ⟨v, .ty (tyStr t), .type A, .type (tyStr t), r, rfl, .ty _, by rw [c.K]; exact ty, kit_ty kt, h2.ret .refl r1 (.bl r)⟩
/-! max, min of two ints -/
theorem boot_max' : bootBuiltins "max" = some (.builtin "max") := by decide +kernel
theorem boot_min' : bootBuiltins "min" = some (.builtin "min") := by decide +kernel
theorem pa_two {W : WX} {X : Cx} (c : Ctx S cc.N k W sc X) (ha : FE S cc k C sc a fa) (hb : FE S cc k C sc b fb) (hn : noStar a = true) (hn2 : noStar b = true) : PA X [a, b] (tCons (tG S W C (pSV S) fa) (tCons (tG S W C (pSV S) fb) tNil)) := by
  refine pa_cons (ha W X c) (pa_cons (hb W X c) pa_nil ?_) ?_
  · cases b <;> first | rfl | cases hn2
  · cases a <;> first | rfl | cases hn
theorem star2 {X : Cx} (hn : noStar a = true) : starEach [a, b] X.env = (false, eval a X.env) :: starEach [b] X.env := by
  cases a <;> first | rfl | cases hn
theorem plain2 {X : Cx} {pos : Pos} (hn : noStar b = true) : (backTo pos (starEach [b] X.env)).any (·.1) = false := by
  cases b <;> first | rfl | cases hn
theorem fe_max2 {q : Pos} (hg : glB sc "max" = true) (hm : S.mg "max" = none) (hn : noStar a = true) (hn2 : noStar b = true) (ha : FE S cc k C sc a fa) (hb : FE S cc k C sc b fb) : FE S cc k C sc (.Call (.Name "max" q) [a, b] [] p) (eMax2 fa fb) := by
  intro W X c
  refine PE.imp (pe_callB (call_max2 c.calm) (gl_of c hg) (by rw [c.mg]; exact hm) boot_max' (pa_two c ha hb hn hn2) (by decide) (by decide) (star2 hn) (plain2 hn2)) fun σ H Q => ?_
  rintro ⟨env, st, ms, rs, re, h⟩
  unfold eMax2 at h
  refine ⟨env, st, ms, rs, re, EndG.bind pSV_back rs h fun x s1 v ms1 H1 x1 r1 p1 h1 => ?_⟩
  refine ⟨env, s1, ms1, r1, re.ext x1 rs, EndG.bind pSV_back r1 h1 fun y s2 u ms2 H2 x2 r2 p2 h2 => ?_⟩
  split at h2
  · rename_i i j
    have e1 := rI_of (RepSV.ext x2 r1 p1)
    have e2 := rI_of p2
    subst e1 e2
    exact ⟨i, j, rfl, h2.ret .refl r2 (.int _)⟩
  · exact h2.elim
theorem fe_min2 {q : Pos} (hg : glB sc "min" = true) (hm : S.mg "min" = none) (hn : noStar a = true) (hn2 : noStar b = true) (ha : FE S cc k C sc a fa) (hb : FE S cc k C sc b fb) : FE S cc k C sc (.Call (.Name "min" q) [a, b] [] p) (eMin2 fa fb) := by
  intro W X c
  refine PE.imp (pe_callB (call_min2 c.calm) (gl_of c hg) (by rw [c.mg]; exact hm) boot_min' (pa_two c ha hb hn hn2) (by decide) (by decide) (star2 hn) (plain2 hn2)) fun σ H Q => ?_
  rintro ⟨env, st, ms, rs, re, h⟩
  unfold eMin2 at h
  refine ⟨env, st, ms, rs, re, EndG.bind pSV_back rs h fun x s1 v ms1 H1 x1 r1 p1 h1 => ?_⟩
  refine ⟨env, s1, ms1, r1, re.ext x1 rs, EndG.bind pSV_back r1 h1 fun y s2 u ms2 H2 x2 r2 p2 h2 => ?_⟩
  split at h2
  · rename_i i j
    have e1 := rI_of (RepSV.ext x2 r1 p1)
    have e2 := rI_of p2
    subst e1 e2
    exact ⟨i, j, rfl, h2.ret .refl r2 (.int _)⟩
  · exact h2.elim
/-! methods of lists -/
theorem fe_append {q : Pos} (hb : baseB a = true) (hl : (q.endLine == p.line) = true) (hn : noStar b = true) (ha : FE S cc k C sc a fa) (hb2 : FE S cc k C sc b fb) : FE S cc k C sc (.Call (.Attribute a "append" q) [b] [] p) (eAppend fa fb) := by
  intro W X c
  have pa : PA X [b] (tCons (tG S W C (pSV S) fb) tNil) := pa_one c hb2 hn
  refine PE.imp (pe_bm (r := rAppend) PySem.F.plainAttrs_list PySem.F.slot_list_append PySem.F.type_list_append (fun pins s σ H x xs v us Q => mt_append pins s σ H x xs v us Q) (ha W X c) pa (base_of hb) (by cases b <;> first | rfl | cases hn) hl (star1 hn) rfl) fun σ H Q => ?_
  rintro ⟨env, st, ms, rs, re, h⟩
  unfold eAppend at h
  refine ⟨env, st, ms, rs, re, EndG.bind pSV_back rs h fun x s1 v ms1 H1 x1 r1 p1 h1 => ?_⟩
  split at h1
  · rename_i hs
    obtain ⟨q1, hq1⟩ := Option.isSome_iff_exists.mp hs
    obtain ⟨l, vs, rfl, rfl, hm, hst, eH, t⟩ := lstAt_rep r1 p1 hq1
    refine ⟨.inl ⟨rfl, vs, .of eH⟩, env, s1, ms1, r1, re.ext x1 rs, EndG.val pSV_back r1 h1 fun d s2 u ms2 H2 x2 r2 p2 h2 => ?_⟩
    split at h2
    · rename_i q2 hq2
      obtain ⟨l', vs', e1, e2, hm2, hst2, eH2, t2⟩ := lstAt_rep r2 (RepSV.ext x2 r1 p1) hq2
      cases e1
      split at h2
      · rename_i hz
        refine ⟨l, vs', u, rfl, rfl, eH2, by rw [t2.length, ← szl_eq]; exact hz, ?_⟩
        exact h2.ret (.upd (List.mem_of_getElem? hm2)) (lst_set r2 hm2 (t2.append (.cons p2 .nil))) .non
      · exact h2.elim
    · exact h2.elim
  · exact h1.elim
theorem fe_extend {q : Pos} (hb : baseB a = true) (hl : (q.endLine == p.line) = true) (hn : noStar b = true) (ha : FE S cc k C sc a fa) (hb2 : FE S cc k C sc b fb) : FE S cc k C sc (.Call (.Attribute a "extend" q) [b] [] p) (eExtend fa fb) := by
  intro W X c
  have pa : PA X [b] (tCons (tG S W C (pSV S) fb) tNil) := pa_one c hb2 hn
  refine PE.imp (pe_bm (r := rExtend) PySem.F.plainAttrs_list PySem.F.slot_list_extend PySem.F.type_list_extend (fun pins s σ H x xs v us Q => mt_extend pins s σ H x xs v us Q) (ha W X c) pa (base_of hb) (by cases b <;> first | rfl | cases hn) hl (star1 hn) rfl) fun σ H Q => ?_
  rintro ⟨env, st, ms, rs, re, h⟩
  unfold eExtend at h
  refine ⟨env, st, ms, rs, re, EndG.bind pSV_back rs h fun x s1 v ms1 H1 x1 r1 p1 h1 => ?_⟩
  split at h1
  · rename_i hs
    obtain ⟨q1, hq1⟩ := Option.isSome_iff_exists.mp hs
    obtain ⟨l, vs, rfl, rfl, hm, hst, eH, t⟩ := lstAt_rep r1 p1 hq1
    refine ⟨.inl ⟨rfl, vs, .of eH⟩, env, s1, ms1, r1, re.ext x1 rs, EndG.bind pSV_back r1 h1 fun d s2 u ms2 H2 x2 r2 p2 h2 => ?_⟩
    split at h2
    · rename_i ys hys
      obtain ⟨b', ws, rfl, eB, tb⟩ := lstOf_rep r2 p2 hys
      split at h2
      · rename_i q2 hq2
        obtain ⟨l', vs', e1, e2, hm2, hst2, eH2, t2⟩ := lstAt_rep r2 (RepSV.ext x2 r1 p1) hq2
        cases e1
        split at h2
        · rename_i hz
          refine ⟨l, b', vs', ws, rfl, rfl, eH2, eB, by rw [t2.length, tb.length, ← szl_eq]; exact hz, ?_⟩
          exact h2.ret (.upd (List.mem_of_getElem? hm2)) (lst_set r2 hm2 (t2.append tb)) .non
        · exact h2.elim
      · exact h2.elim
    · exact h2.elim
  · exact h1.elim
theorem RepDs.dropLast {ms : List Addr} {H : Hp} {vs : List V} {ds : List D} (t : RepDs S ms H vs ds) : RepDs S ms H vs.dropLast ds.dropLast := by
  rw [List.dropLast_eq_take, List.dropLast_eq_take, t.length]
  exact t.take _
theorem fe_pop {q : Pos} (hb : baseB a = true) (hl : (q.endLine == p.line) = true) (ha : FE S cc k C sc a fa) : FE S cc k C sc (.Call (.Attribute a "pop" q) [] [] p) (ePop fa) := by
  intro W X c
  refine PE.imp (pe_bm0 (r := rPop) PySem.F.plainAttrs_list PySem.F.slot_list_pop PySem.F.type_list_pop (fun pins s σ H x xs v us Q => mt_pop pins s σ H x xs v us Q) (ha W X c) (base_of hb) hl) fun σ H Q => ?_
  rintro ⟨env, st, ms, rs, re, h⟩
  unfold ePop at h
  refine ⟨env, st, ms, rs, re, EndG.bind pSV_back rs h fun x s1 v ms1 H1 x1 r1 p1 h1 => ?_⟩
  split at h1
  · rename_i q1 hq1
    obtain ⟨l, vs, rfl, rfl, hm, hst, eH, t⟩ := lstAt_rep r1 p1 hq1
    split at h1
    · rename_i d hd
      rw [List.getLast?_eq_getElem?] at hd
      obtain ⟨w, hw, rw'⟩ := t.get hd
      refine ⟨.inl ⟨rfl, vs, .of eH⟩, l, vs, w, rfl, rfl, eH, by rw [t.length]; exact hw, ?_⟩
      exact h1.ret (.upd (List.mem_of_getElem? hm)) (lst_set r1 hm t.dropLast) (RepD.ext (.upd (List.mem_of_getElem? hm)) r1 rw')
    · exact h1.elim
  · exact h1.elim
end
end Q


set_option linter.all false
set_option maxRecDepth 100000
set_option maxHeartbeats 2000000
set_option autoImplicit false
/-! Q8: x.index(y), sorted. -/
namespace Q
open PySem PySem.Spec PyProof.Rows L2 PySem.W
section
variable {S : Wd} {cc : CC} {k : Nat} {C : Calls} {sc : Scope} {a b e : Expr} {fa fb : Ev} {p : Pos}
theorem pys_get : ∀ {xs : List D} {ps : List PyData} {i : Nat} {x : D}, D.pys xs = some ps → xs[i]? = some x → ∃ p, x.py = some p ∧ ps[i]? = some p
  | [], _, _, _, _, h => by simp at h
  | y :: ys, ps, i, x, e, h => by
    simp only [D.pys] at e
    split at e
    · rename_i q qs h1 h2
      cases e
      cases i with
      | zero => simp at h; subst h; exact ⟨q, h1, rfl⟩
      | succ i =>
        obtain ⟨p, e1, e2⟩ := pys_get (i := i) h2 (by simpa using h)
        exact ⟨p, e1, by simpa using e2⟩
    · cases e
theorem pys_len : ∀ {xs : List D} {ps : List PyData}, D.pys xs = some ps → ps.length = xs.length
  | [], _, e => by simp [D.pys] at e; subst e; rfl
  | y :: ys, ps, e => by
    simp only [D.pys] at e
    split at e
    · rename_i q qs h1 h2
      cases e
      simp [pys_len h2]
    · cases e
theorem depth_get : ∀ {ps : List PyData} {i : Nat} {p : PyData}, ps[i]? = some p → p.depth ≤ PyData.depthAll ps
  | [], _, _, h => by simp at h
  | q :: qs, 0, p, h => by simp at h; subst h; rw [PyData.depthAll]; exact Nat.le_max_left _ _
  | q :: qs, i + 1, p, h => by rw [PyData.depthAll]; exact Nat.le_trans (depth_get (i := i) (by simpa using h)) (Nat.le_max_right _ _)
/-- the items' equality to a value -/
theorem items_eq {X : Cx} {pins : List (Addr × Obj)} {σ : L2.St} {ms : List Addr} {H : Hp} {s : Shared} {A : Around} {vs : List V} {ds : List D} {ps : List PyData} {its : List Value} {v : V} {u : Value} {d : PyData} (hK : X.K = S.K) (I : Inv X pins σ H s)
    (t : RepDs S ms H vs ds) (e : D.pys ds = some ps) (rv : Vals vs its) (dv : Dp S.K H v d) (pd : d.plain = true) (ru : RelV v u) (h1 : d.depth ≤ deepLine) (h2 : PyData.depthAll ps ≤ deepLine) (hu : A.units + 62 < cLine) :
    SeqAt.ItemsEq A s its (ps.map fun z => PyData.eqv z d) u true := by
  have len : its.length = ps.length := by rw [← rv.length, t.length, pys_len e]
  refine ⟨by simp [len], fun j j1 j2 => ?_⟩
  have j3 : j < ps.length := by rw [← len]; exact j1
  have j4 : j < ds.length := by rw [← pys_len e]; exact j3
  obtain ⟨q, hq1, hq2⟩ := pys_get e (List.getElem?_eq_getElem j4)
  obtain ⟨w, hw, rw'⟩ := t.get (List.getElem?_eq_getElem j4)
  obtain ⟨uw, hu1, ru1⟩ := rv.get hw
  rw [List.getElem?_eq_getElem j1] at hu1
  cases hu1
  rw [← hK] at dv
  have dq := dp_of rw' hq1
  rw [← hK] at dq
  obtain ⟨as, r1⟩ := Dp.reads I _ _ _ dq ru1
  obtain ⟨bs, r2⟩ := Dp.reads I _ _ _ dv ru
  have hd := depth_get hq2
  have hmin : min q.depth d.depth ≤ d.depth := Nat.min_le_right _ _
  have h1' : d.depth ≤ 60 := h1
  have key := PySem.SeqAt.eqAt_plain q d A s _ _ _ _ r1 r2 (plain_py hq1) pd (by omega)
  have e2 : decide ((ps.map fun z => PyData.eqv z d)[j] = true) = PyData.eqv q d := by
    have : (ps.map fun z => PyData.eqv z d)[j] = PyData.eqv q d := by
      rw [List.getElem_map]
      rw [List.getElem?_eq_getElem j3] at hq2
      cases hq2
      rfl
    rw [this]
    cases PyData.eqv q d <;> rfl
  rw [e2]
  exact key
theorem find_idx {ps : List PyData} {d : PyData} {j : Nat} (h : ps.findIdx? (fun z => PyData.eqv z d) = some j) : true ∈ (ps.map fun z => PyData.eqv z d) ∧ (ps.map fun z => PyData.eqv z d).idxOf true = j := by
  induction ps generalizing j with
  | nil => simp at h
  | cons q qs ih =>
    rw [List.findIdx?_cons] at h
    cases hq : PyData.eqv q d with
    | true =>
      rw [hq] at h
      simp at h
      subst h
      refine ⟨by simp [hq], ?_⟩
      rw [List.map_cons, hq, List.idxOf_cons_self]
    | false =>
      rw [hq] at h
      simp only [Bool.false_eq_true, if_false, Option.map_eq_some_iff] at h
      obtain ⟨i, hi, rfl⟩ := h
      obtain ⟨h1, h2⟩ := ih hi
      refine ⟨by rw [List.map_cons]; exact List.mem_cons_of_mem _ h1, ?_⟩
      rw [List.map_cons, hq, List.idxOf_cons, h2]
      rfl
theorem fe_index {q : Pos} (hb : baseB a = true) (hl : (q.endLine == p.line) = true) (hn : noStar b = true) (ha : FE S cc k C sc a fa) (hb2 : FE S cc k C sc b fb) : FE S cc k C sc (.Call (.Attribute a "index" q) [b] [] p) (eIndex fa fb) := by
  intro W X c
  have pa : PA X [b] (tCons (tG S W C (pSV S) fb) tNil) := pa_one c hb2 hn
  have hu := c.room.units
  refine ⟨fun pins s σ H Q I h => ?_⟩
  obtain ⟨env, st, ms, rs, re, h⟩ := h
  unfold eIndex at h
  have step := (ha W X c).run pins s σ H (fun x H1 => ∃ s1 sv ms1, RepS S ms1 H1 s1 ∧ RepE S ms1 H1 σ env ∧ RepSV S H ms1 H1 x sv ∧ (items s1 sv).isSome = true ∧ EndG S W σ ms1 H1 (pSV S) Q ((fb C env s1).bind fun y s2 => match svPy s2 y, items s2 sv with
    | some d, some xs => (match D.pys xs with
      | some ds => if d.depth ≤ deepLine ∧ PyData.depthAll ds ≤ deepLine ∧ xs.length ≤ szl then (match ds.findIdx? fun z => PyData.eqv z d with
        | some j => .ok (.vl (.int j)) s2
        | none => .bad) else .bad
      | none => .bad)
    | _, _ => .bad)) I ⟨env, st, ms, rs, re, EndG.bind pSV_back rs h fun x s1 v ms1 H1 x1 r1 p1 h1 => by
      split at h1
      · rename_i hs
        exact ⟨s1, x, ms1, r1, re.ext x1 rs, p1, hs, h1⟩
      · exact h1.elim⟩
  refine wpAny_Call_method_late (base_of hb) (by cases b <;> first | rfl | cases hn) hl rfl (thn step fun v s1 ⟨x, H1, I1, rx, st1, sv, ms1, r1, re1, p1, hs, h1⟩ => ?_)
  -- the index found
  have fin : ∀ {ds : List D} {xs : List V} {its : List Value} {y : SV} {u : V} {uv : Value} {s2 : Shared} {H2 : Hp} {st2 : Store} {ms2 : List Addr}, Inv X pins σ H2 s2 → RepS S ms2 H2 st2 → RepSV S H1 ms2 H2 u y → RelV u uv → items st2 sv = some ds → RepDs S ms2 H2 xs ds → Vals xs its →
      EndG S W σ ms2 H2 (pSV S) Q (match svPy st2 y, items st2 sv with
        | some d, some xs => (match D.pys xs with
          | some ds => if d.depth ≤ deepLine ∧ PyData.depthAll ds ≤ deepLine ∧ xs.length ≤ szl then (match ds.findIdx? fun z => PyData.eqv z d with
            | some j => .ok (.vl (.int j)) st2
            | none => .bad) else .bad
          | none => .bad)
        | _, _ => .bad) →
      ∃ ks : List Bool, SeqAt.ItemsEq X.A.in1 s2 its ks uv true ∧ true ∈ ks ∧ ks.length ≤ sizeLine ∧ Q (.int (ks.idxOf true : Nat)) H2 := by
    intro ds xs its y u uv s2 H2 st2 ms2 I2 r2 py ru hi t rv h2
    rw [hi] at h2
    split at h2
    · rename_i d xs' e1 e2
      cases e2
      split at h2
      · rename_i ps hps
        split at h2
        · rename_i hd
          split at h2
          · rename_i j hj
            obtain ⟨d1, d2⟩ := sv_dp r2 py e1
            obtain ⟨m1, m2⟩ := find_idx hj
            refine ⟨ps.map fun z => PyData.eqv z d, items_eq c.K I2 t hps rv d1 d2 ru hd.1 hd.2.1 (by show X.A.units + 1 + 62 < cLine; omega), m1, by rw [List.length_map, pys_len hps, ← szl_eq]; exact hd.2.2, ?_⟩
            rw [m2]
            exact h2.ret .refl r2 (.int _)
          · exact h2.elim
        · exact h2.elim
      · exact h2.elim
    · exact h2.elim
  have one : ∀ {vs : List V} {us : List Value} {u : V}, vs = [u] → Vals vs us → ∃ w, us = [w] ∧ RelV u w := by
    rintro vs us u rfl r
    exact vals1 r
  have lst : ∀ {xs0 : List D}, lits st1 sv = some xs0 → (∀ st, items st sv = lits st sv) → MethodOn X.prog X.w X.A "index" p v (backTo p (starEach [b] X.env)) (EP X pins σ Q) X.xe s1 := by
    intro xs0 hx0 same
    obtain ⟨ad, vs0, rfl, hq0, t0⟩ := lits_rep r1 p1 hx0
    obtain rfl : v = Value.ref ad := rx
    have args := pa.run p pins s1 σ H1 (fun vs H2 => ∃ y s2 ms2 u, vs = [u] ∧ RepS S ms2 H2 s2 ∧ RepSV S H1 ms2 H2 u y ∧ RepSV S H ms2 H2 (.ref ad) sv ∧ EndG S W σ ms2 H2 (pSV S) Q (match svPy s2 y, items s2 sv with
      | some d, some xs => (match D.pys xs with
        | some ds => if d.depth ≤ deepLine ∧ PyData.depthAll ds ≤ deepLine ∧ xs.length ≤ szl then (match ds.findIdx? fun z => PyData.eqv z d with
          | some j => .ok (.vl (.int j)) s2
          | none => .bad) else .bad
        | none => .bad)
      | _, _ => .bad)) I1 ⟨env, st1, ms1, r1, re1, EndG.bind pSV_back r1 h1 fun y s2 u ms2 H2 x2 r2 p2 h2 => ⟨y, s2, ms2, u, rfl, r2, p2, RepSV.ext x2 r1 p1, h2⟩⟩
    obtain ⟨its0, rv0, pl0, hz0⟩ := I1.list (by rw [c.K]; exact hq0)
    refine ⟨"list", _, PySem.F.plainAttrs_list, PySem.F.slot_list_index, PySem.F.type_list_index, pl0.isList.typeIs, fun a' e' => by cases e'; obtain ⟨o, n, e, _, hd, _⟩ := pl0; exact ⟨o, e, hd⟩, ?_⟩
    rw [star1 hn] at args ⊢
    refine Calls.callWith_builtin rfl (Calls.evalArgs_plain (thn args fun us s2 ⟨vs, H2, I2, rvs, y, st2, ms2, u, e2, rs2, py, px, h2⟩ => ?_))
    obtain ⟨uv, rfl, ru⟩ := one e2 rvs
    have hi : ∃ ds, items st2 sv = some ds := by
      cases hh : items st2 sv with
      | some ds => exact ⟨ds, rfl⟩
      | none =>
        rw [hh] at h2
        split at h2
        · rename_i e3; cases e3
        · exact h2.elim
    obtain ⟨ds, hi⟩ := hi
    obtain ⟨a2, vs2, e3, hq2, t2⟩ := lits_rep rs2 px (by rw [← same]; exact hi)
    cases e3
    obtain ⟨its2, rv2, pl2, hz2⟩ := I2.list (by rw [c.K]; exact hq2)
    obtain ⟨ks, k1, k2, k3, k4⟩ := fin I2 rs2 py ru hi t2 rv2 h2
    exact SeqAt.call_list_index pl2.isList k1 k3 k2 ⟨.int _, H2, I2.tok _, ⟨_, rfl⟩, k4⟩
  cases sv with
  | fr xs => exact lst (xs0 := xs) rfl fun _ => rfl
  | vl d =>
    cases d with
    | loc n =>
      obtain ⟨xs0, hx0⟩ := Option.isSome_iff_exists.mp hs
      exact lst (xs0 := xs0) hx0 fun _ => rfl
    | fls xs => exact lst (xs0 := xs) rfl fun _ => rfl
    | tup ts =>
      have p1' : RepD S ms1 H1 x (.tup ts) := p1
      cases p1' with
      | @tup ad vs0 _ hq0 t0 =>
        obtain rfl : v = Value.ref ad := rx
        have args := pa.run p pins s1 σ H1 (fun vs H2 => ∃ y s2 ms2 u, vs = [u] ∧ RepS S ms2 H2 s2 ∧ RepSV S H1 ms2 H2 u y ∧ RepSV S H ms2 H2 (.ref ad) (.vl (.tup ts)) ∧ EndG S W σ ms2 H2 (pSV S) Q (match svPy s2 y, items s2 (.vl (.tup ts)) with
          | some d, some xs => (match D.pys xs with
            | some ds => if d.depth ≤ deepLine ∧ PyData.depthAll ds ≤ deepLine ∧ xs.length ≤ szl then (match ds.findIdx? fun z => PyData.eqv z d with
              | some j => .ok (.vl (.int j)) s2
              | none => .bad) else .bad
            | none => .bad)
          | _, _ => .bad)) I1 ⟨env, st1, ms1, r1, re1, EndG.bind pSV_back r1 h1 fun y s2 u ms2 H2 x2 r2 p2 h2 => ⟨y, s2, ms2, u, rfl, r2, p2, RepSV.ext x2 r1 p1, h2⟩⟩
        have ty : s1.TypeIs (Value.ref ad) "tuple" ∧ ∀ a, Value.ref ad = .ref a → ∃ ob, s1.heap.get? a = some ob ∧ ob.dict = none := by
          rcases hq0 with ⟨o, ho, hd⟩ | ⟨o, its, n, h1, h2, h3, _⟩
          · have hob : ObjOk X.prog X.w H1 s1.heap ad (.frz o (.tup vs0)) := I1.hok ad _ ho
            obtain ⟨e1, _, _, _, ob, e2, e3, _⟩ := hob
            have e4 : o = ob := Option.some.inj (e1.symm.trans e2)
            subst e4
            exact ⟨⟨o, e1, e3⟩, fun a e => by cases e; exact ⟨o, e1, hd⟩⟩
          · have hk := I1.kIn ad o (by rw [c.K]; exact h1)
            exact ⟨⟨o, hk, h2⟩, fun a e => by cases e; exact ⟨o, hk, h3⟩⟩
        refine ⟨"tuple", _, PySem.F.plainAttrs_tuple, PySem.F.slot_tuple_index, PySem.F.type_tuple_index, ty.1, ty.2, ?_⟩
        rw [star1 hn] at args ⊢
        refine Calls.callWith_builtin rfl (Calls.evalArgs_plain (thn args fun us s2 ⟨vs, H2, I2, rvs, y, st2, ms2, u, e2, rs2, py, px, h2⟩ => ?_))
        obtain ⟨uv, rfl, ru⟩ := one e2 rvs
        have px' : RepD S ms2 H2 (.ref ad) (.tup ts) := px
        cases px' with
        | @tup _ vs2 _ hq2 t2 =>
          obtain ⟨its2, rv2, pl2, hz2⟩ := I2.tuple (by rw [c.K]; exact hq2.sq)
          obtain ⟨ks, k1, k2, k3, k4⟩ := fin I2 rs2 py ru rfl t2 rv2 h2
          exact SeqAt.call_tuple_index pl2 k1 k2 ⟨.int _, H2, I2.tok _, ⟨_, rfl⟩, k4⟩
    | _ => exact absurd hs (by simp [items])

/-! sorted -/
def dkey (z : V × D) : PyData := dData z.2
theorem dLe_eq (a b : D) : dLe a b = dataLe false dData a b := rfl
theorem each_zip {ms : List Addr} {H : Hp} {R : Value → V × D → Prop} : ∀ {vs : List V} {ds : List D} {us : List Value}, RepDs S ms H vs ds → Vals vs us → (∀ v d u, RepD S ms H v d → RelV v u → d ∈ ds → R u (v, d)) → EachIs R us (vs.zip ds)
  | _, _, _, .nil, .nil, _ => .nil
  | _, _, _, .cons r t, .cons r' t', h => .cons (h _ _ _ r r' List.mem_cons_self) (each_zip t t' fun v d u a b m => h v d u a b (List.mem_cons_of_mem _ m))
theorem zip_rep {ms : List Addr} {H : Hp} : ∀ {vs : List V} {ds : List D}, RepDs S ms H vs ds → ∀ z ∈ vs.zip ds, RepD S ms H z.1 z.2
  | _, _, .nil, z, h => by simp at h
  | _, _, .cons r t, z, h => by
    rw [List.zip_cons_cons] at h
    rcases List.mem_cons.mp h with rfl | h
    · exact r
    · exact zip_rep t z h
theorem reps_of {ms : List Addr} {H : Hp} : ∀ {zs : List (V × D)}, (∀ z ∈ zs, RepD S ms H z.1 z.2) → RepDs S ms H (zs.map Prod.fst) (zs.map Prod.snd)
  | [], _ => .nil
  | z :: zs, h => .cons (h z List.mem_cons_self) (reps_of fun y hy => h y (List.mem_cons_of_mem _ hy))
theorem vals_each : ∀ {us : List Value} {zs : List (V × D)}, EachIs (fun u z => RelV z.1 u) us zs → Vals (zs.map Prod.fst) us
  | _, _, .nil => .nil
  | _, _, .cons r t => .cons r (vals_each t)
theorem map_snd {ms : List Addr} {H : Hp} {vs : List V} {ds : List D} (t : RepDs S ms H vs ds) : (vs.zip ds).map Prod.snd = ds := List.map_snd_zip (Nat.le_of_eq t.length.symm)
theorem pys_mem : ∀ {xs : List D} {ps : List PyData}, D.pys xs = some ps → ps = xs.map dData ∧ ∀ x ∈ xs, ∃ p, x.py = some p ∧ p ∈ ps
  | [], _, e => by simp [D.pys] at e; subst e; exact ⟨rfl, fun x h => by cases h⟩
  | y :: ys, ps, e => by
    simp only [D.pys] at e
    split at e
    · rename_i q qs h1 h2
      cases e
      obtain ⟨e1, e2⟩ := pys_mem h2
      refine ⟨by simp [dData, h1, e1], fun x hx => ?_⟩
      rcases List.mem_cons.mp hx with rfl | hx
      · exact ⟨q, h1, List.mem_cons_self⟩
      · obtain ⟨p, p1, p2⟩ := e2 x hx
        exact ⟨p, p1, List.mem_cons_of_mem _ p2⟩
    · cases e
theorem sortable_ok {ps : List PyData} (h : sortable ps = true) : AllAlike ps ∧ Sortable ps ∧ ∀ p ∈ ps, p.depth ≤ deepLine := by
  unfold sortable at h
  simp only [Bool.and_eq_true, Bool.or_eq_true, List.all_eq_true, decide_eq_true_eq, allAlike] at h
  obtain ⟨⟨h1, h2⟩, h3⟩ := h
  refine ⟨fun d hd d' hd' => h2 d hd d' hd', ?_, h3⟩
  rcases h1 with h1 | h1
  · refine .inl fun d hd => ?_
    have q := h1 d hd
    unfold pyTup1 at q
    split at q
    · exact ⟨_, _, rfl⟩
    · cases q
  · refine .inr fun d hd => ?_
    obtain ⟨q1, q2⟩ := h1 d hd
    refine ⟨?_, ?_⟩
    · rintro rfl; simp [pyNone] at q2
    · rintro xs rfl; simp [pyTup] at q1
/-- sorted(xs) of a list -/
def rSort (S : Wd) : List V → Hp → VK → Prop := fun xs H Q => ∃ (a : Addr) (vs : List V) (ds es : List D) (ms : List Addr), xs = [.ref a] ∧ SqL S.K H a vs ∧ RepDs S ms H vs ds ∧ sortD ds = some es ∧ ds.length ≤ szl ∧
  ∀ ws, RepDs S ms H ws es → ∀ l, H l = none → Q (.ref l) (upd H l (.lst ws))
theorem cr_sort {X : Cx} {k : Nat} (hK : X.K = S.K) (hr : Room k X.A) : CallR X (.builtin "sorted") (rSort S) := by
  intro pins s σ H xs us Q I r h
  obtain ⟨a, vs, ds, es, ms, rfl, hq, t, hs, hz, q⟩ := h
  obtain ⟨u, rfl, ru⟩ := vals1 r
  obtain rfl : u = Value.ref a := ru
  obtain ⟨its, rv, pl, hzl⟩ := I.list (by rw [hK]; exact hq)
  rw [sortD_eq] at hs
  split at hs
  · rename_i ps hps
    split at hs
    · rename_i hso
      cases hs
      obtain ⟨al, so, dp⟩ := sortable_ok hso
      obtain ⟨e1, e2⟩ := pys_mem hps
      have hu := hr.units
      have emap : (vs.zip ds).map dkey = ps := by
        have : (vs.zip ds).map dkey = ((vs.zip ds).map Prod.snd).map dData := by rw [List.map_map]; rfl
        rw [this, map_snd t, e1]
      have mem_of : ∀ z ∈ vs.zip ds, ∃ p, z.2.py = some p ∧ p ∈ ps ∧ dkey z = p := by
        intro z hz
        obtain ⟨p, h1, h2⟩ := e2 z.2 (List.of_mem_zip hz).2
        exact ⟨p, h1, h2, by unfold dkey dData; rw [h1]; rfl⟩
      refine sorted_data (bs := vs.zip ds) (enc := dkey) (R := fun u z => RelV z.1 u) pl.isList (each_zip t rv fun v d u _ r _ => r) ?_ (by rw [emap]; exact al) (by rw [emap]; exact so) ?_ (fun z hz => ?_) fun out hlen e => ?_
      · refine each_zip t rv fun v d u rd rl hd => ?_
        obtain ⟨p, h1, h2⟩ := e2 d hd
        have dd := dp_of rd h1
        rw [← hK] at dd
        obtain ⟨as, rr⟩ := Dp.reads I _ _ _ dd rl
        exact ⟨as, by unfold dkey dData; rw [h1]; exact rr⟩
      · rw [List.length_zip, t.length, Nat.min_self, ← szl_eq]
        exact hz
      · obtain ⟨p, _, h2, h3⟩ := mem_of z hz
        have h60 : p.depth ≤ 60 := dp p h2
        rw [h3]
        omega
      · obtain ⟨ep, he'⟩ := PyProof.Rows.sortedAll_at s.heap its out.toArray
        have rs : RepDs S ms H (((vs.zip ds).mergeSort (dataLe false dkey)).map Prod.fst) (ds.mergeSort dLe) := by
          have h1 := reps_of (zs := (vs.zip ds).mergeSort (dataLe false dkey)) fun z hz => zip_rep t z ((List.mergeSort_perm _ _).mem_iff.mp hz)
          have h2 : ((vs.zip ds).mergeSort (dataLe false dkey)).map Prod.snd = ds.mergeSort dLe := by
            rw [sort_maps (r := dataLe false dkey) (s := dLe) Prod.snd (fun _ _ _ _ => rfl), map_snd t]
          rw [h2] at h1
          exact h1
        have hv := vals_each e
        have hl2 : (((vs.zip ds).mergeSort (dataLe false dkey)).map Prod.fst).length ≤ sizeLine := by
          rw [List.length_map, (List.mergeSort_perm _ _).length_eq, List.length_zip, t.length, Nat.min_self, ← szl_eq]
          exact hz
        exact ⟨.ref _, upd H (s.heap.objs.size + 1) (.lst _), I.laid (t' := s.toks) (fun _ _ => PyProof.Rows.sortedAll_old) (Nat.le_succ _) ⟨hl2, out, ep, hv, he'⟩, rfl, q _ rs _ (I.hok.fresh (Nat.le_succ _))⟩
    · cases hs
  · cases hs
theorem ron_sorted : ROn S gSorted (rSort S) := by
  intro ms st H H0 x a z Q r p1 e out
  unfold gSorted at e
  split at e
  · rename_i xs hx
    split at e
    · rename_i hz
      simp only [Option.map_eq_some_iff] at e
      obtain ⟨es, he, rfl⟩ := e
      obtain ⟨ad, vs, rfl, hq, t⟩ := lits_rep r p1 hx
      exact ⟨ad, vs, xs, es, ms, rfl, hq, t, he, hz, fun ws tw => out.fr r tw⟩
    · cases e
  · cases e
theorem boot_sorted' : bootBuiltins "sorted" = some (.builtin "sorted") := by decide +kernel
theorem fe_sorted {q : Pos} (hg : glB sc "sorted" = true) (hm : S.mg "sorted" = none) (hn : noStar a = true) (ha : FE S cc k C sc a fa) : FE S cc k C sc (.Call (.Name "sorted" q) [a] [] p) (eOn gSorted fa) :=
  fe_onB (r := rSort) ron_sorted (fun W X c => cr_sort c.K c.room) hg (by decide) hm boot_sorted' hn ha
end
end Q


set_option linter.all false
set_option maxRecDepth 100000
set_option maxHeartbeats 2000000
set_option autoImplicit false
/-! Q9: calls of defs, methods, classes. -/
namespace Q
open PySem PySem.Spec PyProof.Rows L2 PySem.W

/-! what a call made and nobody reaches -/
section
variable {S : Wd} {ms new : List Addr} {H H1 : Hp} {st s1 : Store}
mutual
theorem RepD.low : ∀ {v : V} {d : D}, RepD S ms H v d → d.low ms.length = true
  | _, _, .non => rfl
  | _, _, .bl b => rfl
  | _, _, .int i => rfl
  | _, _, .str y => rfl
  | _, _, .tup _ t => by rw [D.low]; exact RepDs.low t
  | _, _, .fls _ t => by rw [D.low]; exact RepDs.low t
  | _, _, .loc (n := n) h => by rw [D.low]; exact decide_eq_true (List.getElem?_eq_some_iff.mp h).1
theorem RepDs.low : ∀ {vs : List V} {ds : List D}, RepDs S ms H vs ds → D.lows ms.length ds = true
  | _, _, .nil => rfl
  | _, _, .cons h t => by rw [D.lows, RepD.low h, RepDs.low t]; rfl
end
mutual
theorem RepD.less : ∀ {v : V} {d : D}, RepD S (ms ++ new) H v d → d.low ms.length = true → RepD S ms H v d
  | _, _, .non, _ => .non
  | _, _, .bl b, _ => .bl b
  | _, _, .int i, _ => .int i
  | _, _, .str y, _ => .str y
  | _, _, .tup h t, e => .tup h (RepDs.less t (by rw [D.low] at e; exact e))
  | _, _, .fls h t, e => .fls h (RepDs.less t (by rw [D.low] at e; exact e))
  | _, _, .loc (n := n) h, e => .loc (by
    rw [D.low] at e
    rw [List.getElem?_append_left (of_decide_eq_true e)] at h
    exact h)
theorem RepDs.less : ∀ {vs : List V} {ds : List D}, RepDs S (ms ++ new) H vs ds → D.lows ms.length ds = true → RepDs S ms H vs ds
  | _, _, .nil, _ => .nil
  | _, _, .cons h t, e => by
    rw [D.lows, Bool.and_eq_true] at e
    exact .cons (RepD.less h e.1) (RepDs.less t e.2)
end
theorem RepFs.less : ∀ {fs : List (Str × V)} {ds : List (Str × D)}, RepFs S (ms ++ new) H fs ds → (∀ p ∈ ds, p.2.low ms.length = true) → RepFs S ms H fs ds
  | _, _, .nil, _ => .nil
  | _, _, .cons h t, e => .cons (h.less (e _ List.mem_cons_self)) (RepFs.less t fun p hp => e p (List.mem_cons_of_mem _ hp))
theorem RepFs.lows : ∀ {fs : List (Str × V)} {ds : List (Str × D)}, RepFs S ms H fs ds → ∀ p ∈ ds, p.2.low ms.length = true
  | _, _, .nil, p, hp => by cases hp
  | _, _, .cons h t, p, hp => by
    rcases List.mem_cons.mp hp with rfl | hp
    · exact h.low
    · exact RepFs.lows t p hp
theorem RepO.less {a b : Addr} {o : O} (r : RepO S (ms ++ new) H1 a o) (r0 : RepO S ms H b o) : RepO S ms H1 a o := by
  cases r with
  | lst h t => cases r0 with | lst h0 t0 => exact .lst h (t.less t0.low)
  | inst c h t => cases r0 with | inst c0 h0 t0 => exact .inst c h (t.less t0.lows)
theorem RepS.less {ms1 : List Addr} (x : Ext ms H ms1 H1) (r0 : RepS S ms H st) (r : RepS S ms1 H1 s1) (e : s1.take st.length = st) : RepS S ms H1 st := by
  obtain ⟨new, rfl, hn⟩ := x.more
  refine ⟨r0.nd, r0.len, fun n a o e1 e2 => ?_⟩
  have hl : n < ms.length := (List.getElem?_eq_some_iff.mp e1).1
  have e3 : (ms ++ new)[n]? = some a := by rw [List.getElem?_append_left hl]; exact e1
  have e4 : s1[n]? = some o := by
    rw [← e] at e2
    rw [List.getElem?_take] at e2
    split at e2
    · exact e2
    · cases e2
  exact (r.ob n a o e3 e4).less (r0.ob n a o e1 e2)
theorem Ext.less {ms1 : List Addr} (x : Ext ms H ms1 H1) : Ext ms H ms H1 := ⟨⟨[], by simp, by simp⟩, x.keep⟩
/-- a list that came from a call and that nobody else holds -/
theorem escaped_rep {n : Nat} {d : D} {xs : List D} {v : V} {new : List Addr} (hn : ms.length = n) (x : Ext ms H (ms ++ new) H1) (r : RepS S (ms ++ new) H1 s1) (p : RepD S (ms ++ new) H1 v d) (e : escaped n s1 d = some xs) : RepSV S H ms H1 v (.fr xs) := by
  unfold escaped at e
  split at e
  · rename_i k
    split at e
    · rename_i ys hk
      split at e
      · rename_i hc
        cases e
        cases p with
        | loc hm =>
          rename_i a
          have ro := r.ob _ _ _ hm hk
          have hnm : a ∉ ms := fun hmem => by
            obtain ⟨i, hi, e1⟩ := List.getElem_of_mem hmem
            have e2 : (ms ++ new)[i]? = some a := by rw [List.getElem?_append_left hi, List.getElem?_eq_getElem hi, e1]
            have := (List.getElem?_inj (List.getElem?_eq_some_iff.mp e2).1 r.nd).mp (e2.trans hm.symm)
            omega
          have hnew : a ∈ new := by
            rcases List.mem_append.mp (List.mem_of_getElem? hm) with h | h
            · exact absurd h hnm
            · exact h
          obtain ⟨new', e1, hf⟩ := x.more
          have e1 := List.append_cancel_left e1
          subst e1
          cases ro with
          | lst h t => exact ⟨a, _, rfl, hf a hnew, h, hnm, t.less (by rw [hn]; exact hc.2)⟩
      · cases e
    · cases e
  · cases e
/-- the wish of a call's end is enough for the body's end -/
theorem EndG.trunc {W : WX} {σ : L2.St} {Q : V → Hp → Prop} {r : R D} (r0 : RepS S ms H st) (h : EndG S W σ ms H (pSV S) Q (trunc st r)) : EndG S W σ ms H (pD S) Q r := by
  unfold _root_.Q.trunc at h
  cases r with
  | bad => exact h
  | ok d s1 =>
    simp only at h
    split at h
    · rename_i hc
      split at h
      · rename_i hl
        intro v ms' H' x rs p
        refine h v ms H' x.less (r0.less x rs hc) ?_
        obtain ⟨new, rfl, _⟩ := x.more
        exact RepD.less p (by rw [r0.len]; exact hl)
      · split at h
        · rename_i xs hx
          intro v ms' H' x rs p
          refine h v ms H' x.less (r0.less x rs hc) ?_
          obtain ⟨new, rfl, _⟩ := x.more
          exact escaped_rep r0.len x rs p hx
        · exact fun v ms' H' x rs p => h v ms' H' x rs p
    · exact fun v ms' H' x rs p => h v ms' H' x rs p
  | exc e s1 =>
    simp only at h
    split at h
    · rename_i hc
      intro ms' H' c d x rs p
      refine h ms H' c d x.less (r0.less x rs hc.1) ?_
      obtain ⟨new, rfl, hnew⟩ := x.more
      obtain ⟨p1, p2⟩ := p
      refine ⟨p1, ?_⟩
      rcases p2 with p2 | ⟨a, fs, h1, h2, h3, h4⟩
      · exact .inl p2
      · refine .inr ⟨a, fs, h1, fun hm => h2 (List.mem_append_left _ hm), h3, h4.less fun q hq => ?_⟩
        rw [r0.len]
        exact List.all_eq_true.mp hc.2 q hq
    · exact h
end

/-- what a def promises -/
def spF (S : Wd) (C : Calls) (f : Str) : Sp := fun vs H Q E => ∃ ms st ds, RepS S ms H st ∧ RepDs S ms H vs ds ∧ EndG S (fun c d _ H => E c d H) [] ms H (pSV S) Q (C.call f ds st)
/-- a def that may be called -/
structure FnI (S : Wd) (C : Calls) (j : Nat) (f : Str) (a : Addr) (fd : FuncData) (ps : List Str) : Prop where
  ok : FnOk S.prog S.w S.K S.mg S.base (L2.CX S.prog S.w) j a fd ps (spF S C f)
  binds : Binds S.K fd ps []
/-- what the compiler was told is so -/
structure GOk (S : Wd) (cc : CC) (C : Calls) (j : Nat) : Prop where
  fn : ∀ x, cc.fn x = true → ∃ a fd ps, S.mg x = some (.ref a) ∧ PySem.W.keepIn S.K (.ref a) = true ∧ FnI S C j x a fd ps
  cls : ∀ x init, cc.cls x = some init → ∃ A a fd ps, S.cls x = some A ∧ S.mg x = some (.ref A) ∧ Mk S.K A a ∧ FnI S C j init a fd ps
  meth : ∀ c m f, C.meth c m = some f → ∃ A a fd ps, S.cls c = some A ∧ Cls S.K A ∧ Meth S.K A m a ∧ FnI S C j f a fd ps
  glb : ∀ x d, cc.glb x = some d → ∃ u v, S.mg x = some u ∧ RelV v u ∧ ∀ ms H, RepD S ms H v d
  blt : ∀ x ∈ (["range", "enumerate", "zip", "reversed", "len", "set", "sorted", "abs", "int", "all", "sum", "tuple", "list", "isinstance", "max", "min", "bool", "str"] : List Str), S.mg x = none
  fld : ∀ f, cc.fld f = true → ∀ c A, S.cls c = some A → Cls S.K A ∧ NoAttr S.K A f

section
variable {S : Wd} {cc : CC} {k j : Nat} {C : Calls} {sc : Scope} {a b e : Expr} {fa fb : Ev} {p : Pos}
theorem star_all {env : Env} : ∀ {es : List Expr}, es.all noStar = true → ∀ {pos : Pos}, (backTo pos (starEach es env)).any (·.1) = false
  | [], _, _ => rfl
  | e :: es, h, pos => by
    simp only [List.all_cons, Bool.and_eq_true] at h
    have ih := star_all (env := env) h.2 (pos := pos)
    have e1 : starEach (e :: es) env = (false, eval e env) :: starEach es env := by
      cases e <;> first | rfl | exact absurd h.1 (by simp [noStar])
    rw [e1]
    simp only [backTo, List.map_cons, List.any_cons, Bool.false_or] at ih ⊢
    exact ih
theorem star_cons {env : Env} {es : List Expr} (h : noStar e = true) : starEach (e :: es) env = (false, eval e env) :: starEach es env := by
  cases e <;> first | rfl | cases h
/-- behind a call: what it gave is what the expression gives -/
theorem end_call {W : WX} {σ : L2.St} {ms : List Addr} {H : Hp} {Q : VK} {r : R SV} (h : EndG S W σ ms H (pSV S) Q r) : EndG S (fun c d _ H => (WE W σ) c d H) [] ms H (pSV S) Q r := by
  cases r with
  | ok d s1 => exact fun v ms' H' x rs p => h v ms' H' x rs p
  | exc e s1 => exact fun ms' H' c d x rs p => h ms' H' c d x rs p
  | bad => exact h
theorem fe_call {x : Str} {q : Pos} {es : List Expr} {fs : List Ev} {ad : Addr} {fd : FuncData} {ps : List Str} (hg : glB sc x = true) (hp : plainName x = true) (hm : S.mg x = some (.ref ad)) (hk : PySem.W.keepIn S.K (.ref ad) = true) (F : FnI S C j x ad fd ps) (hj : j ≤ k)
    (hn : es.all noStar = true) (hl : fs.length = es.length) (ha : FA S cc k C sc es fs) : FE S cc k C sc (.Call (.Name x q) es [] p) (eCall x fs) := by
  intro W X c
  have F' : FnOk X.prog X.w X.K X.mg X.base (L2.CX X.prog X.w) j ad fd ps (spF S C x) := by
    rw [c.prog, c.w, c.K, c.mg, c.base]; exact F.ok
  have hb : Binds X.K fd ps [] := by rw [c.K]; exact F.binds
  refine ⟨fun pins s σ H Q I h => ?_⟩
  obtain ⟨env, st, ms, rs, re, h⟩ := h
  unfold eCall at h
  refine wpAny_Call_Name_kw (ld_glob I (gl_of c hg) (by rw [c.mg]; exact hm) ?_ (plain_of hp).1)
  cases es with
  | nil =>
    obtain rfl : fs = [] := List.eq_nil_of_length_eq_zero hl
    exact PySem.W.callWith_K0 I.kIn (by rw [c.K]; exact hk) (run_fnS (us := []) (vs := []) (E := WE W) F' (c.room.mono hj) hb (passAt c.takes σ) I .nil ⟨ms, st, [], rs, .nil, end_call h⟩)
  | cons e es =>
    have ha' : tG S W C (pDs S) (evs fs) σ H fun vs H1 => spF S C x vs H1 Q (WE W σ) := ⟨env, st, ms, rs, re, EndG.bind pSV_back rs h fun ds s1 vs ms1 H1 x1 r1 p1 h1 => ⟨ms1, s1, ds, r1, p1, end_call h1⟩⟩
    simp only [List.all_cons, Bool.and_eq_true] at hn
    refine PySem.W.callWith_K (h₀ := X.base) I.ok.mod.kin (by rw [c.K]; exact hk) (thn ((ha W X c).run p pins s σ H _ I ha') fun us s1 ⟨vs, H1, I1, r, q⟩ => ⟨I1.kIn, ?_⟩) (star_cons hn.1) (star_all hn.2)
    exact run_fnS (E := WE W) F' (c.room.mono hj) hb (passAt c.takes σ) I1 r q

/-! o.m(..) -/
theorem call_meth_at {M : Model} {A : Around} {E : Value → Shared → Prop} {s : Shared} {env : Env} {o : Expr} {name : Str} {apos pos : Pos} {args : List Expr} {Q : Value → Shared → Prop}
    (hbase : attributeBase o name env (eval o env) = eval o env)
    (hfew : ((backTo pos (starEach args env)).all (fun x => !x.1) && (backToKw pos (keywordEach [] env)).all (fun x => x.1.isSome)
      && decide (args.length + ([] : List Keyword).length + (if ([] : List Keyword).isEmpty then 0 else 1) < 30)) = true)
    (hline : (apos.endLine == pos.line) = true)
    (h : wpAny M A (eval o env) (fun ov s₁ => ∀ pl, wpAny M A (getMethod ov name pl) (fun fx s₂ => wpAny M A (callWith pos fx.1 fx.2 (backTo pos (starEach args env)) (backToKw pos (keywordEach [] env))) Q E s₂) E s₁) E s) :
    wpAny M A (eval (.Call (.Attribute o name apos) args [] pos) env) Q E s := by
  rw [arm_eval_Call, hbase]
  refine wpAny_bind (wpAny_mono h (fun ov s₁ h₁ => ?_) fun _ _ e => e)
  refine wpAny_bind (wpAny_standAt ?_)
  have hform : methodCallForm (args.length + ([] : List Keyword).length) (backTo pos (starEach args env)) (backToKw pos (keywordEach [] env)) = true := hfew
  have hpos : methodCallPos true o env apos pos = pure pos := by unfold methodCallPos; simp [hline]
  unfold methodCall
  rw [hform]
  refine wpAny_bind (wpAny_holding (wpAny_mono (h₁ _) (fun fx s₂ h₂ => ?_) fun _ _ e => e))
  exact wpAny_bind (wpAny_of_eq hpos h₂)
theorem few_all {env : Env} {pos : Pos} {es : List Expr} (h : es.all noStar = true) (hl : es.length < 30) : ((backTo pos (starEach es env)).all (fun x => !x.1) && (backToKw pos (keywordEach [] env)).all (fun x => x.1.isSome)
      && decide (es.length + ([] : List Keyword).length + (if ([] : List Keyword).isEmpty then 0 else 1) < 30)) = true := by
  have h1 : (backTo pos (starEach es env)).all (fun x => !x.1) = true := by
    have q := star_all (env := env) h (pos := pos)
    rw [List.all_eq_true]
    rw [List.any_eq_false] at q
    intro x hx
    have := q x hx
    simpa using this
  rw [h1]
  have h2 : (backToKw pos (keywordEach [] env)).all (fun x => x.1.isSome) = true := rfl
  rw [h2]
  simp [hl]
theorem fe_meth {m : Str} {q : Pos} {es : List Expr} {fs : List Ev} (hb : baseB a = true) (hline : (q.endLine == p.line) = true)
    (G : ∀ c m f, C.meth c m = some f → ∃ A a fd ps, S.cls c = some A ∧ Cls S.K A ∧ Meth S.K A m a ∧ FnI S C j f a fd ps) (hj : j ≤ k)
    (hn : es.all noStar = true) (hl : fs.length = es.length) (hle : es.length < 30) (ho : FE S cc k C sc a fa) (ha : FA S cc k C sc es fs) : FE S cc k C sc (.Call (.Attribute a m q) es [] p) (eMeth fa m fs) := by
  intro W X c
  refine ⟨fun pins s σ H Q I h => ?_⟩
  obtain ⟨env, st, ms, rs, re, h⟩ := h
  unfold eMeth at h
  have hobj : tG S W C (pSV S) fa σ H fun v H1 => ∃ (n : Nat) (s1 : Store) (ms1 : List Addr) (cn : Str) (fs' : List (Str × D)) (f : Str), RepS S ms1 H1 s1 ∧ RepE S ms1 H1 σ env ∧ RepD S ms1 H1 v (.loc n) ∧ s1[n]? = some (.inst cn fs') ∧ fs'.lookup m = none ∧ C.meth cn m = some f ∧
      EndG S W σ ms1 H1 (pSV S) Q ((evs fs C env s1).bind fun ds s2 => C.call f (.loc n :: ds) s2) := by
    refine ⟨env, st, ms, rs, re, EndG.bind pSV_back rs h fun x s1 v ms1 H1 x1 r1 p1 h1 => ?_⟩
    split at h1
    · rename_i n
      split at h1
      · rename_i cn fs' hs
        split at h1
        · rename_i hlk
          split at h1
          · rename_i f hf
            exact ⟨n, s1, ms1, cn, fs', f, r1, re.ext x1 rs, p1, hs, hlk, hf, h1⟩
          · exact h1.elim
        · exact h1.elim
      · exact h1.elim
    · exact h1.elim
  refine call_meth_at (base_of hb) (few_all hn hle) hline (thn ((ho W X c).run pins s σ H _ I hobj) fun u s1 ⟨x, H1, I1, rx, n, st1, ms1, cn, fs', f, r1, re1, p1, hs, hlk, hf, h1⟩ => ?_)
  obtain ⟨A, ad, fd, ps, hcA, hcl, hme, F⟩ := G cn m f hf
  have F' : FnOk X.prog X.w X.K X.mg X.base (L2.CX X.prog X.w) j ad fd ps (spF S C f) := by
    rw [c.prog, c.w, c.K, c.mg, c.base]; exact F.ok
  have hbd : Binds X.K fd ps [] := by rw [c.K]; exact F.binds
  rw [← c.K] at hcl hme
  cases p1 with
  | loc hm =>
    rename_i la
    obtain rfl : u = Value.ref la := rx
    cases r1.look hm hs with
    | inst ec eH t =>
      rename_i C' dx vfs
      obtain rfl : C' = A := Option.some.inj (ec.symm.trans hcA)
      have hlk' : vfs.lookup m = none := by
        have key : ∀ {vfs : List (Str × V)} {fs' : List (Str × D)}, RepFs S ms1 H1 vfs fs' → fs'.lookup m = none → vfs.lookup m = none := by
          intro vfs fs' t
          induction t with
          | nil => intro _; rfl
          | cons r t ih =>
            intro h
            simp only [List.lookup_cons] at h ⊢
            split
            · rename_i e; rw [e] at h; cases h
            · rename_i e; rw [e] at h; exact ih h
        exact key t hlk
      intro pl
      refine getmeth_ok I1 eH hcl hme hlk' ?_
      cases es with
      | nil =>
        obtain rfl : fs = [] := List.eq_nil_of_length_eq_zero hl
        exact PySem.W.callWith_K0 (first := [.ref la]) I1.kIn hme.kp (run_fnS (us := [.ref la]) (vs := [.ref la]) (E := WE W) F' (c.room.mono hj) hbd (passAt c.takes σ) I1 (.cons rfl .nil) ⟨ms1, st1, [.loc n], r1, .cons (.loc hm) .nil, end_call h1⟩)
      | cons e es =>
        have ha' : tG S W C (pDs S) (evs fs) σ H1 fun vs H2 => spF S C f (V.ref la :: vs) H2 Q (WE W σ) := ⟨env, st1, ms1, r1, re1, EndG.bind pSV_back r1 h1 fun ds s2 vs ms2 H2 x2 r2 p2 h2 => ⟨ms2, s2, .loc n :: ds, r2, .cons (RepD.ext x2 r1 (.loc hm)) p2, end_call h2⟩⟩
        simp only [List.all_cons, Bool.and_eq_true] at hn
        refine PySem.W.callWith_K (first := [.ref la]) (h₀ := X.base) I1.ok.mod.kin hme.kp (thn ((ha W X c).run p pins s1 σ H1 _ I1 ha') fun us s2 ⟨vs, H2, I2, r, q2⟩ => ⟨I2.kIn, ?_⟩) (star_cons hn.1) (star_all hn.2)
        exact run_fnS (us := .ref la :: us) (vs := .ref la :: vs) (E := WE W) F' (c.room.mono hj) hbd (passAt c.takes σ) I2 (.cons rfl r) q2

/-! C(..) -/
theorem run_makeS {X : Cx} {A f : Addr} {fd : FuncData} {ps : List Str} {sp : Sp} {E : L2.St → XK} {pins : List (Addr × Obj)} {σ : L2.St} {H : Hp} {s : Shared} {Q : VK} {us : List Value} {vs : List V} (M : Mk X.K A f) (F : FnOk X.prog X.w X.K X.mg X.base (L2.CX X.prog X.w) j f fd ps sp) (hr : Room (j + 1) X.A) (hb : Binds X.K fd ps [])
    (hx : PassesAt (L2.CX X.prog X.w) X σ (E σ)) (I : Inv X pins σ H s) (r : Vals vs us)
    (h : ∀ x dx, H x = none → H dx = none → dx ≠ x → sp (.ref x :: vs) (upd (upd H dx (.own x)) x (.ins A dx [])) (fun v H2 => v = .non ∧ Q (.ref x) H2) (E σ)) :
    wpAny (model X.prog X.w) X.A (call (.ref A) us) (EP X pins σ Q) X.xe s := by
  have hq := h (s.heap.objs.size + 1) s.heap.objs.size (I.hok.fresh (Nat.le_succ _)) (I.hok.fresh (Nat.le_refl _)) (Nat.ne_of_lt (Nat.lt_succ_self _))
  have I2 := Inv.made (C := A) I
  have r2 : Vals (V.ref (s.heap.objs.size + 1) :: vs) (Value.ref (s.heap.objs.size + 1) :: us) := .cons rfl r
  have hl : (Value.ref (s.heap.objs.size + 1) :: us ++ []).length = ps.length := by
    rw [List.append_nil, ← r2.length]
    exact F.len _ _ _ _ hq
  have b := hb _ (Value.ref (s.heap.objs.size + 1) :: us) I2.kIn hl
  rw [List.append_nil] at b
  refine wpAny_call (make_map (f := f) I.kIn M.makes M.init (beq_iff_eq.mp M.fn) (codeAny_mono (F.run _ X.stack _ _ ⟨Value.ref (s.heap.objs.size + 1) :: us, []⟩ (Value.ref (s.heap.objs.size + 1) :: us) _ _ (E σ) (hr.make A us [])
    (I2.env0.make A us []) b r2 hq) fun r s' hq' => ?_))
  cases r with
  | error e => exact hx pins _ _ e s' I2 hq'
  | ok fl =>
    cases fl with
    | ret u =>
      obtain ⟨v, H', I3, rv, ev, q3⟩ := I2.after hq'
      subst ev
      exact ⟨rv, ⟨V.ref (s.heap.objs.size + 1), H', I3, rfl, q3⟩⟩
    | next => exact False.elim hq'
    | brk => exact False.elim hq'
    | cont => exact False.elim hq'
theorem fe_new {x init : Str} {q : Pos} {es : List Expr} {fs : List Ev} {A ad : Addr} {fd : FuncData} {ps : List Str} (hg : glB sc x = true) (hp : plainName x = true) (hc : S.cls x = some A) (hm : S.mg x = some (.ref A)) (M : Mk S.K A ad) (F : FnI S C j init ad fd ps) (hj : j + 1 ≤ k)
    (hn : es.all noStar = true) (hl : fs.length = es.length) (ha : FA S cc k C sc es fs) : FE S cc k C sc (.Call (.Name x q) es [] p) (eNew x init fs) := by
  intro W X c
  have F' : FnOk X.prog X.w X.K X.mg X.base (L2.CX X.prog X.w) j ad fd ps (spF S C init) := by
    rw [c.prog, c.w, c.K, c.mg, c.base]; exact F.ok
  have hb : Binds X.K fd ps [] := by rw [c.K]; exact F.binds
  have M' : Mk X.K A ad := by rw [c.K]; exact M
  refine ⟨fun pins s σ H Q I h => ?_⟩
  obtain ⟨env, st, ms, rs, re, h⟩ := h
  unfold eNew at h
  -- what is wanted of __init__
  have want : ∀ {ds : List D} {s1 : Store} {ms1 : List Addr} {H1 : Hp} {vs : List V}, RepS S ms1 H1 s1 → RepDs S ms1 H1 vs ds →
      EndG S W σ ms1 H1 (pSV S) Q ((C.call init (.loc s1.length :: ds) (s1 ++ [.inst x []])).bind fun d s2 => match d with
        | .vl .non => .ok (.vl (.loc s1.length)) s2
        | _ => .bad) →
      ∀ y dx, H1 y = none → H1 dx = none → dx ≠ y → spF S C init (.ref y :: vs) (upd (upd H1 dx (.own y)) y (.ins A dx [])) (fun v H2 => v = .non ∧ Q (.ref y) H2) (WE W σ) := by
    intro ds s1 ms1 H1 vs r1 p1 h1 y dx hy hdx hne
    have sm1 : Same H1 (upd H1 dx (.own y)) := same_upd hdx
    have hy2 : upd H1 dx (.own y) y = none := by rw [upd_ne (Ne.symm hne)]; exact hy
    have sm2 : Same H1 (upd (upd H1 dx (.own y)) y (.ins A dx [])) := fun b o e => same_upd hy2 b o (sm1 b o e)
    have r2 := r1.same sm2
    have r3 : RepS S (ms1 ++ [y]) (upd (upd H1 dx (.own y)) y (.ins A dx [])) (s1 ++ [.inst x []]) := r2.push (r1.free hy) (.inst hc upd_same .nil)
    have x3 : Ext ms1 H1 (ms1 ++ [y]) (upd (upd H1 dx (.own y)) y (.ins A dx [])) := ⟨⟨[y], rfl, fun b hb => by simp at hb; subst hb; exact hy⟩, fun b o e _ => sm2 b o e⟩
    have hloc : RepD S (ms1 ++ [y]) (upd (upd H1 dx (.own y)) y (.ins A dx [])) (.ref y) (.loc s1.length) := .loc r1.at_len
    refine ⟨ms1 ++ [y], s1 ++ [.inst x []], .loc s1.length :: ds, r3, .cons hloc (p1.ext x3 r1), ?_⟩
    have h1' := EndG.from pSV_back x3 r1 r3 h1
    cases hr : C.call init (.loc s1.length :: ds) (s1 ++ [.inst x []]) with
    | bad => rw [hr] at h1'; exact h1'
    | exc e s2 => rw [hr] at h1'; exact fun ms' H' cv d xx rr pp => h1' ms' H' cv d xx rr pp
    | ok d s2 =>
      rw [hr] at h1'
      intro v ms' H' xx rr pp
      simp only [R.bind_ok] at h1'
      cases d with
      | fr ys => exact h1'.elim
      | vl d =>
        have pp : RepD S ms' H' v d := pp
        cases pp with
        | non => exact ⟨rfl, h1' (.ref y) ms' H' xx rr (RepD.ext xx r3 hloc)⟩
        | _ => exact h1'.elim
  refine wpAny_Call_Name_kw (ld_glob I (gl_of c hg) (by rw [c.mg]; exact hm) ?_ (plain_of hp).1)
  cases es with
  | nil =>
    obtain rfl : fs = [] := List.eq_nil_of_length_eq_zero hl
    exact PySem.W.callWith_K0 I.kIn M'.kp (run_makeS (us := []) (vs := []) (E := WE W) M' F' (c.room.mono hj) hb (passAt c.takes σ) I .nil (want rs .nil h))
  | cons e es =>
    have ha' : tG S W C (pDs S) (evs fs) σ H fun vs H1 => ∀ y dx, H1 y = none → H1 dx = none → dx ≠ y → spF S C init (.ref y :: vs) (upd (upd H1 dx (.own y)) y (.ins A dx [])) (fun v H2 => v = .non ∧ Q (.ref y) H2) (WE W σ) :=
      ⟨env, st, ms, rs, re, EndG.bind pSV_back rs h fun ds s1 vs ms1 H1 x1 r1 p1 h1 => want r1 p1 h1⟩
    simp only [List.all_cons, Bool.and_eq_true] at hn
    refine PySem.W.callWith_K (h₀ := X.base) I.ok.mod.kin M'.kp (thn ((ha W X c).run p pins s σ H _ I ha') fun us s1 ⟨vs, H1, I1, r, q⟩ => ⟨I1.kIn, ?_⟩) (star_cons hn.1) (star_all hn.2)
    exact run_makeS (E := WE W) M' F' (c.room.mono hj) hb (passAt c.takes σ) I1 r q
end
end Q


set_option linter.all false
set_option maxRecDepth 100000
set_option maxHeartbeats 2000000
set_option autoImplicit false
/-! Q10: targets, what is walked. -/
namespace Q
open PySem PySem.Spec PyProof.Rows L2 PySem.W
/-- the names of sc0 may be stored -/
def TN (X : Cx) (sc0 : Scope) : Prop := ∀ x, Loc sc0 x → Loc X.env.scope x ∧ (X.fn x = true ∨ X.env.scope.names.lookup x = some .local)
/-- what a store leaves -/
def Stored (S : Wd) (ms : List Addr) (H : Hp) (σ : L2.St) (sl : List Nat) (env1 : Slots) (Q : L2.St → Hp → Prop) : Prop := ∀ σ1, RepE S ms H σ1 env1 → σ1.length = σ.length → (∀ j, j ∉ sl → σ1[j]? = σ[j]?) → Q σ1 H
def gT (S : Wd) (t : Tgt) : TG := fun v σ H Q => ∃ d env env1 ms st, RepS S ms H st ∧ RepE S ms H σ env ∧ RepD S ms H v d ∧ asg t d env = some env1 ∧ Stored S ms H σ t.slots env1 Q
def gTs (S : Wd) (ts : List Tgt) : TGs := fun vs σ H Q => ∃ ds env env1 ms st, RepS S ms H st ∧ RepE S ms H σ env ∧ RepDs S ms H vs ds ∧ asgs ts ds env = some env1 ∧ Stored S ms H σ (Tgt.slotss ts) env1 Q
/-- a pair just made -/
def gP (S : Wd) (t : Tgt) : TG := fun v σ H Q => ∃ T x y a b ts env env1 ms st, v = .ref T ∧ H T = some (.tup [x, y]) ∧ t = .tp ts ∧ RepS S ms H st ∧ RepE S ms H σ env ∧ RepDs S ms H [x, y] [a, b] ∧ asgs ts [a, b] env = some env1 ∧ Stored S ms H σ (Tgt.slotss ts) env1 Q
section
variable {S : Wd} {X : Cx} {sc0 : Scope}
theorem PG.imp {e : Expr} {t t' : TG} (h : PG X e t) (i : ∀ v σ H Q, t' v σ H Q → t v σ H Q) : PG X e t' := ⟨fun pins s σ H v u Q I r q => h.run pins s σ H v u Q I r (i v σ H Q q)⟩
theorem PGs.imp {e : List Expr} {t t' : TGs} (h : PGs X e t) (i : ∀ v σ H Q, t' v σ H Q → t v σ H Q) : PGs X e t' := ⟨fun pins s σ H v u Q I r q => h.run pins s σ H v u Q I r (i v σ H Q q)⟩
theorem PG.or {e : Expr} {t t' : TG} (h : PG X e t) (h' : PG X e t') : PG X e (fun v σ H Q => t v σ H Q ∨ t' v σ H Q) := ⟨fun pins s σ H v u Q I r q => q.elim (h.run pins s σ H v u Q I r) (h'.run pins s σ H v u Q I r)⟩
/-- a target of the compiler is no starred one -/
def tgB : Expr → Bool
  | .Name .. => true
  | .Tuple .. => true
  | _ => false
theorem tgB_of {n : Nat} {N : List Str} {e : Expr} {t : Tgt} (h : cTgt n N sc0 e = some t) : tgB e = true := by
  cases n with
  | zero => simp [cTgt] at h
  | succ n =>
    unfold cTgt at h
    split at h
    · rfl
    · rfl
    · cases h
theorem each_cons {env : Env} {e : Expr} {es : List Expr} (h : tgB e = true) : assignEach (e :: es) env = (false, assign e env) :: assignEach es env := by
  cases e <;> first | rfl | cases h
theorem each_all {n : Nat} {N : List Str} {env : Env} : ∀ {es : List Expr} {ts : List Tgt}, goT (cTgt n N sc0) es = some ts → (assignEach es env).length = es.length ∧ (assignEach es env).findIdx? (·.1) = none ∧ ts.length = es.length
  | [], ts, h => by simp [goT] at h; subst h; exact ⟨rfl, rfl, rfl⟩
  | e :: es, ts, h => by
    unfold goT at h
    split at h
    · rename_i t ts' h1 h2
      cases h
      obtain ⟨a, b, c⟩ := each_all (env := env) h2
      rw [each_cons (tgB_of h1)]
      refine ⟨by simp [a], ?_, by simp [c]⟩
      rw [List.findIdx?_cons]
      simp [b]
    · cases h
theorem pgs_of {n : Nat} (hT : ∀ e t, cTgt n X.N sc0 e = some t → PG X e (gT S t)) : ∀ {es : List Expr} {ts : List Tgt}, goT (cTgt n X.N sc0) es = some ts → PGs X es (gTs S ts)
  | [], ts, h => by
    simp [goT] at h
    subst h
    refine PGs.imp pgs_nil fun vs σ H Q => ?_
    rintro ⟨ds, env, env1, ms, st, r, re, t, e, q⟩
    cases ds with
    | nil =>
      cases t
      cases e
      exact ⟨rfl, q σ re rfl fun _ _ => rfl⟩
    | cons d ds => cases e
  | e :: es, ts, h => by
    unfold goT at h
    split at h
    · rename_i t ts' h1 h2
      cases h
      refine PGs.imp (pgs_cons (hT e t h1) (pgs_of hT h2) (by rw [each_cons (tgB_of h1)]; rfl)) fun vs σ H Q => ?_
      rintro ⟨ds, env, env1, ms, st, r, re, tt, ea, q⟩
      cases ds with
      | nil => cases ea
      | cons d ds =>
        cases tt with
        | cons rd rds =>
          simp only [asgs] at ea
          split at ea
          · rename_i env2 e2
            refine ⟨_, _, rfl, d, env, env2, ms, st, r, re, rd, e2, fun σ1 re1 hl1 hk1 => ?_⟩
            refine ⟨ds, env2, env1, ms, st, r, re1, rds, ea, fun σ2 re2 hl2 hk2 => ?_⟩
            refine q σ2 re2 (hl2.trans hl1) fun j hj => ?_
            rw [Tgt.slotss, List.mem_append, not_or] at hj
            rw [hk2 j hj.2, hk1 j hj.1]
          · cases ea
    · cases h
theorem pg_of (hK : X.K = S.K) (hN : X.N.Nodup) (hc : X.calm = true) (tn : TN X sc0) : ∀ n e t, cTgt n X.N sc0 e = some t → PG X e (gT S t)
  | 0, _, _, h => by simp [cTgt] at h
  | n + 1, e, t, h => by
    unfold cTgt at h
    split at h
    · rename_i x p
      split at h
      · rename_i hl
        simp only [Option.map_eq_some_iff] at h
        obtain ⟨i, hi, rfl⟩ := h
        obtain ⟨h1, h2⟩ := tn x (loc_of hl)
        refine PG.imp (pg_name hN (slot_get hi) h1 h2) fun v σ H Q => ?_
        rintro ⟨d, env, env1, ms, st, r, re, rd, ea, q⟩
        cases ea
        refine q _ (re.set rd) (by simp) fun j hj => ?_
        rw [Tgt.slots, List.mem_singleton] at hj
        exact List.getElem?_set_ne (Ne.symm hj)
      · cases h
    · rename_i es k p
      simp only [Option.map_eq_some_iff] at h
      obtain ⟨ts, hts, rfl⟩ := h
      obtain ⟨e1, e2, e3⟩ := each_all (env := X.env) hts
      refine PG.imp (pg_tup hc (pgs_of (pg_of hK hN hc tn n) hts) e1 e2) fun v σ H Q => ?_
      rintro ⟨d, env, env1, ms, st, r, re, rd, ea, q⟩
      cases rd with
      | tup hq t =>
        rename_i ad vs ds
        simp only [asg] at ea
        have hl : ds.length = ts.length := by
          have key : ∀ (ts : List Tgt) (ds : List D) (env env1 : Slots), asgs ts ds env = some env1 → ds.length = ts.length := by
            intro ts
            induction ts with
            | nil => intro ds env env1 h; cases ds <;> first | rfl | cases h
            | cons t ts ih =>
              intro ds env env1 h
              cases ds with
              | nil => cases h
              | cons d ds =>
                simp only [asgs] at h
                split at h
                · simp [ih _ _ _ h]
                · cases h
          exact key _ _ _ _ ea
        exact ⟨ad, vs, rfl, by rw [hK]; exact hq.sq, by rw [t.length, hl, e3], ds, env, env1, ms, st, r, re, t, ea, q⟩
      | _ => cases ea
    · cases h
theorem pg_pair (hK : X.K = S.K) (hN : X.N.Nodup) (hc : X.calm = true) (tn : TN X sc0) : ∀ n e t, cTgt n X.N sc0 e = some t → PG X e (gP S t)
  | 0, _, _, h => by simp [cTgt] at h
  | n + 1, e, t, h => by
    unfold cTgt at h
    split at h
    · split at h
      · simp only [Option.map_eq_some_iff] at h
        obtain ⟨i, hi, rfl⟩ := h
        exact ⟨fun pins s σ H v u Q I r q => by obtain ⟨_, _, _, _, _, ts, _, _, _, _, _, _, e, _⟩ := q; cases e⟩
      · cases h
    · rename_i es k p
      simp only [Option.map_eq_some_iff] at h
      obtain ⟨ts, hts, rfl⟩ := h
      obtain ⟨e1, e2, e3⟩ := each_all (env := X.env) hts
      refine PG.imp (pg_tup hc (pgs_of (pg_of hK hN hc tn n) hts) e1 e2) fun v σ H Q => ?_
      rintro ⟨T, x, y, a, b, ts', env, env1, ms, st, rfl, hT, et, r, re, rd, ea, q⟩
      cases et
      have hl : ts.length = 2 := by
        match ts, ea with
        | [], ea => cases ea
        | [t], ea =>
          simp only [asgs] at ea
          split at ea <;> cases ea
        | [t, u], ea => rfl
        | t :: u :: w :: r, ea =>
          simp only [asgs] at ea
          split at ea
          · split at ea <;> cases ea
          · cases ea
      exact ⟨T, [x, y], rfl, .inl (.of hT), by rw [← e3, hl]; rfl, [a, b], env, env1, ms, st, r, re, rd, ea, q⟩
    · cases h
end
end Q


set_option linter.all false
set_option maxRecDepth 100000
set_option maxHeartbeats 2000000
set_option autoImplicit false
/-! Q11: what is walked. -/
namespace Q
open PySem PySem.Spec PyProof.Rows L2 PySem.W
/-- the item x, the heap H' behind it -/
def RepI (S : Wd) (ms : List Addr) (H : Hp) (x : V) (H' : Hp) : It → Prop
  | .one d => H' = H ∧ RepD S ms H x d
  | .two a b => ∃ T x1 x2, x = .ref T ∧ H T = none ∧ H' = upd H T (.tup [x1, x2]) ∧ RepD S ms H x1 a ∧ RepD S ms H x2 b
/-- J walks p -/
def Src (S : Wd) (ms1 : List Addr) (H1 : Hp) (J : L2.It) (p : List It × Guards) : Prop :=
  ∃ G Y, Walk J p.1.length G Y ∧ (∀ ms H st, Ext ms1 H1 ms H → RepS S ms H st → guardOk st p.2 = true → G H) ∧
    ∀ i H x H' ms st it, Ext ms1 H1 ms H → RepS S ms H st → guardOk st p.2 = true → Y i H x H' → p.1[i]? = some it → RepI S ms H x H' it
def pJ (S : Wd) : Rp (List It × Guards) L2.It := fun _ ms H J p => Src S ms H J p
theorem pJ_back {S : Wd} : Back (pJ S) := fun _ _ _ _ _ _ _ h => h
def FI (S : Wd) (cc : CC) (k : Nat) (C : Calls) (sc : Scope) (tg e : Expr) (f : Esrc) : Prop := ∀ W X, Ctx S cc.N k W sc X → PI X tg e (tG S W C (pJ S) f)
section
variable {S : Wd} {ms1 : List Addr} {H1 : Hp} {s1 : Store}
theorem PI.or {X : Cx} {tg e : Expr} {t t' : TI} (h : PI X tg e t) (h' : PI X tg e t') : PI X tg e (fun σ H R => t σ H R ∨ t' σ H R) := ⟨fun pins s σ H R I q => q.elim (h.run pins s σ H R I) (h'.run pins s σ H R I)⟩
/-- a list walked -/
theorem src_list {K : PySem.W.Frag} {a : Addr} {ds : List D} {gs : Guards} (h : ∀ ms H st, Ext ms1 H1 ms H → RepS S ms H st → guardOk st gs = true → ∃ vs, SqL K H a vs ∧ RepDs S ms H vs ds) : Src S ms1 H1 (Itl K a) (ds.map .one, gs) := by
  refine ⟨fun H => ∃ vs, SqL K H a vs ∧ vs.length = ds.length, fun i H x H' => H' = H ∧ ∀ vs, SqL K H a vs → vs[i]? = some x, ⟨?_, ?_, ?_⟩, ?_, ?_⟩
  · rintro i H hi ⟨vs, h1, h2⟩
    rw [List.length_map] at hi
    exact ⟨vs, vs[i]'(by omega), h1, by simp [show i < vs.length by omega]⟩
  · rintro H ⟨vs, h1, h2⟩
    exact ⟨vs, h1, by rw [List.length_map]; omega⟩
  · intro i H x H' hi g y
    exact y
  · intro ms H st x r g
    obtain ⟨vs, h1, h2⟩ := h ms H st x r g
    exact ⟨vs, h1, h2.length⟩
  · intro i H x H' ms st it e r g y hi
    obtain ⟨vs, h1, h2⟩ := h ms H st e r g
    rw [List.getElem?_map, Option.map_eq_some_iff] at hi
    obtain ⟨d, hd, rfl⟩ := hi
    obtain ⟨w, hw, rw'⟩ := h2.get hd
    have := y.2 vs h1
    rw [hw] at this
    cases this
    exact ⟨y.1, rw'⟩
theorem src_tup {K : PySem.W.Frag} {a : Addr} {vs : List V} {ds : List D} {gs : Guards} (h : ∀ ms H st, Ext ms1 H1 ms H → RepS S ms H st → SqT K H a vs ∧ RepDs S ms H vs ds) (hl : vs.length = ds.length) : Src S ms1 H1 (Itt K a) (ds.map .one, gs) := by
  refine ⟨fun H => SqT K H a vs, YAt vs, ?_, ?_, ?_⟩
  · have q := walk_tup (K := K) (a := a) (xs := vs)
    rw [hl] at q
    rw [List.length_map]
    exact q
  · intro ms H st x r g
    exact (h ms H st x r).1
  · intro i H x H' ms st it e r g y hi
    obtain ⟨h1, h2⟩ := h ms H st e r
    rw [List.getElem?_map, Option.map_eq_some_iff] at hi
    obtain ⟨d, hd, rfl⟩ := hi
    obtain ⟨w, hw, rw'⟩ := h2.get hd
    have e2 := y.2
    rw [hw] at e2
    cases e2
    exact ⟨y.1, rw'⟩
/-- what stands while the guards stand: a list -/
theorem walked_list {sv : SV} {v : V} {H0 : Hp} {p : List D × Guards} (r1 : RepS S ms1 H1 s1) (h : RepSV S H0 ms1 H1 v sv) (e : walked s1 sv = some p) (ht : isTupV sv = false) :
    ∃ a, v = .ref a ∧ (∃ vs, SqL S.K H1 a vs ∧ RepDs S ms1 H1 vs p.1) ∧ ∀ ms H st, Ext ms1 H1 ms H → RepS S ms H st → guardOk st p.2 = true → ∃ vs, SqL S.K H a vs ∧ RepDs S ms H vs p.1 := by
  unfold walked at e
  split at e
  · cases e
    obtain ⟨q, vs, rfl, e2, e3, e4, e5⟩ := h
    exact ⟨q, rfl, ⟨vs, .of e3, e5⟩, fun ms H st x r g => ⟨vs, .of (x.keep _ _ e3 e4), e5.ext x r1⟩⟩
  · cases ht
  · cases e
    have h : RepD S ms1 H1 v (.fls _) := h
    cases h with
    | fls hq t => exact ⟨_, rfl, ⟨_, hq.sq, t⟩, fun ms H st x r g => ⟨_, (x.sqZ r1 hq).sq, t.ext x r1⟩⟩
  · rename_i n
    have h : RepD S ms1 H1 v (.loc n) := h
    cases h with
    | loc hm =>
      rename_i a
      have hm' : ∀ {ms H}, Ext ms1 H1 ms H → ms[n]? = some a := fun x => by
        obtain ⟨new, e, _⟩ := x.more
        rw [e, List.getElem?_append_left (List.getElem?_eq_some_iff.mp hm).1]
        exact hm
      split at e
      · rename_i xs hn
        cases e
        refine ⟨a, rfl, ?_, fun ms H st x r g => ?_⟩
        · cases r1.look hm hn with
          | lst e1 t => exact ⟨_, .of e1, t⟩
        · have hg : st[n]? = some (.lst xs) := by simpa [guardOk] using g
          cases r.look (hm' x) hg with
          | lst e1 t => exact ⟨_, .of e1, t⟩
      · cases e
  · cases e
/-- .. a tuple -/
theorem walked_tup {sv : SV} {v : V} {H0 : Hp} {p : List D × Guards} (r1 : RepS S ms1 H1 s1) (h : RepSV S H0 ms1 H1 v sv) (e : walked s1 sv = some p) (ht : isTupV sv = true) :
    ∃ a vs, v = .ref a ∧ SqT S.K H1 a vs ∧ vs.length = p.1.length ∧ ∀ ms H st, Ext ms1 H1 ms H → RepS S ms H st → SqT S.K H a vs ∧ RepDs S ms H vs p.1 := by
  unfold isTupV at ht
  split at ht
  · rename_i xs
    have h : RepD S ms1 H1 v (.tup xs) := h
    cases h with
    | tup hq t =>
      cases e
      exact ⟨_, _, rfl, hq.sq, t.length, fun ms H st x r => ⟨(x.sqF r1 hq).sq, t.ext x r1⟩⟩
  · cases ht
theorem walked_no {sv : SV} (h : walked s1 sv = none) : True := trivial
end
section
variable {S : Wd} {cc : CC} {k : Nat} {C : Calls} {sc : Scope} {tg a b e : Expr} {fa fb : Ev} {p q : Pos}
theorem fi_of (ha : FE S cc k C sc a fa) : FI S cc k C sc tg a (srcOf fa) := by
  intro W X c
  refine PI.imp (PI.or (pi_list (ha W X c)) (pi_tup (ha W X c))) fun σ H Rw => ?_
  rintro ⟨env, st, ms, rs, re, h⟩
  unfold srcOf at h
  cases hr : fa C env st with
  | bad => rw [hr] at h; exact h.elim
  | exc x s1 =>
    rw [hr] at h
    exact .inl ⟨env, st, ms, rs, re, by rw [hr]; exact h⟩
  | ok sv s1 =>
    rw [hr] at h
    simp only [R.bind_ok] at h
    split at h
    · rename_i pr hw
      cases ht : isTupV sv with
      | false =>
        refine .inl ⟨env, st, ms, rs, re, ?_⟩
        rw [hr]
        intro v ms1 H1 x1 r1 p1
        obtain ⟨ad, rfl, ⟨vs, h1, _⟩, h2⟩ := walked_list r1 p1 hw ht
        refine ⟨ad, rfl, ⟨vs, by rw [c.K]; exact h1⟩, h _ ms1 H1 x1 r1 ?_⟩
        exact src_list (fun ms' H' st' x' r' g' => by rw [c.K]; exact h2 ms' H' st' x' r' g')
      | true =>
        refine .inr ⟨env, st, ms, rs, re, ?_⟩
        rw [hr]
        intro v ms1 H1 x1 r1 p1
        obtain ⟨ad, vs, rfl, h1, hl, h2⟩ := walked_tup r1 p1 hw ht
        refine ⟨ad, rfl, ⟨vs, by rw [c.K]; exact h1⟩, h _ ms1 H1 x1 r1 ?_⟩
        exact src_tup (vs := vs) (fun ms' H' st' x' r' => by rw [c.K]; exact h2 ms' H' st' x' r') hl
    · exact h.elim
/-- ranges -/
theorem src_range {ms1 : List Addr} {H1 : Hp} {lo : Int} {n : Nat} {gs : Guards} : Src S ms1 H1 (Itr lo n) (ups lo n, gs) := by
  refine ⟨fun _ => True, YFn fun i => .int (lo + i), by have := walk_range (lo := lo) (n := n); simpa [ups] using this, fun _ _ _ _ _ _ => trivial, ?_⟩
  intro i H x H' ms st it e r g y hi
  unfold ups at hi
  rw [List.getElem?_map, Option.map_eq_some_iff] at hi
  obtain ⟨j, hj, rfl⟩ := hi
  rw [List.getElem?_range] at hj
  · cases hj
    exact ⟨y.1, by rw [y.2]; exact .int _⟩
  · have := (List.getElem?_eq_some_iff.mp hj).1
    simpa using this
theorem fi_range1 (hg : glB sc "range" = true) (hm : S.mg "range" = none) (hn : noStar a = true) (ha : FE S cc k C sc a fa) : FI S cc k C sc tg (.Call (.Name "range" q) [a] [] p) (srcRange1 fa) := by
  intro W X c
  refine PI.imp (pi_range1 (gl_of c hg) (by rw [c.mg]; exact hm) (pa_one c ha hn) (star1 hn)) fun σ H Rw => ?_
  rintro ⟨env, st, ms, rs, re, h⟩
  unfold srcRange1 at h
  refine ⟨env, st, ms, rs, re, EndG.bind pJ_back rs h fun x s1 v ms1 H1 x1 r1 p1 h1 => ?_⟩
  split at h1
  · rename_i j
    split at h1
    · rename_i hj
      have ev := rI_of p1
      subst ev
      exact ⟨j, rfl, hj.1, hj.2, h1.ret .refl r1 src_range⟩
    · exact h1.elim
  · exact h1.elim
theorem fi_range2 (hg : glB sc "range" = true) (hm : S.mg "range" = none) (hn : noStar a = true) (hn2 : noStar b = true) (ha : FE S cc k C sc a fa) (hb : FE S cc k C sc b fb) : FI S cc k C sc tg (.Call (.Name "range" q) [a, b] [] p) (srcRange2 fa fb) := by
  intro W X c
  refine PI.imp (pi_range2 (gl_of c hg) (by rw [c.mg]; exact hm) (pa_two c ha hb hn hn2) (by rw [star2 hn, star1 hn2]; rfl) (by rw [star1 hn2]; rfl)) fun σ H Rw => ?_
  rintro ⟨env, st, ms, rs, re, h⟩
  unfold srcRange2 at h
  refine ⟨env, st, ms, rs, re, EndG.bind pJ_back rs h fun x s1 v ms1 H1 x1 r1 p1 h1 => ?_⟩
  refine ⟨env, s1, ms1, r1, re.ext x1 rs, EndG.bind pJ_back r1 h1 fun y s2 u ms2 H2 x2 r2 p2 h2 => ?_⟩
  split at h2
  · rename_i i j
    split at h2
    · rename_i hj
      have e1 := rI_of (RepSV.ext x2 r1 p1)
      have e2 := rI_of p2
      subst e1 e2
      exact ⟨i, j, rfl, ⟨hj.1.1, hj.1.2, hj.2.1, hj.2.2⟩, h2.ret .refl r2 src_range⟩
    · exact h2.elim
  · exact h2.elim
/-- range(a, b, -1) -/
theorem src_down {ms1 : List Addr} {H1 : Hp} {lo : Int} {n : Nat} {gs : Guards} : Src S ms1 H1 (Itc lo (-1) n) ((List.range n).map fun (m : Nat) => It.one (.int (lo - (m : Int))), gs) := by
  refine ⟨fun _ => True, YFn fun i => .int (lo + (i : Nat) * (-1)), by have := walk_rangeC (lo := lo) (c := -1) (n := n); simpa using this, fun _ _ _ _ _ _ => trivial, ?_⟩
  intro i H x H' ms st it e r g y hi
  rw [List.getElem?_map, Option.map_eq_some_iff] at hi
  obtain ⟨j, hj, rfl⟩ := hi
  have hlt := (List.getElem?_eq_some_iff.mp hj).1
  rw [List.length_range] at hlt
  rw [List.getElem?_range hlt] at hj
  cases hj
  refine ⟨y.1, ?_⟩
  rw [y.2]
  have e3 : lo + (i : Nat) * (-1) = lo - (i : Int) := by omega
  show RepD S ms H (.int (lo + (i : Nat) * (-1))) _
  rw [e3]
  exact .int _
theorem fi_down {j : Nat} {p1 p2 : Pos} (hg : glB sc "range" = true) (hm : S.mg "range" = none) (hn : noStar a = true) (hn2 : noStar b = true) (ha : FE S cc k C sc a fa) (hb : FE S cc k C sc b fb) :
    FI S cc k C sc tg (.Call (.Name "range" q) [a, b, .UnaryOp .USub (.Constant (.int 1) j p1) p2] [] p) (srcDown fa fb) := by
  intro W X c
  have p3 : PE X (.UnaryOp .USub (.Constant (.int 1) j p1) p2) (fun σ H Q => Q (.int (-1)) H) := by
    refine PE.imp (pe_un un_neg pe_int) fun σ H Q q => ?_
    exact ⟨1, rfl, q⟩
  have pa : PA X [a, b, .UnaryOp .USub (.Constant (.int 1) j p1) p2] (tCons (tG S W C (pSV S) fa) (tCons (tG S W C (pSV S) fb) (tCons (fun σ H Q => Q (.int (-1)) H) tNil))) := by
    refine pa_cons (ha W X c) (pa_cons (hb W X c) (pa_cons p3 pa_nil rfl) ?_) ?_
    · cases b <;> first | rfl | cases hn2
    · cases a <;> first | rfl | cases hn
  refine PI.imp (pi_range3 (gl_of c hg) (by rw [c.mg]; exact hm) pa (by cases a <;> first | rfl | cases hn) (by cases b <;> first | rfl | cases hn2)) fun σ H Rw => ?_
  rintro ⟨env, st, ms, rs, re, h⟩
  unfold srcDown at h
  refine ⟨env, st, ms, rs, re, EndG.bind pJ_back rs h fun x s1 v ms1 H1 x1 r1 p1 h1 => ?_⟩
  refine ⟨env, s1, ms1, r1, re.ext x1 rs, EndG.bind pJ_back r1 h1 fun y s2 u ms2 H2 x2 r2 p2 h2 => ?_⟩
  split at h2
  · rename_i i j
    split at h2
    · rename_i hj
      have e1 := rI_of (RepSV.ext x2 r1 p1)
      have e2 := rI_of p2
      subst e1 e2
      exact ⟨i, j, -1, (i - j).toNat, rfl, RgC.neg hj.1.1 hj.1.2 hj.2.1 hj.2.2, h2.ret .refl r2 src_down⟩
    · exact h2.elim
  · exact h2.elim
/-- enumerate of a list -/
theorem pairUp_get : ∀ (ds : List D) (k i : Nat), (pairUp k ds)[i]? = (ds[i]?).map fun d => It.two (.int ((k + i : Nat) : Int)) d
  | [], k, i => by simp [pairUp]
  | d :: ds, k, 0 => by simp [pairUp]
  | d :: ds, k, i + 1 => by
    rw [pairUp, List.getElem?_cons_succ, List.getElem?_cons_succ, pairUp_get ds (k + 1) i]
    have : k + 1 + i = k + (i + 1) := by omega
    rw [this]
theorem pairUp_len : ∀ (ds : List D) (k : Nat), (pairUp k ds).length = ds.length
  | [], _ => rfl
  | _ :: ds, k => by rw [pairUp, List.length_cons, List.length_cons, pairUp_len ds]
theorem src_enum {ms1 : List Addr} {H1 : Hp} {K : PySem.W.Frag} {ad : Addr} {ds : List D} {gs : Guards} (h : ∀ ms H st, Ext ms1 H1 ms H → RepS S ms H st → guardOk st gs = true → ∃ vs, SqL K H ad vs ∧ RepDs S ms H vs ds) : Src S ms1 H1 (Ite K ad) (pairUp 0 ds, gs) := by
  refine ⟨fun H => ∃ vs, SqL K H ad vs ∧ vs.length = ds.length, fun i H v H' => ∃ T x, v = .ref T ∧ H T = none ∧ H' = upd H T (.tup [.int (i : Nat), x]) ∧ ∀ xs, SqL K H ad xs → xs[i]? = some x, ⟨?_, ?_, ?_⟩, ?_, ?_⟩
  · rintro i H hi ⟨vs, h1, h2⟩
    rw [pairUp_len] at hi
    exact ⟨vs, vs[i]'(by omega), h1, by simp [show i < vs.length by omega]⟩
  · rintro H ⟨vs, h1, h2⟩
    exact ⟨vs, h1, by rw [pairUp_len]; omega⟩
  · intro i H x H' hi g y
    exact y
  · intro ms H st x r g
    obtain ⟨vs, h1, h2⟩ := h ms H st x r g
    exact ⟨vs, h1, h2.length⟩
  · intro i H x H' ms st it e r g y hi
    obtain ⟨vs, h1, h2⟩ := h ms H st e r g
    rw [pairUp_get, Option.map_eq_some_iff] at hi
    obtain ⟨d, hd, rfl⟩ := hi
    obtain ⟨w, hw, rw'⟩ := h2.get hd
    obtain ⟨T, z, y1, y2, y3, y4⟩ := y
    have := y4 vs h1
    rw [hw] at this
    cases this
    refine ⟨T, _, _, y1, y2, y3, ?_, rw'⟩
    have e2 : ((0 + i : Nat) : Int) = (i : Int) := by omega
    rw [e2]
    exact .int _
theorem fi_enum {es : List Expr} {kk : Nat} {tp : Pos} (hg : glB sc "enumerate" = true) (hm : S.mg "enumerate" = none) (hn : noStar a = true) (ha : FE S cc k C sc a fa) : FI S cc k C sc (.Tuple es kk tp) (.Call (.Name "enumerate" q) [a] [] p) (srcEnum fa) := by
  intro W X c
  refine PI.imp (pi_enum (gl_of c hg) (by rw [c.mg]; exact hm) (pa_one c ha hn) (star1 hn)) fun σ H Rw => ?_
  rintro ⟨env, st, ms, rs, re, h⟩
  unfold srcEnum at h
  refine ⟨env, st, ms, rs, re, EndG.bind pJ_back rs h fun x s1 v ms1 H1 x1 r1 p1 h1 => ?_⟩
  split at h1
  · exact h1.elim
  · rename_i ht
    split at h1
    · rename_i pr hw
      obtain ⟨ad, rfl, ⟨vs, e1, _⟩, e2⟩ := walked_list r1 p1 hw (by simpa using ht)
      exact ⟨ad, vs, rfl, by rw [c.K]; exact e1, h1.ret .refl r1 (src_enum fun ms' H' st' x' r' g' => by rw [c.K]; exact e2 ms' H' st' x' r' g')⟩
    · exact h1.elim

/-- zip -/
theorem zipUp_get : ∀ (xs ys : List D) (i : Nat), (zipUp xs ys)[i]? = (xs[i]?).bind fun x => (ys[i]?).map fun y => It.two x y
  | [], ys, i => by simp [zipUp]
  | x :: xs, [], i => by simp [zipUp]
  | x :: xs, y :: ys, 0 => by simp [zipUp]
  | x :: xs, y :: ys, i + 1 => by rw [zipUp, List.getElem?_cons_succ, zipUp_get xs ys i]; simp
theorem zipUp_len : ∀ (xs ys : List D), (zipUp xs ys).length = min xs.length ys.length
  | [], ys => by simp [zipUp]
  | x :: xs, [] => by simp [zipUp]
  | x :: xs, y :: ys => by rw [zipUp, List.length_cons, zipUp_len xs ys, List.length_cons, List.length_cons]; omega
theorem guard_app {st : Store} {g1 g2 : Guards} (h : guardOk st (g1 ++ g2) = true) : guardOk st g1 = true ∧ guardOk st g2 = true := by
  unfold guardOk at h ⊢
  rw [List.all_append, Bool.and_eq_true] at h
  exact h
theorem src_zip {ms1 : List Addr} {H1 : Hp} {K : PySem.W.Frag} {ad bd : Addr} {ds es : List D} {g1 g2 : Guards} (h : ∀ ms H st, Ext ms1 H1 ms H → RepS S ms H st → guardOk st g1 = true → ∃ vs, SqL K H ad vs ∧ RepDs S ms H vs ds)
    (h' : ∀ ms H st, Ext ms1 H1 ms H → RepS S ms H st → guardOk st g2 = true → ∃ vs, SqL K H bd vs ∧ RepDs S ms H vs es) : Src S ms1 H1 (Itz K ad bd) (zipUp ds es, g1 ++ g2) := by
  refine ⟨fun H => (∃ vs, SqL K H ad vs ∧ vs.length = ds.length) ∧ ∃ vs, SqL K H bd vs ∧ vs.length = es.length,
    fun i H v H' => ∃ T x y, v = .ref T ∧ H T = none ∧ H' = upd H T (.tup [x, y]) ∧ (∀ xs, SqL K H ad xs → xs[i]? = some x) ∧ ∀ ys, SqL K H bd ys → ys[i]? = some y, ⟨?_, ?_, ?_⟩, ?_, ?_⟩
  · rintro i H hi ⟨⟨vs, h1, h2⟩, ws, h3, h4⟩
    rw [zipUp_len] at hi
    exact ⟨vs, ws, vs[i]'(by omega), ws[i]'(by omega), h1, h3, by simp [show i < vs.length by omega], by simp [show i < ws.length by omega]⟩
  · rintro H ⟨⟨vs, h1, h2⟩, ws, h3, h4⟩
    exact ⟨vs, ws, h1, h3, by rw [zipUp_len]; omega⟩
  · intro i H x H' hi g y
    exact y
  · intro ms H st x r g
    obtain ⟨q1, q2⟩ := guard_app g
    obtain ⟨vs, h1, h2⟩ := h ms H st x r q1
    obtain ⟨ws, h3, h4⟩ := h' ms H st x r q2
    exact ⟨⟨vs, h1, h2.length⟩, ws, h3, h4.length⟩
  · intro i H x H' ms st it e r g y hi
    obtain ⟨q1, q2⟩ := guard_app g
    obtain ⟨vs, h1, h2⟩ := h ms H st e r q1
    obtain ⟨ws, h3, h4⟩ := h' ms H st e r q2
    rw [zipUp_get, Option.bind_eq_some_iff] at hi
    obtain ⟨d, hd, hi⟩ := hi
    rw [Option.map_eq_some_iff] at hi
    obtain ⟨d', hd', rfl⟩ := hi
    obtain ⟨w, hw, rw'⟩ := h2.get hd
    obtain ⟨w', hw', rw''⟩ := h4.get hd'
    obtain ⟨T, z, z', y1, y2, y3, y4, y5⟩ := y
    have e4 := y4 vs h1
    rw [hw] at e4
    cases e4
    have e5 := y5 ws h3
    rw [hw'] at e5
    cases e5
    exact ⟨T, _, _, y1, y2, y3, rw', rw''⟩
theorem src_zipT {ms1 : List Addr} {H1 : Hp} {K : PySem.W.Frag} {ad bd : Addr} {vs ws : List V} {ds es : List D} {gs : Guards} (h : ∀ ms H st, Ext ms1 H1 ms H → RepS S ms H st → SqT K H ad vs ∧ RepDs S ms H vs ds)
    (h' : ∀ ms H st, Ext ms1 H1 ms H → RepS S ms H st → SqT K H bd ws ∧ RepDs S ms H ws es) (hl : vs.length = ds.length) (hl' : ws.length = es.length) : Src S ms1 H1 (RZ.ItzT K ad bd) (zipUp ds es, gs) := by
  refine ⟨fun H => SqT K H ad vs ∧ SqT K H bd ws,
    fun i H v H' => ∃ T x y, v = .ref T ∧ H T = none ∧ H' = upd H T (.tup [x, y]) ∧ (∀ xs, SqT K H ad xs → xs[i]? = some x) ∧ ∀ ys, SqT K H bd ys → ys[i]? = some y, ⟨?_, ?_, ?_⟩, ?_, ?_⟩
  · rintro i H hi ⟨h1, h3⟩
    rw [zipUp_len] at hi
    exact ⟨vs, ws, vs[i]'(by omega), ws[i]'(by omega), h1, h3, by simp [show i < vs.length by omega], by simp [show i < ws.length by omega]⟩
  · rintro H ⟨h1, h3⟩
    exact ⟨vs, ws, h1, h3, by rw [zipUp_len]; omega⟩
  · intro i H x H' hi g y
    exact y
  · intro ms H st x r g
    exact ⟨(h ms H st x r).1, (h' ms H st x r).1⟩
  · intro i H x H' ms st it e r g y hi
    obtain ⟨h1, h2⟩ := h ms H st e r
    obtain ⟨h3, h4⟩ := h' ms H st e r
    rw [zipUp_get, Option.bind_eq_some_iff] at hi
    obtain ⟨d, hd, hi⟩ := hi
    rw [Option.map_eq_some_iff] at hi
    obtain ⟨d', hd', rfl⟩ := hi
    obtain ⟨w, hw, rw'⟩ := h2.get hd
    obtain ⟨w', hw', rw''⟩ := h4.get hd'
    obtain ⟨T, z, z', y1, y2, y3, y4, y5⟩ := y
    have e4 := y4 vs h1
    rw [hw] at e4
    cases e4
    have e5 := y5 ws h3
    rw [hw'] at e5
    cases e5
    exact ⟨T, _, _, y1, y2, y3, rw', rw''⟩
/-- what was walked is still to be walked -/
theorem walked_keep {ms1 ms2 : List Addr} {H1 H2 : Hp} {s1 s2 : Store} {sv : SV} {v : V} {H0 : Hp} {p : List D × Guards} (x : Ext ms1 H1 ms2 H2) (r1 : RepS S ms1 H1 s1) (h : RepSV S H0 ms1 H1 v sv) : RepSV S H0 ms2 H2 v sv := RepSV.ext x r1 h
theorem fi_zip {es : List Expr} {kk : Nat} {tp : Pos} (hg : glB sc "zip" = true) (hm : S.mg "zip" = none) (hn : noStar a = true) (hn2 : noStar b = true) (ha : FE S cc k C sc a fa) (hb : FE S cc k C sc b fb) : FI S cc k C sc (.Tuple es kk tp) (.Call (.Name "zip" q) [a, b] [] p) (srcZip fa fb) := by
  intro W X c
  refine PI.imp (RZ.pi_zipA (gl_of c hg) (by rw [c.mg]; exact hm) (pa_two c ha hb hn hn2) (star2 hn) (plain2 hn2)) fun σ H Rw => ?_
  rintro ⟨env, st, ms, rs, re, h⟩
  unfold srcZip at h
  refine ⟨env, st, ms, rs, re, EndG.bind pJ_back rs h fun x s1 v ms1 H1 x1 r1 p1 h1 => ?_⟩
  refine ⟨env, s1, ms1, r1, re.ext x1 rs, EndG.bind pJ_back r1 h1 fun y s2 u ms2 H2 x2 r2 p2 h2 => ?_⟩
  have p1' := RepSV.ext x2 r1 p1
  split at h2
  · rename_i pr qr hw hw2
    split at h2
    · rename_i ht
      cases hx : isTupV x with
      | false =>
        obtain ⟨ad, rfl, ⟨vs, e1, _⟩, e2⟩ := walked_list r2 p1' hw hx
        obtain ⟨bd, rfl, ⟨ws, e3, _⟩, e4⟩ := walked_list r2 p2 hw2 (by rw [← ht]; exact hx)
        exact ⟨ad, bd, vs, ws, rfl, .inl ⟨by rw [c.K]; exact e1, by rw [c.K]; exact e3, h2.ret .refl r2 (src_zip (fun ms' H' st' x' r' g' => by rw [c.K]; exact e2 ms' H' st' x' r' g') fun ms' H' st' x' r' g' => by rw [c.K]; exact e4 ms' H' st' x' r' g')⟩⟩
      | true =>
        obtain ⟨ad, vs, rfl, e1, l1, e2⟩ := walked_tup r2 p1' hw hx
        obtain ⟨bd, ws, rfl, e3, l2, e4⟩ := walked_tup r2 p2 hw2 (by rw [← ht]; exact hx)
        exact ⟨ad, bd, vs, ws, rfl, .inr ⟨by rw [c.K]; exact e1, by rw [c.K]; exact e3, h2.ret .refl r2 (src_zipT (vs := vs) (ws := ws) (fun ms' H' st' x' r' => by rw [c.K]; exact e2 ms' H' st' x' r') (fun ms' H' st' x' r' => by rw [c.K]; exact e4 ms' H' st' x' r') l1 l2)⟩⟩
    · exact h2.elim
  · exact h2.elim
/-- reversed -/
theorem src_rev {ms1 : List Addr} {H1 : Hp} {K : PySem.W.Frag} {ad : Addr} {ds : List D} {gs : Guards} (h : ∀ ms H st, Ext ms1 H1 ms H → RepS S ms H st → guardOk st gs = true → ∃ vs, SqL K H ad vs ∧ RepDs S ms H vs ds) : Src S ms1 H1 (Itv K ad ds.length) (ds.reverse.map .one, gs) := by
  refine ⟨fun H => ∃ vs, SqL K H ad vs ∧ vs.length = ds.length, fun i H x H' => H' = H ∧ ∀ vs, SqL K H ad vs → vs[ds.length - 1 - i]? = some x, ⟨?_, ?_, ?_⟩, ?_, ?_⟩
  · rintro i H hi ⟨vs, h1, h2⟩
    rw [List.length_map, List.length_reverse] at hi
    exact ⟨hi, vs, vs[ds.length - 1 - i]'(by omega), h1, by simp [show ds.length - 1 - i < vs.length by omega]⟩
  · rintro H ⟨vs, h1, h2⟩
    show ds.length ≤ _
    rw [List.length_map, List.length_reverse]
    exact Nat.le_refl _
  · intro i H x H' hi g y
    exact y
  · intro ms H st x r g
    obtain ⟨vs, h1, h2⟩ := h ms H st x r g
    exact ⟨vs, h1, h2.length⟩
  · intro i H x H' ms st it e r g y hi
    obtain ⟨vs, h1, h2⟩ := h ms H st e r g
    rw [List.getElem?_map, Option.map_eq_some_iff] at hi
    obtain ⟨d, hd, rfl⟩ := hi
    have hlt := (List.getElem?_eq_some_iff.mp hd).1
    rw [List.length_reverse] at hlt
    rw [List.getElem?_reverse hlt] at hd
    obtain ⟨w, hw, rw'⟩ := h2.get hd
    have := y.2 vs h1
    rw [hw] at this
    cases this
    exact ⟨y.1, rw'⟩
theorem src_revT {ms1 : List Addr} {H1 : Hp} {K : PySem.W.Frag} {ad : Addr} {vs : List V} {ds : List D} {gs : Guards} (h : ∀ ms H st, Ext ms1 H1 ms H → RepS S ms H st → SqT K H ad vs ∧ RepDs S ms H vs ds) (hl : vs.length = ds.length) : Src S ms1 H1 (RT.ItvT K ad vs.length) (ds.reverse.map .one, gs) := by
  refine ⟨fun H => SqT K H ad vs, fun i H x H' => H' = H ∧ ∀ us, SqT K H ad us → us[vs.length - 1 - i]? = some x, ⟨?_, ?_, ?_⟩, ?_, ?_⟩
  · intro i H hi h1
    rw [List.length_map, List.length_reverse] at hi
    exact ⟨by omega, vs, vs[vs.length - 1 - i]'(by omega), h1, by simp [show vs.length - 1 - i < vs.length by omega]⟩
  · intro H h1
    show vs.length ≤ _
    rw [List.length_map, List.length_reverse]
    omega
  · intro i H x H' hi g y
    exact y
  · intro ms H st x r g
    exact (h ms H st x r).1
  · intro i H x H' ms st it e r g y hi
    obtain ⟨h1, h2⟩ := h ms H st e r
    rw [List.getElem?_map, Option.map_eq_some_iff] at hi
    obtain ⟨d, hd, rfl⟩ := hi
    have hlt := (List.getElem?_eq_some_iff.mp hd).1
    rw [List.length_reverse] at hlt
    rw [List.getElem?_reverse hlt, ← hl] at hd
    obtain ⟨w, hw, rw'⟩ := h2.get hd
    have := y.2 vs h1
    rw [hw] at this
    cases this
    exact ⟨y.1, rw'⟩
theorem fi_rev (hg : glB sc "reversed" = true) (hm : S.mg "reversed" = none) (hn : noStar a = true) (ha : FE S cc k C sc a fa) : FI S cc k C sc tg (.Call (.Name "reversed" q) [a] [] p) (srcRev fa) := by
  intro W X c
  refine PI.imp (RT.pi_revA (gl_of c hg) (by rw [c.mg]; exact hm) (ha W X c) (star1 hn)) fun σ H Rw => ?_
  rintro ⟨env, st, ms, rs, re, h⟩
  unfold srcRev at h
  refine ⟨env, st, ms, rs, re, EndG.bind pJ_back rs h fun x s1 v ms1 H1 x1 r1 p1 h1 => ?_⟩
  split at h1
  · rename_i pr hw
    cases hx : isTupV x with
    | false =>
      obtain ⟨ad, rfl, ⟨vs, e1, e1'⟩, e2⟩ := walked_list r1 p1 hw hx
      refine ⟨ad, vs, rfl, .inl ⟨by rw [c.K]; exact e1, ?_⟩⟩
      rw [e1'.length]
      exact h1.ret .refl r1 (src_rev fun ms' H' st' x' r' g' => by rw [c.K]; exact e2 ms' H' st' x' r' g')
    | true =>
      obtain ⟨ad, vs, rfl, e1, l1, e2⟩ := walked_tup r1 p1 hw hx
      exact ⟨ad, vs, rfl, .inr ⟨by rw [c.K]; exact e1, h1.ret .refl r1 (src_revT (vs := vs) (fun ms' H' st' x' r' => by rw [c.K]; exact e2 ms' H' st' x' r') l1)⟩⟩
  · exact h1.elim
end
end Q


set_option linter.all false
set_option maxRecDepth 100000
set_option maxHeartbeats 2000000
set_option autoImplicit false
/-! Q12: comprehensions. -/
namespace Q
open PySem PySem.Spec PyProof.Rows L2 PySem.W
section
variable {S : Wd} {ms ms1 : List Addr} {H H1 : Hp} {st s1 : Store} {Da : Addr} {w w' : List V}
theorem SqF.off {K : PySem.W.Frag} {a : Addr} {vs : List V} (hD : H Da = some (.lst w)) (h : SqF K H a vs) : SqF K (upd H Da (.lst w')) a vs := by
  rcases h with ⟨o, h, hd⟩ | h
  · refine .inl ⟨o, ?_, hd⟩
    rw [upd_ne (fun e => by rw [e, hD] at h; cases h)]
    exact h
  · exact .inr h
theorem SqZ.off {K : PySem.W.Frag} {a : Addr} {vs : List V} (hD : H Da = some (.lst w)) (h : SqZ K H a vs) : SqZ K (upd H Da (.lst w')) a vs := by
  rcases h with ⟨o, h⟩ | h
  · refine .inl ⟨o, ?_⟩
    rw [upd_ne (fun e => by rw [e, hD] at h; cases h)]
    exact h
  · exact .inr h
mutual
theorem RepD.off (hD : H Da = some (.lst w)) : ∀ {v : V} {d : D}, RepD S ms H v d → RepD S ms (upd H Da (.lst w')) v d
  | _, _, .non => .non
  | _, _, .bl b => .bl b
  | _, _, .int i => .int i
  | _, _, .str y => .str y
  | _, _, .tup h t => .tup (h.off hD) (RepDs.off hD t)
  | _, _, .fls h t => .fls (h.off hD) (RepDs.off hD t)
  | _, _, .loc h => .loc h
theorem RepDs.off (hD : H Da = some (.lst w)) : ∀ {vs : List V} {ds : List D}, RepDs S ms H vs ds → RepDs S ms (upd H Da (.lst w')) vs ds
  | _, _, .nil => .nil
  | _, _, .cons h t => .cons (RepD.off hD h) (RepDs.off hD t)
end
theorem RepFs.off (hD : H Da = some (.lst w)) : ∀ {vs : List (Str × V)} {ds : List (Str × D)}, RepFs S ms H vs ds → RepFs S ms (upd H Da (.lst w')) vs ds
  | _, _, .nil => .nil
  | _, _, .cons h t => .cons (h.off hD) (RepFs.off hD t)
/-- a list that nobody else holds changes -/
theorem RepS.off (r : RepS S ms H st) (hD : H Da = some (.lst w)) (hn : Da ∉ ms) : RepS S ms (L2.upd H Da (.lst w')) st := by
  refine ⟨r.nd, r.len, fun n a o e1 e2 => ?_⟩
  have hne : a ≠ Da := fun e => hn (e ▸ List.mem_of_getElem? e1)
  have ro := r.ob n a o e1 e2
  cases ro with
  | lst h t => exact .lst (by rw [upd_ne hne]; exact h) (t.off hD)
  | inst c h t => exact .inst c (by rw [upd_ne hne]; exact h) (t.off hD)
theorem Ext.off {u : HO} (x : Ext ms1 H1 ms H) (hD : H1 Da = none) : Ext ms1 H1 ms (L2.upd H Da u) :=
  ⟨x.more, fun b o e hb => by rw [upd_ne (fun z => by rw [z, hD] at e; cases e)]; exact x.keep b o e hb⟩
theorem wipe_get (σ : L2.St) (j : Nat) : ∀ vs : List Nat, (L2.wipe σ vs)[j]? = if j ∈ vs then (σ[j]?).map (fun _ => none) else σ[j]?
  | [] => by simp [L2.wipe]
  | v :: vs => by
    unfold L2.wipe
    by_cases hv : v = j
    · subst hv
      simp only [List.mem_cons, true_or, if_true]
      by_cases hl : v < (L2.wipe σ vs).length
      · rw [List.getElem?_set_self hl]
        rw [L2.wipe_length] at hl
        simp [List.getElem?_eq_getElem hl]
      · rw [List.getElem?_eq_none (by simpa using hl)]
        rw [L2.wipe_length] at hl
        simp [List.getElem?_eq_none (Nat.le_of_not_lt hl)]
    · rw [List.getElem?_set_ne hv, wipe_get σ j vs]
      have : (j ∈ v :: vs) ↔ j ∈ vs := by simp [Ne.symm hv]
      simp only [this]
theorem wipe_same {σ σ1 : L2.St} {vs sl : List Nat} (hl : σ1.length = (L2.wipe σ vs).length) (hk : ∀ j, j ∉ sl → σ1[j]? = (L2.wipe σ vs)[j]?) (hs : ∀ j ∈ sl, j ∈ vs) : L2.wipe σ1 vs = L2.wipe σ vs := by
  apply List.ext_getElem?
  intro j
  rw [wipe_get, wipe_get]
  by_cases hj : j ∈ vs
  · rw [if_pos hj, if_pos hj]
    rw [L2.wipe_length] at hl
    by_cases hlt : j < σ1.length
    · rw [List.getElem?_eq_getElem hlt, List.getElem?_eq_getElem (by omega)]
      rfl
    · rw [List.getElem?_eq_none (by omega), List.getElem?_eq_none (by omega)]
  · rw [if_neg hj, if_neg hj, hk j (fun h => hj (hs j h)), wipe_get, if_neg hj]
end
section
variable {S : Wd} {cc : CC} {k : Nat} {C : Calls} {sc scope : Scope} {W : WX} {X : Cx}
abbrev Wno : WX := fun _ _ _ _ => False
/-- within a block -/
theorem Ctx.blk {s : Shared} {H : Hp} {Ca : Addr} {cl : List (Str × Addr)} {fp : List Addr} (c : Ctx S cc.N k W sc X) : Ctx S cc.N k Wno (relS scope sc) (X.blk s H scope (compEnvC scope cl Ca X.env) fp) :=
  ⟨c.prog, c.w, c.K, c.mg, c.base, c.slots, c.nd, by rw [← c.scope]; rfl, c.calm, c.room, takes0⟩
theorem tn_blk {s : Shared} {H : Hp} {Ca : Addr} {cl : List (Str × Addr)} {fp : List Addr} : TN (X.blk s H scope (compEnvC scope cl Ca X.env) fp) scope := by
  intro x hx
  have key : ∀ kd : NameKind, kd ≠ .free → scope.names.lookup x = some kd → (X.blk s H scope (compEnvC scope cl Ca X.env) fp).env.scope.names.lookup x = some kd := fun kd hk hl => lookup_relS_keep (sc := X.env.scope) hk hl
  rcases hx with hx | hx
  · have e := key .local (by decide) hx
    exact ⟨.inl e, .inr e⟩
  · have e := key .cell (by decide) hx
    refine ⟨.inr e, .inl ?_⟩
    show (scope.names.lookup x == some NameKind.cell) = true
    rw [hx]
    rfl
def FTs (S : Wd) (cc : CC) (k : Nat) (C : Calls) (sc : Scope) (ifs : List Expr) (f : Et) : Prop := ∀ W X, Ctx S cc.N k W sc X → PTs X ifs (tG S W C pB f)
theorem PTs.imp {ifs : List Expr} {t t' : TT} (h : PTs X ifs t) (i : ∀ σ H Q, t' σ H Q → t σ H Q) : PTs X ifs t' := ⟨fun pins s σ H Q I q => h.run pins s σ H Q I (i σ H Q q)⟩
theorem fts_nil : FTs S cc k C sc [] tYes := fun W X c => PTs.imp pts_nil fun σ H Q ⟨env, st, ms, r, re, h⟩ => h.ret .refl r rfl
theorem fts_one {e : Expr} {f : Et} (h : FT S cc k C sc e f) : FTs S cc k C sc [e] f := fun W X c => pts_one (h W X c)
/-- what a settled value is -/
theorem val_ok {σ : L2.St} {ms : List Addr} {H : Hp} {st s2 : Store} {f : Ev} {env : Slots} {d : D} (r : RepS S ms H st) (h : val f C env st = .ok d s2) :
    EndG S Wno σ ms H (pSV S) (fun v H' => ∃ ms', Ext ms H ms' H' ∧ RepS S ms' H' s2 ∧ RepD S ms' H' v d) (f C env st) := by
  have h0 : EndG S Wno σ ms H (pD S) (fun v H' => ∃ ms', Ext ms H ms' H' ∧ RepS S ms' H' s2 ∧ RepD S ms' H' v d) ((val f C env st).bind fun d s => .ok d s) := by
    rw [h]
    exact fun v ms' H' x r p => ⟨ms', x, r, p⟩
  exact EndG.val pD_back r h0 fun d' s1 v ms1 H1 x1 r1 p1 h1 => h1.ret .refl r1 p1
/-- what a comprehension is to reach -/
theorem comp_wish {W : WX} {fs : Esrc} {t : Tgt} {u : Et} {fe : Ev} {own : List Nat} (hsub : ∀ j ∈ t.slots, j ∈ own) : ∀ (σ : L2.St) (H : Hp) (Q : VK), tG S W C (pSV S) (eComp own fs t u fe) σ H Q →
    tLc (tG S W C (pJ S) fs) (fun v σ H Q => gT S t v σ H Q ∨ gP S t v σ H Q) (tG S Wno C pB u) (tG S Wno C (pSV S) fe) own σ H Q := by
  intro σ H Q
  rintro ⟨env, st, ms, rs, re, h⟩
  unfold eComp at h
  refine ⟨env, st, ms, rs, re, EndG.bind pSV_back rs h fun p s1 J ms1 H1 x1 r1 pj h1 => fun Da hDa => ?_⟩
  split at h1
  case isFalse => exact h1.elim
  rename_i hlen
  obtain ⟨G, Y, wk, hG, hY⟩ := pj
  have re1 := re.ext x1 rs
  refine lc_it (g := fun v σ H Q => gT S t v σ H Q ∨ gP S t v σ H Q) (tt := tG S Wno C pB u) (te := tG S Wno C (pSV S) fe) (vs := own) (σ := σ) (H1 := H1) (D := Da) (Qd := fun H => Q (.ref Da) H) wk (fun i H => ∃ st ms vacc acc, RepS S ms H st ∧ Ext ms1 H1 ms H ∧ H Da = some (.lst vacc) ∧ Da ∉ ms ∧ RepDs S ms H vacc acc ∧ acc.length ≤ i ∧
    EndG S W σ ms1 H1 (pSV S) Q ((compLoop C t u fe p.2 (wipeS env own) (p.1.drop i) st).bind fun ds s2 => .ok (.fr (acc ++ ds)) s2)) ?_ ?_ ?_ ?_
  · refine ⟨s1, ms1, [], [], r1.same (same_upd hDa), .same (same_upd hDa), upd_same, r1.free hDa, .nil, Nat.le_refl _, ?_⟩
    simpa using h1
  · rintro i H hi ⟨st, ms, vacc, acc, rS, x, hD, hn, t', hl, hE⟩
    refine hG ms H st x rS ?_
    cases hp : p.1.drop i with
    | nil =>
      rw [hp] at hE
      unfold compLoop at hE
      split at hE
      · assumption
      · exact hE.elim
    | cons it rest =>
      rw [hp] at hE
      unfold compLoop at hE
      split at hE
      · assumption
      · exact hE.elim
  · rintro i x H H' hi ⟨st, ms, vacc, acc, rS, xE, hD, hn, t', hl, hE⟩ hy
    have hp : p.1.drop i = p.1[i] :: p.1.drop (i + 1) := by rw [List.drop_eq_getElem_cons hi]
    rw [hp] at hE
    unfold compLoop at hE
    split at hE
    case isFalse => exact hE.elim
    rename_i hg
    have item := hY i H x H' ms st p.1[i] xE rS hg hy (List.getElem?_eq_getElem hi)
    split at hE
    · exact hE.elim
    · rename_i env1 hasg
      -- behind the store
      have cont : ∀ (H' : Hp) (σ1 : L2.St), RepS S ms H' st → Ext ms1 H1 ms H' → H' Da = some (.lst vacc) → RepDs S ms H' vacc acc → RepE S ms H' σ1 env1 →
          tG S Wno C pB u σ1 H' fun b H3 => if b = true then tG S Wno C (pSV S) fe σ1 H3 fun y H4 => ∃ acc, H4 Da = some (.lst acc) ∧ acc.length < sizeLine ∧
            (∃ st ms vacc acc', RepS S ms (upd H4 Da (.lst (acc ++ [y]))) st ∧ Ext ms1 H1 ms (upd H4 Da (.lst (acc ++ [y]))) ∧ (upd H4 Da (.lst (acc ++ [y]))) Da = some (.lst vacc) ∧ Da ∉ ms ∧ RepDs S ms (upd H4 Da (.lst (acc ++ [y]))) vacc acc' ∧ acc'.length ≤ i + 1 ∧
              EndG S W σ ms1 H1 (pSV S) Q ((compLoop C t u fe p.2 (wipeS env own) (p.1.drop (i + 1)) st).bind fun ds s2 => .ok (.fr (acc' ++ ds)) s2))
            else ∃ st ms vacc acc, RepS S ms H3 st ∧ Ext ms1 H1 ms H3 ∧ H3 Da = some (.lst vacc) ∧ Da ∉ ms ∧ RepDs S ms H3 vacc acc ∧ acc.length ≤ i + 1 ∧
              EndG S W σ ms1 H1 (pSV S) Q ((compLoop C t u fe p.2 (wipeS env own) (p.1.drop (i + 1)) st).bind fun ds s2 => .ok (.fr (acc ++ ds)) s2) := by
        intro H' σ1 rS' xE' hD' t'' reE
        refine ⟨env1, st, ms, rS', reE, ?_⟩
        have notin : ∀ {ms2 : List Addr} {H2 : Hp}, Ext ms H' ms2 H2 → Da ∉ ms2 ∧ H2 Da = some (.lst vacc) := fun {ms2 H2} x2 => by
          obtain ⟨new, e, f⟩ := x2.more
          refine ⟨?_, x2.keep _ _ hD' hn⟩
          rw [e, List.mem_append, not_or]
          exact ⟨hn, fun hm => by rw [f _ hm] at hD'; cases hD'⟩
        split at hE
        · rename_i s2 hu1
          rw [hu1]
          intro v ms2 H2 x2 r2 pv
          have pv : v = true := pv
          subst pv
          rw [if_pos rfl]
          refine ⟨env1, s2, ms2, r2, reE.ext x2 rS', ?_⟩
          split at hE
          · rename_i d s3 hv1
            have q := val_ok (σ := σ1) r2 hv1
            cases hf : fe C env1 s2 with
            | bad => rw [hf] at q; exact q.elim
            | exc x' s' =>
              exfalso
              unfold _root_.Q.val at hv1
              rw [hf] at hv1
              cases hv1
            | ok sv s' =>
              rw [hf] at q
              intro y ms3 H3 x3 r3 py
              obtain ⟨ms', xx, rr, pd⟩ := q y ms3 H3 x3 r3 py
              have xT := x2.trans r2 xx rS'
              obtain ⟨n1, n2⟩ := notin xT
              refine ⟨vacc, n2, ?_, s3, ms', vacc ++ [y], acc ++ [d], rr.off n2 n1, ?_, upd_same, n1, ?_, ?_, ?_⟩
              · rw [t''.length, ← szl_eq]; omega
              · exact Ext.off (xE'.trans rS' xT r1) hDa
              · exact ((t''.ext xT rS').off n2).append (.cons (pd.off n2) .nil)
              · rw [List.length_append, List.length_singleton]; omega
              · rw [R.bind_assoc] at hE
                simpa using hE
          · exact hE.elim
        · rename_i s2 hu1
          rw [hu1]
          intro v ms2 H2 x2 r2 pv
          have pv : v = false := pv
          subst pv
          rw [if_neg Bool.false_ne_true]
          obtain ⟨n1, n2⟩ := notin x2
          exact ⟨s2, ms2, vacc, acc, r2, xE'.trans rS' x2 r1, n2, n1, t''.ext x2 rS', by omega, hE⟩
        · exact hE.elim
      have reW : RepE S ms H (L2.wipe σ own) (wipeS env own) := (re1.ext xE r1).wipe own
      cases hit : p.1[i] with
      | one d =>
        rw [hit] at item hasg
        obtain ⟨rfl, rd⟩ := item
        refine .inl ⟨d, wipeS env own, env1, ms, st, rS, reW, rd, hasg, fun σ1 re' hl' hk' => ⟨wipe_same hl' hk' hsub, ?_⟩⟩
        exact cont H' σ1 rS xE hD t' re'
      | two a b =>
        rw [hit] at item hasg
        obtain ⟨T, x1', x2', rfl, hT, rfl, ra, rb⟩ := item
        have sm : Same H (upd H T (.tup [x1', x2'])) := same_upd hT
        have hDT : upd H T (.tup [x1', x2']) Da = some (.lst vacc) := sm _ _ hD
        cases ht' : t with
        | nm j => rw [ht'] at hasg; cases hasg
        | tp ts =>
          rw [ht'] at hasg
          refine .inr ⟨T, x1', x2', a, b, ts, wipeS env own, env1, ms, st, rfl, upd_same, rfl, rS.same sm, reW.ext (.same sm) rS, .cons (ra.same sm rS) (.cons (rb.same sm rS) .nil), hasg, fun σ1 re' hl' hk' => ⟨wipe_same hl' hk' (fun j hj => hsub j (by rw [ht', Tgt.slots]; exact hj)), ?_⟩⟩
          have q := cont (upd H T (.tup [x1', x2'])) σ1 (rS.same sm) (xE.trans rS (.same sm) r1) hDT (t'.same sm rS) re'
          rw [ht'] at q
          exact q
  · rintro H ⟨st, ms, vacc, acc, rS, xE, hD, hn, t', hl, hE⟩
    rw [List.drop_length] at hE
    unfold compLoop at hE
    split at hE
    · refine hE (.ref Da) ms H xE rS ⟨Da, vacc, rfl, hDa, hD, hn, ?_⟩
      simpa using t'
    · exact hE.elim

/-- a comprehension's parts -/
structure CompOk (S : Wd) (cc : CC) (k : Nat) (C : Calls) (sc scope : Scope) (tg it : Expr) (ifs : List Expr) (elt : Expr) (fs : Esrc) (t : Tgt) (u : Et) (fe : Ev) : Prop where
  blk : L2.blkC cc.N sc scope (ownOf cc.N scope) = true
  ns : noSet it = true
  src : FI S cc k C sc tg it fs
  tgt : ∃ n, cTgt n cc.N scope tg = some t
  tests : FTs S cc k C (relS scope sc) ifs u
  elt : FE S cc k C (relS scope sc) elt fe
  sub : t.slots.all (fun i => ((ownOf cc.N scope).map (·.2)).contains i) = true
section
variable {elt tg it : Expr} {ifs : List Expr} {pos : Pos} {fs : Esrc} {t : Tgt} {u : Et} {fe : Ev}
theorem CompOk.inn (h : CompOk S cc k C sc scope tg it ifs elt fs t u fe) : ∀ j ∈ t.slots, j ∈ (ownOf cc.N scope).map (·.2) := fun j hj => by
  have := List.all_eq_true.mp h.sub j hj
  simpa using this
theorem CompOk.ok (h : CompOk S cc k C sc scope tg it ifs elt fs t u fe) (c : Ctx S cc.N k W sc X) : BlkOk X.N X.env.scope scope (ownOf cc.N scope) := by rw [c.slots, c.scope]; exact blkOk_by h.blk
theorem CompOk.pg (h : CompOk S cc k C sc scope tg it ifs elt fs t u fe) (c : Ctx S cc.N k W sc X) : ∀ (s : Shared) (H : Hp) (Ca : Addr) (cl : List (Str × Addr)) (fp : List Addr), PG (X.blk s H scope (compEnvC scope cl Ca X.env) fp) tg (fun v σ H Q => gT S t v σ H Q ∨ gP S t v σ H Q) := by
  intro s H Ca cl fp
  obtain ⟨n, ht⟩ := h.tgt
  exact PG.or (pg_of (X := X.blk s H scope (compEnvC scope cl Ca X.env) fp) c.K c.nd c.calm tn_blk n tg t (by show cTgt n X.N scope tg = _; rw [c.slots]; exact ht)) (pg_pair (X := X.blk s H scope (compEnvC scope cl Ca X.env) fp) c.K c.nd c.calm tn_blk n tg t (by show cTgt n X.N scope tg = _; rw [c.slots]; exact ht))
theorem fold_no {env : Env} {e : Expr} (h : noSet e = true) : ∀ x, foldedSetIterable e env x = pure x := by
  intro x
  cases e <;> first | rfl | cases h
theorem fe_comp (h : CompOk S cc k C sc scope tg it ifs elt fs t u fe) : FE S cc k C sc (.ListComp elt [⟨tg, it, ifs, 0⟩] scope pos) (eComp ((ownOf cc.N scope).map (·.2)) fs t u fe) := fun W X c =>
  PE.imp (pe_lc c.calm c.nd (h.src W X c) (h.ok c) (h.pg c) (fun s H Ca cl fp => h.tests _ _ c.blk) (fun s H Ca cl fp => h.elt _ _ c.blk) (fold_no h.ns)) (comp_wish h.inn)
end
end
end Q


set_option linter.all false
set_option maxRecDepth 100000
set_option maxHeartbeats 2000000
set_option autoImplicit false
/-! Q13: statements. -/
namespace Q
open PySem PySem.Spec PyProof.Rows L2 PySem.W
/-- the end of a statement that began at (ms, H) -/
def EndS (S : Wd) (W : WX) (E : Ends) (ms : List Addr) (H : Hp) : SR → Prop
  | .nx env st => ∀ σ' ms' H', Ext ms H ms' H' → RepS S ms' H' st → RepE S ms' H' σ' env → E.nx σ' H'
  | .bk env st => ∀ σ' ms' H', Ext ms H ms' H' → RepS S ms' H' st → RepE S ms' H' σ' env → E.bk σ' H'
  | .ct env st => ∀ σ' ms' H', Ext ms H ms' H' → RepS S ms' H' st → RepE S ms' H' σ' env → E.ct σ' H'
  | .rt d st => ∀ v ms' H', Ext ms H ms' H' → RepS S ms' H' st → RepD S ms' H' v d → E.rt v H'
  | .exc x env st => ∀ σ' ms' H' c d, Ext ms H ms' H' → RepS S ms' H' st → RepE S ms' H' σ' env → RepX S ms' H' x c d → W c d σ' H'
  | .bad => False
def tS (S : Wd) (W : WX) (C : Calls) (f : Es) : TS := fun E σ H => ∃ env st ms, RepS S ms H st ∧ RepE S ms H σ env ∧ EndS S W E ms H (f C env st)
structure CtxS (S : Wd) (N : List Str) (k : Nat) (W : WX) (sc : Scope) (X : Cx) : Prop extends Ctx S N k W sc X where
  stk : X.stack = X.env :: X.outer
  frm : X.env.frame = some X.env.locals
  fnT : ∀ x, X.fn x = true
  kind : X.env.scope.kind = .function
  own : PassesOwn (model X.prog X.w) X.A X.env X.xe
def FS (S : Wd) (cc : CC) (k : Nat) (C : Calls) (sc : Scope) (s : Stmt) (f : Es) : Prop := ∀ W X, CtxS S cc.N k W sc X → PS X s (tS S W C f)
def FSs (S : Wd) (cc : CC) (k : Nat) (C : Calls) (sc : Scope) (s : List Stmt) (f : Es) : Prop := ∀ W X, CtxS S cc.N k W sc X → PSs X s (tS S W C f)
section
variable {S : Wd} {W : WX} {E : Ends} {ms ms1 ms2 : List Addr} {H H1 H2 : Hp} {st s1 s2 : Store} {σ : L2.St} {env : Slots} {α β γ : Type}
theorem EndS.from {r : SR} (x : Ext ms H ms1 H1) (r0 : RepS S ms H st) (r1 : RepS S ms1 H1 s1) (h : EndS S W E ms H r) : EndS S W E ms1 H1 r := by
  cases r with
  | nx env st' => exact fun σ' ms' H' y ry e => h σ' ms' H' (x.trans r1 y r0) ry e
  | bk env st' => exact fun σ' ms' H' y ry e => h σ' ms' H' (x.trans r1 y r0) ry e
  | ct env st' => exact fun σ' ms' H' y ry e => h σ' ms' H' (x.trans r1 y r0) ry e
  | rt d st' => exact fun v ms' H' y ry e => h v ms' H' (x.trans r1 y r0) ry e
  | exc e env st' => exact fun σ' ms' H' c d y ry e1 e2 => h σ' ms' H' c d (x.trans r1 y r0) ry e1 e2
  | bad => exact h
/-- an expression, then what is done with it -/
theorem EndS.bind {P : Rp α β} {Q : β → Hp → Prop} {r : R α} {g : α → Store → SR} (r0 : RepS S ms H st) (re : RepE S ms H σ env) (h : EndS S W E ms H (r.to env g))
    (k : ∀ a s1 v ms1 H1, Ext ms H ms1 H1 → RepS S ms1 H1 s1 → P H ms1 H1 v a → EndS S W E ms1 H1 (g a s1) → Q v H1) : EndG S W σ ms H P Q r := by
  cases r with
  | ok a s1 => exact fun v ms1 H1 x r1 p => k a s1 v ms1 H1 x r1 p (EndS.from x r0 r1 h)
  | exc e s1 => exact fun ms' H' c d x rs p => h σ ms' H' c d x rs (re.ext x r0) p
  | bad => exact h
theorem R.to_bind {r : R α} {f : α → Store → R β} {g : β → Store → SR} : (r.bind f).to env g = r.to env fun a s => (f a s).to env g := by cases r <;> rfl
/-- .. its value settled -/
theorem EndS.val {Q : V → Hp → Prop} {f : Ev} {C : Calls} {g : D → Store → SR} (r0 : RepS S ms H st) (re : RepE S ms H σ env) (h : EndS S W E ms H ((val f C env st).to env g))
    (k : ∀ d s1 v ms1 H1, Ext ms H ms1 H1 → RepS S ms1 H1 s1 → RepD S ms1 H1 v d → EndS S W E ms1 H1 (g d s1) → Q v H1) : EndG S W σ ms H (pSV S) Q (f C env st) := by
  have h0 : ∀ r : R D, EndS S W E ms H (r.to env g) → EndG S W σ ms H (pD S) (fun v H' => Q v H') r := fun r hr => EndS.bind (P := pD S) r0 re hr fun d s1 v ms1 H1 x1 r1 p1 h1 => k d s1 v ms1 H1 x1 r1 p1 h1
  have h1 : EndG S W σ ms H (pD S) (fun v H' => Q v H') ((_root_.Q.val f C env st).bind fun d s => .ok d s) := by
    have q := h0 _ h
    cases hv : _root_.Q.val f C env st with
    | ok d s1 => rw [hv] at q; exact q
    | exc e s1 => rw [hv] at q; exact q
    | bad => rw [hv] at q; exact q
  exact EndG.val pD_back r0 h1 fun d s1 v ms1 H1 x1 r1 p1 h2 => h2.ret .refl r1 p1
theorem gT_nm {i : Nat} {v : V} {Q : L2.St → Hp → Prop} (h : gT S (.nm i) v σ H Q) : Q (σ.set i (some v)) H := by
  obtain ⟨d, env, env1, ms, st, r, re, rd, ea, q⟩ := h
  cases ea
  refine q _ (re.set rd) (by simp) fun j hj => ?_
  rw [Tgt.slots, List.mem_singleton] at hj
  exact List.getElem?_set_ne (Ne.symm hj)
end
section
variable {S : Wd} {cc : CC} {k : Nat} {C : Calls} {sc : Scope} {a b e : Expr} {fa fb fe : Ev} {p q : Pos}
theorem fss_nil : FSs S cc k C sc [] sNext := fun W X c => ⟨fun pins s σ H E I h => by
  obtain ⟨env, st, ms, r, re, h⟩ := h
  exact pss_nil.run pins s σ H E I (h σ ms H .refl r re)⟩
theorem PSs.imp {X : Cx} {s : List Stmt} {t t' : TS} (h : PSs X s t) (i : ∀ D σ H, t' D σ H → t D σ H) : PSs X s t' := ⟨fun pins s σ H D I q => h.run pins s σ H D I (i D σ H q)⟩
theorem seq_wish {W : WX} {E : Ends} {σ : L2.St} {H : Hp} {f g : Es} (h : tS S W C (sSeq f g) E σ H) : tSeq (tS S W C f) (tS S W C g) E σ H := by
  obtain ⟨env, st, ms, r, re, h⟩ := h
  refine ⟨env, st, ms, r, re, ?_⟩
  unfold sSeq at h
  cases hf : f C env st with
  | nx e1 s1 =>
    rw [hf] at h
    exact fun σ' ms' H' x r' re' => ⟨e1, s1, ms', r', re', EndS.from x r r' h⟩
  | rt d s1 => rw [hf] at h; exact h
  | bk e1 s1 => rw [hf] at h; exact h
  | ct e1 s1 => rw [hf] at h; exact h
  | exc x e1 s1 => rw [hf] at h; exact h
  | bad => rw [hf] at h; exact h
theorem fss_cons {s : Stmt} {r : List Stmt} {f g : Es} (h1 : FS S cc k C sc s f) (h2 : FSs S cc k C sc r g) : FSs S cc k C sc (s :: r) (sSeq f g) := fun W X c =>
  PSs.imp (pss_cons (h1 W X c) (h2 W X c)) fun D σ H => seq_wish
theorem fss_one {s : Stmt} {f : Es} (h1 : FS S cc k C sc s f) : FSs S cc k C sc [s] f := fun W X c => pss_one (h1 W X c)
theorem next_wish {W : WX} {E : Ends} {σ : L2.St} {H : Hp} (h : tS S W C sNext E σ H) : tNext E σ H := by
  obtain ⟨env, st, ms, r, re, h⟩ := h
  exact h σ ms H .refl r re
theorem fs_pass : FS S cc k C sc (.Pass p) sNext := fun W X c => PS.imp ps_pass fun D σ H => next_wish
theorem fs_doc {x : Str} {j : Nat} : FS S cc k C sc (.Expr (.Constant (.str x) j p) q) sNext := fun W X c => PS.imp ps_doc fun D σ H => next_wish
theorem fs_break : FS S cc k C sc (.Break p) sBreak := fun W X c => PS.imp ps_break fun D σ H => by
  rintro ⟨env, st, ms, r, re, h⟩
  exact h σ ms H .refl r re
theorem fs_cont : FS S cc k C sc (.Continue p) sCont := fun W X c => PS.imp ps_continue fun D σ H => by
  rintro ⟨env, st, ms, r, re, h⟩
  exact h σ ms H .refl r re
theorem swap_no {X : Cx} {t : Option Expr} {l : Nat} (h : noComp e = true) : swapsWith e t l X.env = pure false := by
  cases e <;> first | rfl | cases h
theorem fs_expr (hn : noComp e = true) (he : FE S cc k C sc e fe) : FS S cc k C sc (.Expr e p) (sExpr fe) := by
  intro W X c
  refine PS.imp (ps_expr (he W X c.toCtx) (swap_no hn)) fun D σ H => ?_
  rintro ⟨env, st, ms, r, re, h⟩
  exact ⟨env, st, ms, r, re, EndS.bind r re h fun a s1 v ms1 H1 x1 r1 p1 h1 => h1 σ ms1 H1 .refl r1 (re.ext x1 r)⟩
theorem fs_ret (he : FE S cc k C sc e fe) : FS S cc k C sc (.Return (some e) p) (sRet fe) := by
  intro W X c
  refine PS.imp (ps_ret (he W X c.toCtx)) fun D σ H => ?_
  rintro ⟨env, st, ms, r, re, h⟩
  exact ⟨env, st, ms, r, re, EndS.val r re h fun d s1 v ms1 H1 x1 r1 p1 h1 => h1 v ms1 H1 .refl r1 p1⟩
theorem fs_retN : FS S cc k C sc (.Return none p) sRetN := fun W X c => PS.imp ps_retN fun D σ H => by
  rintro ⟨env, st, ms, r, re, h⟩
  exact h .non ms H .refl r .non
theorem fs_if {t : Expr} {u : Et} {xs ys : List Stmt} {f g : Es} (ht : FT S cc k C sc t u) (hx : FSs S cc k C sc xs f) (hy : FSs S cc k C sc ys g) : FS S cc k C sc (.If t xs ys p) (sIf u f g) := by
  intro W X c
  refine PS.imp (ps_if (ht W X c.toCtx) (hx W X c) (hy W X c)) fun D σ H => ?_
  rintro ⟨env, st, ms, r, re, h⟩
  refine ⟨env, st, ms, r, re, EndS.bind r re h fun b s1 v ms1 H1 x1 r1 p1 h1 => ?_⟩
  have p1 : v = b := p1
  subst p1
  cases v with
  | true => exact iteT ⟨env, s1, ms1, r1, re.ext x1 r, h1⟩
  | false => exact iteF ⟨env, s1, ms1, r1, re.ext x1 r, h1⟩
theorem tn_def {W : WX} {X : Cx} (c : CtxS S cc.N k W sc X) : TN X sc := fun x hx => ⟨by rw [c.scope]; exact hx, .inl (c.fnT x)⟩
/-- a store -/
theorem asg_wish {W : WX} {E : Ends} {σ : L2.St} {H : Hp} {t : Tgt} {f : Ev} (h : tS S W C (sAsg t f) E σ H) : tG S W C (pSV S) f σ H fun x H1 => gT S t x σ H1 E.nx := by
  obtain ⟨env, st, ms, r, re, h⟩ := h
  refine ⟨env, st, ms, r, re, EndS.val r re h fun d s1 v ms1 H1 x1 r1 p1 h1 => ?_⟩
  split at h1
  · rename_i env1 ha
    exact ⟨d, env, env1, ms1, s1, r1, re.ext x1 r, p1, ha, fun σ1 re1 _ _ => h1 σ1 ms1 H1 .refl r1 re1⟩
  · exact h1.elim
theorem tG.imp {α β : Type} {P : Rp α β} {W : WX} {f : Calls → Slots → Store → R α} {σ : L2.St} {H : Hp} {Q Q' : β → Hp → Prop} (h : tG S W C P f σ H Q) (i : ∀ v H', Q v H' → Q' v H') : tG S W C P f σ H Q' := by
  obtain ⟨env, st, ms, r, re, h⟩ := h
  refine ⟨env, st, ms, r, re, ?_⟩
  cases hf : f C env st with
  | ok a s1 => rw [hf] at h; exact fun v ms' H' x rs p => i v H' (h v ms' H' x rs p)
  | exc e s1 => rw [hf] at h; exact h
  | bad => rw [hf] at h; exact h
theorem fs_set {y : Str} {i : Nat} (hn : noComp e = true) (hl : locB sc y = true) (hi : slot cc.N y = some i) (he : FE S cc k C sc e fe) : FS S cc k C sc (.Assign [.Name y q] e p) (sAsg (.nm i) fe) := by
  intro W X c
  refine PS.imp (ps_set c.nd (by rw [c.slots]; exact slot_get hi) (by rw [c.scope]; exact loc_of hl) (he W X c.toCtx) (swap_no hn) (.inl (c.fnT y))) fun D σ H h => ?_
  exact tG.imp (asg_wish h) fun v H' g => gT_nm g
theorem fs_setC {y : Str} {i : Nat} {scope : Scope} {elt tg it : Expr} {ifs : List Expr} {pos : Pos} {fs : Esrc} {t : Tgt} {u : Et} {fe : Ev} (hs : setComp sc y q pos scope = true) (hi : slot cc.N y = some i) (h : CompOk S cc k C sc scope tg it ifs elt fs t u fe) :
    FS S cc k C sc (.Assign [.Name y q] (.ListComp elt [⟨tg, it, ifs, 0⟩] scope pos) p) (sAsg (.nm i) (eComp ((ownOf cc.N scope).map (·.2)) fs t u fe)) := by
  intro W X c
  have c0 := c.toCtx
  unfold setComp at hs
  split at hs
  · rename_i hk
    simp only [Bool.and_eq_true, Bool.not_eq_true'] at hs
    have hk' : X.env.scope.names.lookup y = some .local := by rw [c0.scope]; exact hk
    refine PS.imp (ps_setLc c0.calm c0.nd (by rw [c0.slots]; exact slot_get hi) hk' (sw_true c.kind hk' hs.1 hs.2) (h.src W X c0) (h.ok c0) (h.pg c0) (fun s H Ca cl fp => h.tests _ _ c0.blk) (fun s H Ca cl fp => h.elt _ _ c0.blk) (fold_no h.ns)) fun D σ H hw => ?_
    exact comp_wish h.inn σ H _ (tG.imp (asg_wish hw) fun v H' g => gT_nm g)
  · rename_i hk
    have hk' : X.env.scope.names.lookup y = some .cell := by rw [c0.scope]; exact hk
    have sw : swapsWith (.ListComp elt [⟨tg, it, ifs, 0⟩] scope pos) (some (.Name y q)) p.line X.env = pure false := by
      have ky : X.env.kindOf y = some .cell := hk'
      unfold swapsWith
      simp only [ky]
      have e : (NameKind.cell == NameKind.local) = false := by decide
      have e2 : (some NameKind.cell == some NameKind.local) = false := by decide
      simp [e, e2]
    refine PS.imp (ps_set c0.nd (by rw [c0.slots]; exact slot_get hi) (.inr hk') (fe_comp h W X c0) sw (.inl (c.fnT y))) fun D σ H hw => ?_
    exact tG.imp (asg_wish hw) fun v H' g => gT_nm g
  · cases hs
theorem fs_asg {n : Nat} {es : List Expr} {kk : Nat} {tp : Pos} {t : Tgt} (h1 : noTuple e = true) (h2 : noComp e = true) (ht : cTgt n cc.N sc (.Tuple es kk tp) = some t) (he : FE S cc k C sc e fe) : FS S cc k C sc (.Assign [.Tuple es kk tp] e p) (sAsg t fe) := by
  intro W X c
  refine PS.imp (ps_asg (he W X c.toCtx) (pg_of c.K c.nd c.calm (tn_def c) n _ t (by rw [c.slots]; exact ht)) ?_ ?_ rfl) fun D σ H hw => asg_wish hw
  · cases e <;> first | rfl | cases h2
  · cases e <;> first | rfl | cases h1
/-- a, b = x, y -/
theorem fs_par {ts : List Expr} {x y : Str} {i j : Nat} {kt k2 : Nat} {pt p2 : Pos} (ht : twoNames sc ts = some (x, y)) (hf1 : ([a, b].all (foldedForSure 8)) = false) (hf2 : ([a, b].all (constantsAlone 8)) = false) (hna : noStar a = true) (hnb : noStar b = true)
    (hi : slot cc.N x = some i) (hj : slot cc.N y = some j) (hij : i ≠ j) (ha : FE S cc k C sc a fa) (hb : FE S cc k C sc b fb) : FS S cc k C sc (.Assign [.Tuple ts kt pt] (.Tuple [a, b] k2 p2) p) (sPar i j fa fb) := by
  unfold twoNames at ht
  split at ht
  · rename_i x' px y' py
    split at ht
    · rename_i hc
      obtain ⟨hx, hy, hline, hne⟩ := hc
      cases ht
      intro W X c
      have hx' : X.env.scope.names.lookup x = some .local := by rw [c.scope]; exact hx
      have hy' : X.env.scope.names.lookup y = some .local := by rw [c.scope]; exact hy
      have hw : swappedStores [.Tuple [.Name x px, .Name y py] kt pt] (.Tuple [a, b] k2 p2) X.env = pure (some [x, y]) := by
        have kx : X.env.kindOf x = some .local := hx'
        have ky : X.env.kindOf y = some .local := hy'
        have kb : X.env.blockKind = .function := by unfold Env.blockKind; rw [c.kind]; rfl
        have hl : (([Expr.Name x px, Expr.Name y py].head?.map (·.pos.line)).getD 0) = px.line := rfl
        have kx2 : (X.env.kindOf x == some NameKind.local) = true := by rw [kx]; decide
        have ky2 : (X.env.kindOf y == some NameKind.local) = true := by rw [ky]; decide
        have kb2 : (X.env.blockKind != ScopeKind.function) = false := by rw [kb]; decide
        have ed : [x, y].eraseDups.length = 2 := by simp [List.eraseDups_cons, Ne.symm hne]
        unfold swappedStores
        simp only [hl, kb2, List.filterMap_cons, List.filterMap_nil, kx2, ky2, hline, beq_self_eq_true, Bool.and_self, if_true, ed, hf1, hf2]
        cases a <;> first | (simp [noStar] at hna; done) | (cases b <;> first | rfl | (simp [noStar] at hnb; done))
      refine PS.imp (ps_par c.calm c.nd (by rw [c.slots]; exact slot_get hi) (by rw [c.slots]; exact slot_get hj) hij hx' hy' (pa_two c.toCtx ha hb hna hnb) hw rfl) fun D σ H => ?_
      rintro ⟨env, st, ms, r, re, h⟩
      unfold sPar at h
      simp only [evs, R.bind_assoc, R.to_bind] at h
      refine ⟨env, st, ms, r, re, ?_⟩
      refine EndS.val r re h fun d s1 v ms1 H1 x1 r1 p1 h1 => ?_
      refine ⟨env, s1, ms1, r1, re.ext x1 r, EndS.val r1 (re.ext x1 r) h1 fun d2 s2 v2 ms2 H2 x2 r2 p2 h2 => ?_⟩
      refine ⟨v, v2, rfl, ?_⟩
      have h2' : EndS S W D ms2 H2 (.nx ((env.set i (some d)).set j (some d2)) s2) := h2
      exact h2' _ ms2 H2 .refl r2 ((((re.ext x1 r).ext x2 r1).set (p1.ext x2 r1)).set p2)
    · cases ht
  · cases ht
end
end Q


set_option linter.all false
set_option maxRecDepth 100000
set_option maxHeartbeats 2000000
set_option autoImplicit false
/-! Q14: stores to fields and places, loops, raise, try. -/
namespace Q
open PySem PySem.Spec PyProof.Rows L2 PySem.W
section
variable {S : Wd} {cc : CC} {k : Nat} {C : Calls} {sc : Scope} {a b e o : Expr} {fa fb fe fo : Ev} {p q : Pos}
theorem put_rep {ms : List Addr} {H : Hp} {f : Str} {v : V} {d : D} (r : RepD S ms H v d) : ∀ {fs : List (Str × V)} {ds : List (Str × D)}, RepFs S ms H fs ds → RepFs S ms H (putF f v fs) (sFld.putFld f d ds)
  | _, _, .nil => .cons r .nil
  | _, _, .cons (f := g) h t => by
    unfold sFld.putFld putF
    by_cases hg : g = f
    · subst hg
      simp only [beq_self_eq_true, if_true]
      exact .cons r t
    · have : (g == f) = false := by simpa using hg
      have h3 : (f == g) = false := by simpa using (Ne.symm hg)
      simp only [this, h3, hg, if_false, Bool.false_eq_true]
      exact .cons h (put_rep r t)
theorem RepFs.length {ms : List Addr} {H : Hp} : ∀ {fs : List (Str × V)} {ds : List (Str × D)}, RepFs S ms H fs ds → fs.length = ds.length
  | _, _, .nil => rfl
  | _, _, .cons _ t => by simp [RepFs.length t]
theorem fs_fld {f : Str} (hb : baseB o = true) (hn : noComp e = true) (G : ∀ c A, S.cls c = some A → Cls S.K A ∧ NoAttr S.K A f) (ho : FE S cc k C sc o fo) (he : FE S cc k C sc e fe) : FS S cc k C sc (.Assign [.Attribute o f q] e p) (_root_.Q.sFld fo f fe) := by
  intro W X c
  refine PS.imp (ps_fld (ho W X c.toCtx) (he W X c.toCtx) (swap_no hn)) fun E σ H => ?_
  rintro ⟨env, st, ms, r, re, h⟩
  unfold _root_.Q.sFld at h
  refine ⟨env, st, ms, r, re, EndS.val r re h fun d s1 v ms1 H1 x1 r1 p1 h1 => ?_⟩
  refine ⟨env, s1, ms1, r1, re.ext x1 r, EndS.bind (P := pSV S) r1 (re.ext x1 r) h1 fun x s2 u ms2 H2 x2 r2 p2 h2 => ?_⟩
  split at h2
  · rename_i n
    split at h2
    · rename_i cn fs hs
      split at h2
      · rename_i hl
        have p2 : RepD S ms2 H2 u (.loc n) := p2
        cases p2 with
        | loc hm =>
          rename_i la
          cases r2.look hm hs with
          | inst ec eH t =>
            rename_i C' dx vfs
            obtain ⟨g1, g2⟩ := G _ _ ec
            refine ⟨la, C', dx, vfs, rfl, eH, by rw [c.K]; exact g1, by rw [c.K]; exact g2, by rw [t.length]; exact hl, ?_⟩
            have hmem := List.mem_of_getElem? hm
            have xx : Ext ms2 H2 ms2 (upd H2 la (.ins C' dx (putF f v vfs))) := .upd hmem
            exact h2 σ ms2 _ xx (r2.upd hm (.inst ec upd_same ((put_rep (p1.ext x2 r1) t).ext xx r2))) (((re.ext x1 r).ext x2 r1).ext xx r2)
      · exact h2.elim
    · exact h2.elim
  · exact h2.elim
theorem fs_setIx {i : Expr} {fi : Ev} (hn : noComp e = true) (hsl : noSlice i = true) (ho : FE S cc k C sc o fo) (hi : FE S cc k C sc i fi) (he : FE S cc k C sc e fe) : FS S cc k C sc (.Assign [.Subscript o i q] e p) (sSetIx fo fi fe) := by
  intro W X c
  refine PS.imp (ps_asg (he W X c.toCtx) (pg_sub (ho W X c.toCtx) (hi W X c.toCtx) set_list (by intro v; cases i <;> first | rfl | (simp [noSlice] at hsl; done))) (by rw [show swapsWithSole [.Subscript o i q] e p.line X.env = swapsWith e (some (.Subscript o i q)) p.line X.env from by unfold swapsWithSole; rfl]; exact swap_no hn) (by unfold swappedStores; rfl) rfl) fun E σ H => ?_
  rintro ⟨env, st, ms, r, re, h⟩
  unfold sSetIx at h
  refine ⟨env, st, ms, r, re, EndS.val r re h fun d s1 v ms1 H1 x1 r1 p1 h1 => ?_⟩
  have re1 := re.ext x1 r
  refine ⟨env, s1, ms1, r1, re1, EndS.bind (P := pSV S) r1 re1 h1 fun x s2 u ms2 H2 x2 r2 p2 h2 => ?_⟩
  have re2 := re1.ext x2 r1
  refine ⟨env, s2, ms2, r2, re2, EndS.bind (P := pSV S) r2 re2 h2 fun y s3 w ms3 H3 x3 r3 p3 h3 => ?_⟩
  have re3 := re2.ext x3 r2
  split at h3
  · rename_i n kk
    have ew := rI_of p3
    subst ew
    split at h3
    · rename_i xs hs
      split at h3
      · rename_i hk
        have p2' : RepD S ms3 H3 u (.loc n) := RepSV.ext x3 r2 p2
        cases p2' with
        | loc hm =>
          rename_i la
          cases r3.look hm hs with
          | lst eH t =>
            rename_i vs
            refine ⟨la, vs, kk, kk.toNat, rfl, rfl, eH, ?_, ?_⟩
            · unfold ixN
              rw [t.length]
              have h0 : 0 ≤ kk := hk.1
              have h1 : kk < (xs.length : Int) := by omega
              simp [h0, h1]
            · have hmem := List.mem_of_getElem? hm
              exact h3 σ ms3 _ (.upd hmem) (lst_set r3 hm (t.set ((p1.ext x2 r1).ext x3 r2) kk.toNat)) (re3.ext (.upd hmem) r3)
      · exact h3.elim
    · exact h3.elim
  · exact h3.elim
/-- a body's end, the loop behind it -/
theorem fs_for {n : Nat} {tg it : Expr} {body : List Stmt} {fs : Esrc} {t : Tgt} {f : Es} (hns : noSet it = true) (hi : FI S cc k C sc tg it fs) (ht : cTgt n cc.N sc tg = some t) (hb : FSs S cc k C sc body f) : FS S cc k C sc (.For tg it body [] p) (sFor fs t f) := by
  intro W X c
  refine PS.imp (ps_for c.own c.calm (hi W X c.toCtx) (PG.or (pg_of c.K c.nd c.calm (tn_def c) n tg t (by rw [c.slots]; exact ht)) (pg_pair c.K c.nd c.calm (tn_def c) n tg t (by rw [c.slots]; exact ht))) (hb W X c) (fold_no hns)) fun E σ H => ?_
  rintro ⟨env, st, ms, r, re, h⟩
  unfold sFor at h
  refine ⟨env, st, ms, r, re, EndS.bind r re h fun p s1 J ms1 H1 x1 r1 pj h1 => ?_⟩
  obtain ⟨G, Y, wk, hG, hY⟩ := pj
  refine for_it (g := fun v σ H Q => gT S t v σ H Q ∨ gP S t v σ H Q) (tb := tS S W C f) wk (fun i σ H => ∃ env st ms, RepS S ms H st ∧ RepE S ms H σ env ∧ Ext ms1 H1 ms H ∧ EndS S W E ms H (forLoop C t f p.2 (p.1.drop i) env st)) ⟨env, s1, ms1, r1, re.ext x1 r, .refl, by simpa using h1⟩ ?_ ?_ ?_
  · rintro i σ H hi ⟨env, st, ms, rS, reS, x, hE⟩
    refine hG ms H st x rS ?_
    cases hp : p.1.drop i with
    | nil =>
      rw [hp] at hE
      unfold forLoop at hE
      split at hE
      · assumption
      · exact hE.elim
    | cons it rest =>
      rw [hp] at hE
      unfold forLoop at hE
      split at hE
      · assumption
      · exact hE.elim
  · rintro i x σ H H' hi ⟨env, st, ms, rS, reS, xE, hE⟩ hy
    have hp : p.1.drop i = p.1[i] :: p.1.drop (i + 1) := by rw [List.drop_eq_getElem_cons hi]
    rw [hp] at hE
    unfold forLoop at hE
    split at hE
    case isFalse => exact hE.elim
    rename_i hg
    have item := hY i H x H' ms st p.1[i] xE rS hg hy (List.getElem?_eq_getElem hi)
    split at hE
    · exact hE.elim
    · rename_i env1 hasg
      have cont : ∀ (H' : Hp) (σ1 : L2.St), Ext ms H ms H' → RepS S ms H' st → RepE S ms H' σ1 env1 →
          tS S W C f { E with nx := fun σ H => ∃ env st ms, RepS S ms H st ∧ RepE S ms H σ env ∧ Ext ms1 H1 ms H ∧ EndS S W E ms H (forLoop C t f p.2 (p.1.drop (i + 1)) env st), ct := fun σ H => ∃ env st ms, RepS S ms H st ∧ RepE S ms H σ env ∧ Ext ms1 H1 ms H ∧ EndS S W E ms H (forLoop C t f p.2 (p.1.drop (i + 1)) env st), bk := E.nx } σ1 H' := by
        intro H' σ1 xH rS' reE
        have hE' := EndS.from xH rS rS' hE
        refine ⟨env1, st, ms, rS', reE, ?_⟩
        cases hb : f C env1 st with
        | nx e2 s2 =>
          rw [hb] at hE'
          exact fun σ' ms' H'' x2 r2 re2 => ⟨e2, s2, ms', r2, re2, xE.trans rS (xH.trans rS' x2 rS) r1, EndS.from x2 rS' r2 hE'⟩
        | ct e2 s2 =>
          rw [hb] at hE'
          exact fun σ' ms' H'' x2 r2 re2 => ⟨e2, s2, ms', r2, re2, xE.trans rS (xH.trans rS' x2 rS) r1, EndS.from x2 rS' r2 hE'⟩
        | bk e2 s2 => rw [hb] at hE'; exact hE'
        | rt d s2 => rw [hb] at hE'; exact hE'
        | exc x e2 s2 => rw [hb] at hE'; exact hE'
        | bad => rw [hb] at hE'; exact hE'
      cases hit : p.1[i] with
      | one d =>
        rw [hit] at item hasg
        obtain ⟨rfl, rd⟩ := item
        exact .inl ⟨d, env, env1, ms, st, rS, reS, rd, hasg, fun σ1 re' hl' hk' => cont H' σ1 .refl rS re'⟩
      | two a b =>
        rw [hit] at item hasg
        obtain ⟨T, x1', x2', rfl, hT, rfl, ra, rb⟩ := item
        have sm : Same H (upd H T (.tup [x1', x2'])) := same_upd hT
        cases ht' : t with
        | nm j => rw [ht'] at hasg; cases hasg
        | tp ts =>
          rw [ht'] at hasg
          refine .inr ⟨T, x1', x2', a, b, ts, env, env1, ms, st, rfl, upd_same, rfl, rS.same sm, reS.ext (.same sm) rS, .cons (ra.same sm rS) (.cons (rb.same sm rS) .nil), hasg, fun σ1 re' hl' hk' => ?_⟩
          have q := cont _ σ1 (.same sm) (rS.same sm) re'
          rw [ht'] at q
          exact q
  · rintro σ H ⟨env, st, ms, rS, reS, x, hE⟩
    rw [List.drop_length] at hE
    unfold forLoop at hE
    split at hE
    · exact hE σ ms H .refl rS reS
    · exact hE.elim
theorem fs_while {c : Expr} {body : List Stmt} {t : Et} {f : Es} (hc : FT S cc k C sc c t) (hb : FSs S cc k C sc body f) : FS S cc k C sc (.While c body [] p) (sWhile t f) := by
  intro W X cx
  refine PS.imp (ps_while cx.own (hc W X cx.toCtx) (hb W X cx)) fun E σ H => ?_
  rintro ⟨env, st, ms, r, re, h⟩
  refine ⟨fun m σ H => ∃ env st ms, RepS S ms H st ∧ RepE S ms H σ env ∧ EndS S W E ms H (whileLoop C t f m env st), ⟨whileMost, env, st, ms, r, re, h⟩, ?_⟩
  rintro m σ H ⟨env, st, ms, r, re, h⟩
  cases m with
  | zero => exact h.elim
  | succ m =>
    unfold whileLoop at h
    refine ⟨env, st, ms, r, re, EndS.bind r re h fun b s1 v ms1 H1 x1 r1 p1 h1 => ?_⟩
    have p1 : v = b := p1
    subst p1
    cases v with
    | false => exact iteF (h1 σ ms1 H1 .refl r1 (re.ext x1 r))
    | true =>
      refine iteT ⟨fun σ H => ∃ env st ms, RepS S ms H st ∧ RepE S ms H σ env ∧ EndS S W E ms H (whileLoop C t f m env st), fun σ' H' q => ⟨m, Nat.lt_succ_self m, q⟩, env, s1, ms1, r1, re.ext x1 r, ?_⟩
      simp only [if_true] at h1
      cases hb : f C env s1 with
      | nx e2 s2 =>
        rw [hb] at h1
        exact fun σ' ms' H'' x2 r2 re2 => ⟨e2, s2, ms', r2, re2, EndS.from x2 r1 r2 h1⟩
      | ct e2 s2 =>
        rw [hb] at h1
        exact fun σ' ms' H'' x2 r2 re2 => ⟨e2, s2, ms', r2, re2, EndS.from x2 r1 r2 h1⟩
      | bk e2 s2 => rw [hb] at h1; exact h1
      | rt d s2 => rw [hb] at h1; exact h1
      | exc x e2 s2 => rw [hb] at h1; exact h1
      | bad => rw [hb] at h1; exact h1
/-- a class of exceptions of the text -/
structure XOk (S : Wd) (x : Str) (cs : List Str) : Prop where
  ex : ∃ A, S.xcls x = some A ∧ S.mg x = some (.ref A) ∧ PySem.W.keepIn S.K (.ref A) = true ∧ PySem.W.excIn S.K A [.type "ValueError", .type "Exception", .type "BaseException", .type "object"] "ValueError.__new__" = true ∧
    PySem.W.subIn S.K (.ref A) (.type "BaseException") = some true ∧ PySem.W.typeIn S.K (.ref A) = some (.type "type") ∧ ∀ y B, S.xcls y = some B → PySem.W.exmOne S.K (.ref B) (.ref A) = some (decide (y ∈ cs))
theorem fs_raise {x m : Str} {j : Nat} {cs : List Str} {p1 p2 p3 : Pos} (hg : glB sc x = true) (hp : plainName x = true) (hx : XOk S x cs) : FS S cc k C sc (.Raise (some (.Call (.Name x p1) [.Constant (.str m) j p2] [] p3)) none p) (sRaise x) := by
  intro W X c
  obtain ⟨A, h1, h2, h3, h4, h5, h6, _⟩ := hx.ex
  have mk := pmk_own (X := X) (x := x) (m := m) (j := j) (p := p1) (p2 := p2) (pos := p3) PySem.F.excBase_ValueError (by rw [c.K]; exact h4) (by rw [c.mg]; exact h2) (by rw [c.K]; exact h3) (raises_own (by rw [c.K]; exact h5) (by rw [c.K]; exact h6)) (gl_of c.toCtx hg) (plain_of hp).1
  refine PS.imp (ps_raise c.calm c.takes mk) fun E σ H => ?_
  rintro ⟨env, st, ms, r, re, h⟩
  exact h σ ms H _ _ .refl r re ⟨⟨A, h1, rfl⟩, .inl ⟨rfl, rfl⟩⟩
/-- a statement of an except suite -/
def FU (S : Wd) (s : Stmt) (f : Es) : Prop := ∀ W C X, PS X s (tS S W C f)
def FUs (S : Wd) (s : List Stmt) (f : Es) : Prop := ∀ W C X, PSs X s (tS S W C f)
theorem fus_one {s : Stmt} {f : Es} (h1 : FU S s f) : FUs S [s] f := fun W C X => pss_one (h1 W C X)
theorem fus_cons {s : Stmt} {r : List Stmt} {f g : Es} (h1 : FU S s f) (h2 : FUs S r g) : FUs S (s :: r) (sSeq f g) := fun W C X => PSs.imp (pss_cons (h1 W C X) (h2 W C X)) fun D σ H => seq_wish
theorem fus_nil : FUs S [] sNext := fun W C X => PSs.imp pss_nil fun D σ H => next_wish
theorem fu_pass : FU S (.Pass p) sNext := fun W C X => PS.imp ps_pass fun D σ H => next_wish
theorem fu_break : FU S (.Break p) sBreak := fun W C X => PS.imp ps_break fun D σ H => by
  rintro ⟨env, st, ms, r, re, h⟩
  exact h σ ms H .refl r re
theorem fu_cont : FU S (.Continue p) sCont := fun W C X => PS.imp ps_continue fun D σ H => by
  rintro ⟨env, st, ms, r, re, h⟩
  exact h σ ms H .refl r re
theorem fu_retB {j : Nat} {b : Bool} : FU S (.Return (some (.Constant (.bool b) j q)) p) (sRet (eC (.bl b))) := fun W C X => PS.imp (ps_ret pe_bl) fun D σ H => by
  rintro ⟨env, st, ms, r, re, h⟩
  exact h (.bl b) ms H .refl r (.bl b)
theorem fu_retC {j : Nat} : FU S (.Return (some (.Constant .none j q)) p) (sRet (eC .non)) := fun W C X => PS.imp (ps_ret pe_non) fun D σ H => by
  rintro ⟨env, st, ms, r, re, h⟩
  exact h .non ms H .refl r .non
theorem fs_try {x : Str} {cs : List Str} {body suite : List Stmt} {f g : Es} {np p1 : Pos} (hg : glB sc x = true) (hp : plainName x = true) (hx : XOk S x cs) (hne : suite ≠ []) (hb : FSs S cc k C sc body f) (hs : FUs S suite g) :
    FS S cc k C sc (.Try body [.ExceptHandler (some (.Name x np)) none suite p1] [] [] p) (sTry f cs g) := by
  intro W X c
  obtain ⟨A, h1, h2, h3, h4, h5, h6, h7⟩ := hx.ex
  cases suite with
  | nil => exact absurd rfl hne
  | cons b₀ suite =>
    refine PS.imp (ps_try_only (tb := fun W => tS S W C f) (ts := fun _ _ _ => tS S W C g) (c := .ref A) c.stk c.frm ⟨gl_of c.toCtx hg, (plain_of hp).1, .inl (by rw [c.mg]; exact h2)⟩ c.takes (fun W' pn xe tk po => ?_) fun a oe cls d pn _ _ => hs _ _ _) fun E σ H => ?_
    · refine hb W' (X.tr pn xe) ⟨⟨c.prog, c.w, c.K, c.mg, c.base, c.slots, c.nd, c.scope, c.calm, c.room, tk⟩, c.stk, c.frm, c.fnT, c.kind, po⟩
    · rintro ⟨env, st, ms, r, re, h⟩
      unfold sTry at h
      refine ⟨env, st, ms, r, re, ?_⟩
      cases hf : f C env st with
      | nx e1 s1 => rw [hf] at h; exact h
      | rt d s1 => rw [hf] at h; exact h
      | bk e1 s1 => rw [hf] at h; exact h
      | ct e1 s1 => rw [hf] at h; exact h
      | bad => rw [hf] at h; exact h
      | exc xx e1 s1 =>
        rw [hf] at h
        intro σ' ms' H' cv d x' r' re' px
        obtain ⟨⟨B, hB, rfl⟩, hfs⟩ := px
        refine ⟨decide (xx.cls ∈ cs), by rw [c.K]; exact h7 _ _ hB, fun hb => fun a ha => ?_, fun hb => ?_⟩
        · have hin : xx.cls ∈ cs := of_decide_eq_true hb
          simp only [hin, if_true] at h
          have h' := EndS.from x' r r' h
          exact ⟨e1, s1, ms', r', re', h'⟩
        · have hin : ¬ xx.cls ∈ cs := of_decide_eq_false hb
          simp only [hin, if_false] at h
          exact h σ' ms' H' _ d x' r' re' ⟨⟨B, hB, rfl⟩, hfs⟩
end
end Q


set_option linter.all false
set_option maxRecDepth 100000
set_option maxHeartbeats 4000000
set_option autoImplicit false
/-! Q15: what the compiler gives is right: expressions. -/
namespace Q
open PySem PySem.Spec PyProof.Rows L2 PySem.W
def SortSetOk (S : Wd) (cc : CC) (k : Nat) (C : Calls) : Prop := ∀ (sc : Scope) (a : Expr) (fa : Ev) (q q1 p p1 : Pos), glB sc "sorted" = true → glB sc "set" = true → S.mg "sorted" = none → S.mg "set" = none → noStar a = true → FE S cc k C sc a fa →
  FE S cc k C sc (.Call (.Name "sorted" q) [.Call (.Name "set" q1) [a] [] p1] [] p) (eOn gSortSet fa)
def LenSetOk (S : Wd) (cc : CC) (k : Nat) (C : Calls) : Prop := ∀ (sc : Scope) (a : Expr) (fa : Ev) (q q1 p p1 : Pos), glB sc "len" = true → glB sc "set" = true → S.mg "len" = none → S.mg "set" = none → noStar a = true → FE S cc k C sc a fa →
  FE S cc k C sc (.Call (.Name "len" q) [.Call (.Name "set" q1) [a] [] p1] [] p) (eOn gLenSet fa)
section
variable {S : Wd} {cc : CC} {k j : Nat} {C : Calls}
structure IH (S : Wd) (cc : CC) (k : Nat) (C : Calls) (n : Nat) : Prop where
  e : ∀ sc e f, cE n cc sc e = some f → FE S cc k C sc e f
  cmp : ∀ sc l op c p f, cCmp n cc sc l op c = some f → FT S cc k C sc (.Compare l [op] [c] p) f ∧ FE S cc k C sc (.Compare l [op] [c] p) (eTest f)
  t : ∀ sc e f, cT n cc sc e = some f → FT S cc k C sc e f
  ts : ∀ sc e f, cTs n cc sc e = some f → FTs S cc k C sc e f
  comp : ∀ sc elt tg it ifs scope f, cComp n cc sc elt tg it ifs scope = some f → ∃ fs t u fe, f = eComp ((ownOf cc.N scope).map (·.2)) fs t u fe ∧ CompOk S cc k C sc scope tg it ifs elt fs t u fe
  src : ∀ sc tg e f, cSrc n cc sc tg e = some f → FI S cc k C sc tg e f
  call : ∀ sc x args f q p, cCall n cc sc x args = some f → FE S cc k C sc (.Call (.Name x q) args [] p) f
  call1 : ∀ sc x a f q p, glB sc x = true → plainName x = true → cCall1 n cc sc x a = some f → FE S cc k C sc (.Call (.Name x q) [a] [] p) f
  call2 : ∀ sc x a b f q p, glB sc x = true → plainName x = true → cCall2 n cc sc x a b = some f → FE S cc k C sc (.Call (.Name x q) [a, b] [] p) f
  meth : ∀ sc o m args f q p, (q.endLine == p.line) = true → args.length < 30 → cMeth n cc sc o m args = some f → FE S cc k C sc (.Call (.Attribute o m q) args [] p) f
theorem both_some {α β γ : Type} {a : Option α} {b : Option β} {f : α → β → γ} {r : γ} (h : both a b f = some r) : ∃ x y, a = some x ∧ b = some y ∧ r = f x y := by
  unfold both at h
  split at h
  · cases h; exact ⟨_, _, rfl, rfl, rfl⟩
  · cases h
theorem goE_star {g : Expr → Option Ev} : ∀ {es : List Expr} {fs : List Ev}, goE g es = some fs → es.all noStar = true
  | [], _, _ => rfl
  | e :: es, fs, h => by
    unfold goE at h
    split at h
    · rename_i t ts h1 h2
      split at h
      · rename_i hn
        simp only [List.all_cons, hn, goE_star h2, Bool.and_self]
      · cases h
    · cases h
theorem goB_and {n : Nat} {sc : Scope} {p : Pos} (hE : ∀ e f, cE n cc sc e = some f → FE S cc k C sc e f) : ∀ {es : List Expr} {f : Ev}, goB (cE n cc sc) eAnd es = some f → FE S cc k C sc (.BoolOp .And es p) f
  | [], f, h => by simp [goB] at h
  | [e], f, h => by
    simp only [goB] at h
    exact fe_one (hE e f h)
  | e :: e' :: es, f, h => by
    simp only [goB] at h
    split at h
    · rename_i a b h1 h2
      cases h
      exact fe_and (hE e a h1) (goB_and hE (es := e' :: es) h2)
    · cases h
theorem goB_or {n : Nat} {sc : Scope} {p : Pos} (hE : ∀ e f, cE n cc sc e = some f → FE S cc k C sc e f) : ∀ {es : List Expr} {f : Ev}, goB (cE n cc sc) eOr es = some f → FE S cc k C sc (.BoolOp .Or es p) f
  | [], f, h => by simp [goB] at h
  | [e], f, h => by
    simp only [goB] at h
    exact fe_one (hE e f h)
  | e :: e' :: es, f, h => by
    simp only [goB] at h
    split at h
    · rename_i a b h1 h2
      cases h
      exact fe_or (hE e a h1) (goB_or hE (es := e' :: es) h2)
    · cases h
theorem goT_and {n : Nat} {sc : Scope} {p : Pos} (hT : ∀ e f, cT n cc sc e = some f → FT S cc k C sc e f) : ∀ {es : List Expr} {f : Et}, goBT (cT n cc sc) tAnd es = some f → FW S cc k C sc (.BoolOp .And es p) f
  | [], f, h => by simp [goBT] at h
  | [e], f, h => by
    simp only [goBT] at h
    exact fw_and1 (hT e f h)
  | e :: e' :: es, f, h => by
    simp only [goBT] at h
    split at h
    · rename_i a b h1 h2
      cases h
      exact fw_and (hT e a h1) (goT_and hT (es := e' :: es) h2)
    · cases h
theorem goT_or {n : Nat} {sc : Scope} {p : Pos} (hT : ∀ e f, cT n cc sc e = some f → FT S cc k C sc e f) : ∀ {es : List Expr} {f : Et}, goBT (cT n cc sc) tOr es = some f → FW S cc k C sc (.BoolOp .Or es p) f
  | [], f, h => by simp [goBT] at h
  | [e], f, h => by
    simp only [goBT] at h
    exact fw_or1 (hT e f h)
  | e :: e' :: es, f, h => by
    simp only [goBT] at h
    split at h
    · rename_i a b h1 h2
      cases h
      exact fw_or (hT e a h1) (goT_or hT (es := e' :: es) h2)
    · cases h
theorem mem_szl {α : Type} {l : List α} (h : l.length ≤ 1000) : l.length ≤ szl := by unfold szl; omega
theorem ih_e {n : Nat} (G : GOk S cc C j) (hj : j + 1 ≤ k) (ih : IH S cc k C n) : ∀ sc e f, cE (n + 1) cc sc e = some f → FE S cc k C sc e f := by
  intro sc e f h
  unfold cE at h
  split at h
  · -- a name
    split at h
    · rename_i hp
      split at h
      · rename_i hv
        simp only [Option.map_eq_some_iff] at h
        obtain ⟨i, hi, rfl⟩ := h
        exact fe_var hi hv hp
      · split at h
        · rename_i hg
          simp only [Option.map_eq_some_iff] at h
          obtain ⟨d, hd, rfl⟩ := h
          obtain ⟨u, v, h1, h2, h3⟩ := G.glb _ _ hd
          exact fe_glb hg hp h1 h2 h3
        · cases h
    · cases h
  · cases h; exact fe_int
  · cases h; exact fe_bool
  · cases h; exact fe_non
  · cases h; exact fe_str
  · split at h
    · rename_i ho
      obtain ⟨x, y, h1, h2, rfl⟩ := both_some h
      exact fe_bin ho (ih.e _ _ _ h1) (ih.e _ _ _ h2)
    · cases h
  · simp only [Option.map_eq_some_iff] at h
    obtain ⟨x, h1, rfl⟩ := h
    exact fe_neg (ih.e _ _ _ h1)
  · simp only [Option.map_eq_some_iff] at h
    obtain ⟨x, h1, rfl⟩ := h
    exact fe_not (ih.e _ _ _ h1)
  · exact goB_and (ih.e sc) h
  · exact goB_or (ih.e sc) h
  · simp only [Option.map_eq_some_iff] at h
    obtain ⟨x, h1, rfl⟩ := h
    exact (ih.cmp _ _ _ _ _ _ h1).2
  · split at h
    · rename_i hc
      simp only [Bool.and_eq_true, decide_eq_true_eq] at hc
      split at h
      · rename_i x y z h1 h2 h3
        cases h
        exact fe_chain hc.1.1.1 hc.1.1.2 hc.2 (ih.e _ _ _ h1) (ih.e _ _ _ h2) (ih.e _ _ _ h3)
      · cases h
    · cases h
  · split at h
    · rename_i x y z h1 h2 h3
      cases h
      exact fe_if (ih.t _ _ _ h1) (ih.e _ _ _ h2) (ih.e _ _ _ h3)
    · cases h
  · split at h
    · rename_i hl
      simp only [Option.map_eq_some_iff] at h
      obtain ⟨x, h1, rfl⟩ := h
      exact fe_tup (fa_of (fe_z (ih.e sc)) h1) (mem_szl hl) (goE_len h1)
    · cases h
  · split at h
    · rename_i hl
      simp only [Option.map_eq_some_iff] at h
      obtain ⟨x, h1, rfl⟩ := h
      exact fe_lst (fa_of (fe_z (ih.e sc)) h1) (mem_szl hl) (goE_len h1)
    · cases h
  · obtain ⟨fs, t, u, fe, rfl, ok⟩ := ih.comp _ _ _ _ _ _ _ h
    exact fe_comp ok
  · -- a slice
    split at h
    · rename_i x y z h1 h2 h3
      cases h
      have opt : ∀ {o : Option Expr} {g : Option Ev}, cOpt (cE n cc sc) o = some g → FO S cc k C sc o g := by
        intro o g ho
        cases o with
        | none => cases ho; exact fo_none
        | some e =>
          simp only [cOpt, Option.map_eq_some_iff] at ho
          obtain ⟨x, hx, rfl⟩ := ho
          exact fo_some (ih.e _ _ _ hx)
      exact fe_sl (ih.e _ _ _ h1) (opt h2) (opt h3)
    · cases h
  · split at h
    · rename_i hn
      obtain ⟨x, y, h1, h2, rfl⟩ := both_some h
      exact fe_ix hn (ih.e _ _ _ h1) (ih.e _ _ _ h2)
    · cases h
  · split at h
    · rename_i hb
      simp only [Bool.and_eq_true] at hb
      simp only [Option.map_eq_some_iff] at h
      obtain ⟨x, h1, rfl⟩ := h
      exact fe_fld hb.1 (ih.e _ _ _ h1) (fun c A hc => (G.fld _ hb.2 c A hc).1) (fun c A hc => (G.fld _ hb.2 c A hc).2)
    · cases h
  · exact ih.call _ _ _ _ _ _ h
  · split at h
    · rename_i hc
      simp only [Bool.and_eq_true, decide_eq_true_eq] at hc
      exact ih.meth _ _ _ _ _ _ _ hc.1 hc.2 h
    · cases h
  · cases h
theorem ih_cmp {n : Nat} (G : GOk S cc C j) (ih : IH S cc k C n) : ∀ sc l op c p f, cCmp (n + 1) cc sc l op c = some f → FT S cc k C sc (.Compare l [op] [c] p) f ∧ FE S cc k C sc (.Compare l [op] [c] p) (eTest f) := by
  intro sc l op c p f h
  unfold cCmp at h
  have mr := G.blt "range" (by simp)
  split at h
  · simp only [Option.map_eq_some_iff] at h
    obtain ⟨x, h1, rfl⟩ := h
    exact ⟨ft_isN (ih.e _ _ _ h1), fe_isN (ih.e _ _ _ h1)⟩
  · simp only [Option.map_eq_some_iff] at h
    obtain ⟨x, h1, rfl⟩ := h
    exact ⟨ft_notN (ih.e _ _ _ h1), fe_notN (ih.e _ _ _ h1)⟩
  · split at h
    · rename_i hc
      simp only [Bool.and_eq_true, beq_iff_eq, bltB] at hc
      obtain ⟨⟨rfl, hg⟩, hn⟩ := hc
      obtain ⟨x, y, h1, h2, rfl⟩ := both_some h
      exact ⟨ft_inR hg mr hn (ih.e _ _ _ h1) (ih.e _ _ _ h2), fe_inR hg mr hn (ih.e _ _ _ h1) (ih.e _ _ _ h2)⟩
    · split at h
      · rename_i ho
        obtain ⟨x, y, h1, h2, rfl⟩ := both_some h
        exact ⟨ft_cmp ho rfl (ih.e _ _ _ h1) (ih.e _ _ _ h2), fe_cmp ho rfl (ih.e _ _ _ h1) (ih.e _ _ _ h2)⟩
      · cases h
  · split at h
    · rename_i hc
      simp only [Bool.and_eq_true, beq_iff_eq, bltB] at hc
      obtain ⟨⟨rfl, hg⟩, hn⟩ := hc
      obtain ⟨x, y, h1, h2, rfl⟩ := both_some h
      exact ⟨ft_notInR hg mr hn (ih.e _ _ _ h1) (ih.e _ _ _ h2), fe_notInR hg mr hn (ih.e _ _ _ h1) (ih.e _ _ _ h2)⟩
    · split at h
      · rename_i ho
        obtain ⟨x, y, h1, h2, rfl⟩ := both_some h
        exact ⟨ft_cmp ho rfl (ih.e _ _ _ h1) (ih.e _ _ _ h2), fe_cmp ho rfl (ih.e _ _ _ h1) (ih.e _ _ _ h2)⟩
      · cases h
  · split at h
    · rename_i hc
      simp only [Bool.and_eq_true, decide_eq_true_eq] at hc
      obtain ⟨x, y, h1, h2, rfl⟩ := both_some h
      exact ⟨ft_cmp hc.1 hc.2 (ih.e _ _ _ h1) (ih.e _ _ _ h2), fe_cmp hc.1 hc.2 (ih.e _ _ _ h1) (ih.e _ _ _ h2)⟩
    · cases h
theorem ih_t {n : Nat} (ih : IH S cc k C n) : ∀ sc e f, cT (n + 1) cc sc e = some f → FT S cc k C sc e f := by
  intro sc e f h
  unfold cT at h
  split at h
  · simp only [Option.map_eq_some_iff] at h
    obtain ⟨x, h1, rfl⟩ := h
    exact ft_not (ih.t _ _ _ h1)
  · exact fw_ft (goT_and (ih.t sc) h)
  · exact fw_ft (goT_or (ih.t sc) h)
  · exact (ih.cmp _ _ _ _ _ _ h).1
  · split at h
    · rename_i hc
      simp only [Bool.and_eq_true, decide_eq_true_eq] at hc
      split at h
      · rename_i x y z h1 h2 h3
        cases h
        exact ft_chain hc.1.1.1 hc.1.1.2 hc.2 (ih.e _ _ _ h1) (ih.e _ _ _ h2) (ih.e _ _ _ h3)
      · cases h
    · cases h
  · cases h
  · cases h
  · rename_i n1 n2 n3 n4 n5 n6 n7
    simp only [Option.map_eq_some_iff] at h
    obtain ⟨x, h1, rfl⟩ := h
    refine ft_tru (ih.e _ _ _ h1) (fun x q e => n1 _ _ e) (fun o vs q e => ?_) (fun t x y q e => n7 _ _ _ _ e) (fun l o cs q e => n6 _ _ _ _ e)
    cases o with
    | And => exact n2 _ _ e
    | Or => exact n3 _ _ e
theorem ih_ts {n : Nat} (ih : IH S cc k C n) : ∀ sc e f, cTs (n + 1) cc sc e = some f → FTs S cc k C sc e f := by
  intro sc e f h
  unfold cTs at h
  split at h
  · cases h; exact fts_nil
  · exact fts_one (ih.t _ _ _ h)
  · cases h
theorem ih_comp {n : Nat} (ih : IH S cc k C n) : ∀ sc elt tg it ifs scope f, cComp (n + 1) cc sc elt tg it ifs scope = some f → ∃ fs t u fe, f = eComp ((ownOf cc.N scope).map (·.2)) fs t u fe ∧ CompOk S cc k C sc scope tg it ifs elt fs t u fe := by
  intro sc elt tg it ifs scope f h
  unfold cComp at h
  split at h
  · rename_i hc
    simp only [Bool.and_eq_true] at hc
    split at h
    · rename_i s t u e h1 h2 h3 h4
      split at h
      · rename_i hs
        cases h
        exact ⟨s, t, u, e, rfl, ⟨hc.1, hc.2, ih.src _ _ _ _ h1, ⟨n, h2⟩, ih.ts _ _ _ h3, fe_z (ih.e _) _ _ h4, hs⟩⟩
      · cases h
    · cases h
  · cases h
theorem ih_src {n : Nat} (G : GOk S cc C j) (ih : IH S cc k C n) : ∀ sc tg e f, cSrc (n + 1) cc sc tg e = some f → FI S cc k C sc tg e f := by
  intro sc tg e f h
  unfold cSrc at h
  split at h
  · split at h
    · rename_i hc
      simp only [Bool.and_eq_true, beq_iff_eq] at hc
      obtain ⟨hg, rfl⟩ := hc
      have mr := G.blt "range" (by simp)
      split at h
      · split at h
        · rename_i hn
          simp only [Option.map_eq_some_iff] at h
          obtain ⟨x, h1, rfl⟩ := h
          exact fi_range1 hg mr hn (ih.e _ _ _ h1)
        · cases h
      · split at h
        · rename_i hn
          simp only [Bool.and_eq_true] at hn
          obtain ⟨x, y, h1, h2, rfl⟩ := both_some h
          exact fi_range2 hg mr hn.1 hn.2 (ih.e _ _ _ h1) (ih.e _ _ _ h2)
        · cases h
      · split at h
        · rename_i hn
          simp only [Bool.and_eq_true] at hn
          obtain ⟨x, y, h1, h2, rfl⟩ := both_some h
          exact fi_down hg mr hn.1 hn.2 (ih.e _ _ _ h1) (ih.e _ _ _ h2)
        · cases h
      · cases h
    · split at h
      · rename_i hc
        simp only [Bool.and_eq_true, beq_iff_eq] at hc
        obtain ⟨hg, rfl⟩ := hc
        split at h
        · split at h
          · rename_i hn
            simp only [Option.map_eq_some_iff] at h
            obtain ⟨x, h1, rfl⟩ := h
            exact fi_enum hg (G.blt "enumerate" (by simp)) hn (ih.e _ _ _ h1)
          · cases h
        · cases h
      · split at h
        · rename_i hc
          simp only [Bool.and_eq_true, beq_iff_eq] at hc
          obtain ⟨hg, rfl⟩ := hc
          split at h
          · split at h
            · rename_i hn
              simp only [Bool.and_eq_true] at hn
              obtain ⟨x, y, h1, h2, rfl⟩ := both_some h
              exact fi_zip hg (G.blt "zip" (by simp)) hn.1 hn.2 (ih.e _ _ _ h1) (ih.e _ _ _ h2)
            · cases h
          · cases h
        · split at h
          · rename_i hc
            simp only [Bool.and_eq_true, beq_iff_eq] at hc
            obtain ⟨hg, rfl⟩ := hc
            split at h
            · split at h
              · rename_i hn
                simp only [Option.map_eq_some_iff] at h
                obtain ⟨x, h1, rfl⟩ := h
                exact fi_rev hg (G.blt "reversed" (by simp)) hn (ih.e _ _ _ h1)
              · cases h
            · cases h
          · simp only [Option.map_eq_some_iff] at h
            obtain ⟨x, h1, rfl⟩ := h
            exact fi_of (ih.e _ _ _ h1)
  · simp only [Option.map_eq_some_iff] at h
    obtain ⟨x, h1, rfl⟩ := h
    exact fi_of (ih.e _ _ _ h1)
theorem ih_call {n : Nat} (G : GOk S cc C j) (hj : j + 1 ≤ k) (ih : IH S cc k C n) : ∀ sc x args f q p, cCall (n + 1) cc sc x args = some f → FE S cc k C sc (.Call (.Name x q) args [] p) f := by
  intro sc x args f q p h
  unfold cCall at h
  split at h
  · cases h
  · rename_i hc
    have hc : glB sc x = true ∧ plainName x = true := by simpa using hc
    split at h
    · rename_i hf
      simp only [Option.map_eq_some_iff] at h
      obtain ⟨fs, h1, rfl⟩ := h
      obtain ⟨a, fd, ps, g1, g2, g3⟩ := G.fn x hf
      exact fe_call hc.1 hc.2 g1 g2 g3 (by omega) (goE_star h1) (goE_len h1) (fa_of (fe_z (ih.e sc)) h1)
    · split at h
      · rename_i init hcl
        simp only [Option.map_eq_some_iff] at h
        obtain ⟨fs, h1, rfl⟩ := h
        obtain ⟨A, a, fd, ps, g1, g2, g3, g4⟩ := G.cls x init hcl
        exact fe_new hc.1 hc.2 g1 g2 g3 g4 hj (goE_star h1) (goE_len h1) (fa_of (fe_z (ih.e sc)) h1)
      · split at h
        · exact ih.call1 _ _ _ _ _ _ hc.1 hc.2 h
        · exact ih.call2 _ _ _ _ _ _ _ hc.1 hc.2 h
        · cases h
theorem ih_call1 {n : Nat} (G : GOk S cc C j) (hs : SortSetOk S cc k C) (hl : LenSetOk S cc k C) (ih : IH S cc k C n) : ∀ sc x a f q p, glB sc x = true → plainName x = true → cCall1 (n + 1) cc sc x a = some f → FE S cc k C sc (.Call (.Name x q) [a] [] p) f := by
  intro sc x a f q p hg hp h
  unfold cCall1 at h
  split at h
  · rename_i b hb
    unfold setArg at hb
    split at hb
    · rename_i y q1 b' p1
      split at hb
      · rename_i hc
        cases hb
        simp only [Bool.and_eq_true, beq_iff_eq] at hc
        obtain ⟨⟨rfl, hgs⟩, hn⟩ := hc
        split at h
        · rename_i hx
          simp only [beq_iff_eq] at hx
          subst hx
          simp only [Option.map_eq_some_iff] at h
          obtain ⟨g, h1, rfl⟩ := h
          exact hs _ _ _ _ _ _ _ hg hgs (G.blt "sorted" (by simp)) (G.blt "set" (by simp)) hn (ih.e _ _ _ h1)
        · split at h
          · rename_i hx
            simp only [beq_iff_eq] at hx
            subst hx
            simp only [Option.map_eq_some_iff] at h
            obtain ⟨g, h1, rfl⟩ := h
            exact hl _ _ _ _ _ _ _ hg hgs (G.blt "len" (by simp)) (G.blt "set" (by simp)) hn (ih.e _ _ _ h1)
          · cases h
      · cases hb
    · cases hb
  · split at h
    · cases h
    · rename_i hn
      have hn : noStar a = true := by simpa using hn
      rw [Option.bind_eq_some_iff] at h
      obtain ⟨g, hgf, h⟩ := h
      simp only [Option.map_eq_some_iff] at h
      obtain ⟨fa, h1, rfl⟩ := h
      have ha := ih.e _ _ _ h1
      unfold fun1 at hgf
      split at hgf
      · rename_i hx; simp only [beq_iff_eq] at hx; subst hx; cases hgf; exact fe_len hg (G.blt "len" (by simp)) hn ha
      · split at hgf
        · rename_i hx; simp only [beq_iff_eq] at hx; subst hx; cases hgf; exact fe_sorted hg (G.blt "sorted" (by simp)) hn ha
        · split at hgf
          · rename_i hx; simp only [beq_iff_eq] at hx; subst hx; cases hgf; exact fe_abs hg (G.blt "abs" (by simp)) hn ha
          · split at hgf
            · rename_i hx; simp only [beq_iff_eq] at hx; subst hx; cases hgf; exact fe_cint hg (G.blt "int" (by simp)) hn ha
            · split at hgf
              · rename_i hx; simp only [beq_iff_eq] at hx; subst hx; cases hgf; exact fe_all hg (G.blt "all" (by simp)) hn ha
              · split at hgf
                · rename_i hx; simp only [beq_iff_eq] at hx; subst hx; cases hgf; exact fe_sum hg (G.blt "sum" (by simp)) hn ha
                · split at hgf
                  · rename_i hx; simp only [beq_iff_eq] at hx; subst hx; cases hgf; exact fe_tuple hg (G.blt "tuple" (by simp)) hn ha
                  · split at hgf
                    · rename_i hx; simp only [beq_iff_eq] at hx; subst hx; cases hgf; exact fe_list hg (G.blt "list" (by simp)) hn ha
                    · cases hgf
theorem ih_call2 {n : Nat} (G : GOk S cc C j) (ih : IH S cc k C n) : ∀ sc x a b f q p, glB sc x = true → plainName x = true → cCall2 (n + 1) cc sc x a b = some f → FE S cc k C sc (.Call (.Name x q) [a, b] [] p) f := by
  intro sc x a b f q p hg hp h
  unfold cCall2 at h
  split at h
  · cases h
  · rename_i hn
    have hn : noStar a = true := by simpa using hn
    split at h
    · rename_i hx
      simp only [beq_iff_eq] at hx
      subst hx
      split at h
      · rename_i t ht
        unfold tyArg at ht
        split at ht
        · split at ht
          · rename_i hc
            cases ht
            simp only [Bool.and_eq_true, decide_eq_true_eq] at hc
            simp only [Option.map_eq_some_iff] at h
            obtain ⟨fa, h1, rfl⟩ := h
            refine fe_isa hc.2 hg hc.1 (G.blt "isinstance" (by simp)) ?_ hn (ih.e _ _ _ h1)
            have := hc.2
            unfold isaTypes at this
            refine G.blt _ ?_
            simp only [List.mem_cons, List.not_mem_nil, or_false] at this ⊢
            rcases this with h | h | h | h | h <;> simp [h]
          · cases ht
        · cases ht
      · cases h
    · split at h
      · cases h
      · rename_i hn2
        have hn2 : noStar b = true := by simpa using hn2
        split at h
        · rename_i hx
          simp only [beq_iff_eq] at hx
          subst hx
          obtain ⟨x, y, h1, h2, rfl⟩ := both_some h
          exact fe_max2 hg (G.blt "max" (by simp)) hn hn2 (ih.e _ _ _ h1) (ih.e _ _ _ h2)
        · split at h
          · rename_i hx
            simp only [beq_iff_eq] at hx
            subst hx
            obtain ⟨x, y, h1, h2, rfl⟩ := both_some h
            exact fe_min2 hg (G.blt "min" (by simp)) hn hn2 (ih.e _ _ _ h1) (ih.e _ _ _ h2)
          · cases h
theorem ih_meth {n : Nat} (G : GOk S cc C j) (hj : j + 1 ≤ k) (ih : IH S cc k C n) : ∀ sc o m args f q p, (q.endLine == p.line) = true → args.length < 30 → cMeth (n + 1) cc sc o m args = some f → FE S cc k C sc (.Call (.Attribute o m q) args [] p) f := by
  intro sc o m args f q p hline hlen h
  unfold cMeth at h
  split at h
  · cases h
  · rename_i hb
    have hb : baseB o = true := by simpa using hb
    split at h
    · rename_i hx
      simp only [beq_iff_eq] at hx
      subst hx
      split at h
      · split at h
        · rename_i hn
          obtain ⟨x, y, h1, h2, rfl⟩ := both_some h
          exact fe_append hb hline hn (ih.e _ _ _ h1) (fe_z (ih.e _) _ _ h2)
        · cases h
      · cases h
    · split at h
      · rename_i hx
        simp only [beq_iff_eq] at hx
        subst hx
        split at h
        · split at h
          · rename_i hn
            obtain ⟨x, y, h1, h2, rfl⟩ := both_some h
            exact fe_extend hb hline hn (ih.e _ _ _ h1) (ih.e _ _ _ h2)
          · cases h
        · cases h
      · split at h
        · rename_i hx
          simp only [beq_iff_eq] at hx
          subst hx
          split at h
          · split at h
            · rename_i hn
              obtain ⟨x, y, h1, h2, rfl⟩ := both_some h
              exact fe_index hb hline hn (ih.e _ _ _ h1) (ih.e _ _ _ h2)
            · cases h
          · cases h
        · split at h
          · rename_i hx
            simp only [beq_iff_eq] at hx
            subst hx
            split at h
            · simp only [Option.map_eq_some_iff] at h
              obtain ⟨x, h1, rfl⟩ := h
              exact fe_pop hb hline (ih.e _ _ _ h1)
            · cases h
          · obtain ⟨x, y, h1, h2, rfl⟩ := both_some h
            exact fe_meth hb hline G.meth (by omega) (goE_star h2) (goE_len h2) hlen (ih.e _ _ _ h1) (fa_of (fe_z (ih.e sc)) h2)
theorem ih_all (G : GOk S cc C j) (hj : j + 1 ≤ k) (hs : SortSetOk S cc k C) (hl : LenSetOk S cc k C) : ∀ n, IH S cc k C n
  | 0 => ⟨fun _ _ _ h => by simp [cE] at h, fun _ _ _ _ _ _ h => by simp [cCmp] at h, fun _ _ _ h => by simp [cT] at h, fun _ _ _ h => by simp [cTs] at h, fun _ _ _ _ _ _ _ h => by simp [cComp] at h, fun _ _ _ _ h => (by cases (show (none : Option Esrc) = some _ from h)),
      fun _ _ _ _ _ _ h => by simp [cCall] at h, fun _ _ _ _ _ _ _ _ h => by simp [cCall1] at h, fun _ _ _ _ _ _ _ _ _ h => by simp [cCall2] at h, fun _ _ _ _ _ _ _ _ _ h => by simp [cMeth] at h⟩
  | n + 1 => by
    have ih := ih_all G hj hs hl n
    exact ⟨ih_e G hj ih, ih_cmp G ih, ih_t ih, ih_ts ih, ih_comp ih, ih_src G ih, ih_call G hj ih, ih_call1 G hs hl ih, ih_call2 G ih, ih_meth G hj ih⟩
end
end Q


set_option linter.all false
set_option maxRecDepth 100000
set_option maxHeartbeats 4000000
set_option autoImplicit false
/-! Q16: what the compiler gives is right: statements, defs. -/
namespace Q
open PySem PySem.Spec PyProof.Rows L2 PySem.W
section
variable {S : Wd} {cc : CC} {k j : Nat} {C : Calls}
theorem goS_of {f : Stmt → Option Es} {sc : Scope} (hS : ∀ s g, f s = some g → FS S cc k C sc s g) : ∀ {ss : List Stmt} {g : Es}, goS f ss = some g → FSs S cc k C sc ss g
  | [], g, h => by simp [goS] at h; subst h; exact fss_nil
  | [s], g, h => by simp only [goS] at h; exact fss_one (hS s g h)
  | s :: s' :: r, g, h => by
    simp only [goS] at h
    split at h
    · rename_i a b h1 h2
      cases h
      exact fss_cons (hS s a h1) (goS_of hS (ss := s' :: r) h2)
    · cases h
theorem cSu_ok {s : Stmt} {g : Es} (h : cSu s = some g) : FU S s g := by
  unfold cSu at h
  split at h
  · cases h; exact fu_pass
  · cases h; exact fu_break
  · cases h; exact fu_cont
  · cases h; exact fu_retB
  · cases h; exact fu_retC
  · cases h
theorem goU_of : ∀ {ss : List Stmt} {g : Es}, goS cSu ss = some g → FUs S ss g
  | [], g, h => by simp [goS] at h; subst h; exact fus_nil
  | [s], g, h => by simp only [goS] at h; exact fus_one (cSu_ok h)
  | s :: s' :: r, g, h => by
    simp only [goS] at h
    split at h
    · rename_i a b h1 h2
      cases h
      exact fus_cons (cSu_ok h1) (goU_of (ss := s' :: r) h2)
    · cases h
theorem cS_ok (G : GOk S cc C j) (GX : ∀ x cs, cc.exc x = some cs → XOk S x cs) (ih : ∀ n, IH S cc k C n) : ∀ n sc s f, cS n cc sc s = some f → FS S cc k C sc s f
  | 0, sc, s, f, h => by simp [cS] at h
  | n + 1, sc, s, f, h => by
    have iS := cS_ok G GX ih n sc
    unfold cS at h
    split at h
    · cases h; exact fs_pass
    · cases h; exact fs_break
    · cases h; exact fs_cont
    · cases h; exact fs_doc
    · split at h
      · rename_i hn
        simp only [Option.map_eq_some_iff] at h
        obtain ⟨x, h1, rfl⟩ := h
        exact fs_expr hn ((ih n).e _ _ _ h1)
      · cases h
    · cases h; exact fs_retN
    · simp only [Option.map_eq_some_iff] at h
      obtain ⟨x, h1, rfl⟩ := h
      exact fs_ret ((ih n).e _ _ _ h1)
    · split at h
      · rename_i t a b h1 h2 h3
        cases h
        exact fs_if ((ih n).t _ _ _ h1) (goS_of iS h2) (goS_of iS h3)
      · cases h
    · split at h
      · rename_i t a h1 h2
        cases h
        exact fs_while ((ih n).t _ _ _ h1) (goS_of iS h2)
      · cases h
    · split at h
      · rename_i hns
        split at h
        · rename_i s t a h1 h2 h3
          cases h
          exact fs_for hns ((ih n).src _ _ _ _ h1) h2 (goS_of iS h3)
        · cases h
      · cases h
    · split at h
      · split at h
        · rename_i hs
          obtain ⟨i, g, h1, h2, rfl⟩ := both_some h
          obtain ⟨fs, t, u, fe, rfl, ok⟩ := (ih n).comp _ _ _ _ _ _ _ h2
          exact fs_setC hs h1 ok
        · cases h
      · split at h
        · rename_i hn
          simp only [Bool.and_eq_true] at hn
          obtain ⟨i, g, h1, h2, rfl⟩ := both_some h
          refine fs_set hn.1 hn.2 h1 ?_
          split at h2
          · exact (ih n).e _ _ _ h2
          · exact fe_z ((ih n).e sc) _ _ h2
        · cases h
    · split at h
      · rename_i x y ht
        split at h
        · rename_i hc
          simp only [Bool.and_eq_true, decide_eq_true_eq] at hc
          split at h
          · rename_i i j a b h1 h2 h3 h4
            split at h
            · rename_i hij
              cases h
              exact fs_par ht hc.1.1.1 hc.1.1.2 hc.1.2 hc.2 h1 h2 hij ((ih n).e _ _ _ h3) ((ih n).e _ _ _ h4)
            · cases h
          · cases h
        · cases h
      · cases h
    · split at h
      · rename_i hn
        simp only [Bool.and_eq_true] at hn
        obtain ⟨t, g, h1, h2, rfl⟩ := both_some h
        exact fs_asg hn.1 hn.2 h1 ((ih n).e _ _ _ h2)
      · cases h
    · split at h
      · rename_i hn
        simp only [Bool.and_eq_true] at hn
        obtain ⟨t, g, h1, h2, rfl⟩ := both_some h
        exact fs_fld hn.1.1 hn.1.2 (fun c A hc => G.fld _ hn.2 c A hc) ((ih n).e _ _ _ h1) ((ih n).e _ _ _ h2)
      · cases h
    · split at h
      · rename_i hn
        simp only [Bool.and_eq_true] at hn
        split at h
        · rename_i o i e h1 h2 h3
          cases h
          exact fs_setIx hn.1 hn.2 ((ih n).e _ _ _ h1) ((ih n).e _ _ _ h2) ((ih n).e _ _ _ h3)
        · cases h
      · cases h
    · split at h
      · rename_i hn
        simp only [Bool.and_eq_true] at hn
        split at h
        · rename_i cs hx
          cases h
          exact fs_raise hn.1 hn.2 (GX _ _ hx)
        · cases h
      · cases h
    · split at h
      · rename_i hn
        simp only [Bool.and_eq_true, Bool.not_eq_true'] at hn
        split at h
        · rename_i cs b u hx h1 h2
          cases h
          exact fs_try hn.1.1 hn.1.2 (GX _ _ hx) (by rintro rfl; exact absurd hn.2 (by simp)) (goS_of iS h1) (goU_of h2)
        · cases h
      · cases h
    · cases h
/-- the slots at a def's start -/
theorem start_rep {ms : List Addr} {H : Hp} {n : Nat} {vs : List V} {ds : List D} (t : RepDs S ms H vs ds) : RepE S ms H (vs.map some ++ List.replicate n none) (ds.map some ++ List.replicate n none) := by
  refine ⟨by simp [t.length], fun i d e => ?_⟩
  by_cases hi : i < ds.length
  · rw [List.getElem?_append_left (by simpa using hi), List.getElem?_map] at e
    rw [List.getElem?_append_left (by simpa [t.length] using hi), List.getElem?_map]
    obtain ⟨x, hx, e2⟩ := Option.map_eq_some_iff.mp e
    cases e2
    obtain ⟨v, hv, r⟩ := t.get hx
    exact ⟨v, by rw [hv]; rfl, r⟩
  · rw [List.getElem?_append_right (by simpa using hi)] at e
    rw [List.getElem?_replicate] at e
    split at e <;> cases e
end

/-- a def's standing facts -/
structure DI where
  x : Str
  qual : Str
  params : Arguments
  body : List Stmt
  scope : Scope
  a : Addr
  fd : FuncData
  N : List Str
  ps : List Str
  g : Es
/-- a program of defs, as it stands behind the top -/
structure PrgOk (S : Wd) (cc : CC) (P : Prg) (T : Str → Option DI) : Prop where
  tab : ∀ f i, T f = some i → FunD S.K i.x i.qual i.params i.body i.scope [] [] i.a i.fd ∧ Binds S.K i.fd i.ps [] ∧ FnScope i.N i.ps i.scope ∧ i.ps.length ≤ i.N.length ∧ P.fn f = some ⟨i.ps.length, i.N.length, i.g⟩ ∧ goS (cS fuel { cc with N := i.N } i.scope) i.body = some i.g
  fn : ∀ x, cc.fn x = true → ∃ i, T x = some i ∧ S.mg x = some (.ref i.a) ∧ PySem.W.keepIn S.K (.ref i.a) = true
  cls : ∀ x init, cc.cls x = some init → ∃ A i, T init = some i ∧ S.cls x = some A ∧ S.mg x = some (.ref A) ∧ Mk S.K A i.a
  meth : ∀ c m f, P.meth c m = some f → ∃ A i, T f = some i ∧ S.cls c = some A ∧ Cls S.K A ∧ Meth S.K A m i.a
  glb : ∀ x d, cc.glb x = some d → ∃ u v, S.mg x = some u ∧ RelV v u ∧ ∀ ms H, RepD S ms H v d
  blt : ∀ x ∈ (["range", "enumerate", "zip", "reversed", "len", "set", "sorted", "abs", "int", "all", "sum", "tuple", "list", "isinstance", "max", "min", "bool", "str"] : List Str), S.mg x = none
  fld : ∀ f, cc.fld f = true → ∀ c A, S.cls c = some A → Cls S.K A ∧ NoAttr S.K A f
  exc : ∀ x cs, cc.exc x = some cs → XOk S x cs
def SetsOk (S : Wd) : Prop := ∀ cc k C, SortSetOk S cc k C ∧ LenSetOk S cc k C
section
variable {S : Wd} {cc : CC} {P : Prg} {T : Str → Option DI}
theorem run_meth (P : Prg) : ∀ k, (run P k).meth = P.meth
  | 0 => rfl
  | _ + 1 => rfl
theorem run_call (P : Prg) (k : Nat) (f : Str) (d : FnD) (h : P.fn f = some d) (args : List D) (st : Store) : (run P (k + 1)).call f args st = trunc st (callF d (run P k) args st) := by
  show (match P.fn f with
    | some d => trunc st (callF d (run P k) args st)
    | none => .bad) = _
  rw [h]
/-- EVERY DEF DOES WHAT IS RECKONED, at every depth -/
theorem lvl (O : PrgOk S cc P T) (hs : SetsOk S) : ∀ k f i, T f = some i → FnI S (run P k) (2 * k) f i.a i.fd i.ps
  | 0, f, i, h => by
    refine ⟨⟨fun vs H Q E q => ?_, fun A outer s H args us vs Q E hr he hb hv q => ?_⟩, (O.tab f i h).2.1⟩
    · obtain ⟨_, _, _, _, _, z⟩ := q
      exact False.elim z
    · obtain ⟨_, _, _, _, _, z⟩ := q
      exact False.elim z
  | k + 1, f, i, h => by
    obtain ⟨t1, t2, t3, t4, t5, t6⟩ := O.tab f i h
    have G : GOk S { cc with N := i.N } (run P k) (2 * k) := {
      fn := fun x hx => by
        obtain ⟨i', e1, e2, e3⟩ := O.fn x hx
        exact ⟨i'.a, i'.fd, i'.ps, e2, e3, lvl O hs k x i' e1⟩
      cls := fun x init hx => by
        obtain ⟨A, i', e1, e2, e3, e4⟩ := O.cls x init hx
        exact ⟨A, i'.a, i'.fd, i'.ps, e2, e3, e4, lvl O hs k init i' e1⟩
      meth := fun c m f' hx => by
        rw [run_meth] at hx
        obtain ⟨A, i', e1, e2, e3, e4⟩ := O.meth c m f' hx
        exact ⟨A, i'.a, i'.fd, i'.ps, e2, e3, e4, lvl O hs k f' i' e1⟩
      glb := O.glb
      blt := O.blt
      fld := O.fld }
    have body := goS_of (k := 2 * k + 1) (cS_ok G (fun x cs hx => O.exc x cs hx) (fun n => ih_all (k := 2 * k + 1) G (Nat.le_refl _) (hs _ _ _).1 (hs _ _ _).2 n) fuel i.scope) t6
    have endOf : ∀ {ms : List Addr} {H : Hp} {st : Store} {ds : List D} {Q : VK} {E : XK}, RepS S ms H st → EndG S (fun c d _ H => E c d H) [] ms H (pSV S) Q ((run P (k + 1)).call f ds st) →
        ds.length = i.ps.length ∧ EndS S (fun c d _ H => E c d H) { nx := fun _ H' => Q .non H', rt := Q } ms H (i.g (run P k) (ds.map some ++ List.replicate (i.N.length - i.ps.length) none) st) := by
      intro ms H st ds Q E r q
      rw [run_call P k f _ t5] at q
      have q := EndG.trunc r q
      unfold callF at q
      split at q
      · rename_i hl
        refine ⟨hl, ?_⟩
        dsimp only at q
        cases hg : i.g (run P k) (ds.map some ++ List.replicate (i.N.length - i.ps.length) none) st with
        | nx e s1 =>
          rw [hg] at q
          exact fun σ' ms' H' x rs re => q .non ms' H' x rs .non
        | rt d s1 => rw [hg] at q; exact q
        | exc x e s1 =>
          rw [hg] at q
          exact fun σ' ms' H' c d x' rs re px => q ms' H' c d x' rs px
        | bk e s1 => rw [hg] at q; exact q.elim
        | ct e s1 => rw [hg] at q; exact q.elim
        | bad => rw [hg] at q; exact q.elim
      · exact q.elim
    refine ⟨FunD.ok (N := i.N) (k := 2 * k + 1) t1 t3 (fun vs H Q E q => ?_) fun cdv A outer s H vs Q E hr q => ?_, t2⟩
    · obtain ⟨ms, st, ds, r, t, q⟩ := q
      rw [t.length]
      exact (endOf r q).1
    · obtain ⟨ms, st, ds, r, t, q⟩ := q
      obtain ⟨hl, q⟩ := endOf r q
      refine ⟨_, body (fun c d _ H => E c d H) _ ⟨⟨rfl, rfl, rfl, rfl, rfl, rfl, t3.nd, rfl, rfl, hr, takes_of rfl rfl rfl rfl⟩, rfl, rfl, fun _ => rfl, t3.kind, passes_of rfl⟩, ?_⟩
      refine ⟨_, st, ms, r, ?_, q⟩
      unfold L2.start
      rw [t.length, hl]
      exact start_rep t
end
end Q


set_option linter.all false
set_option maxRecDepth 100000
set_option maxHeartbeats 4000000
set_option autoImplicit false
/-! Q17: set(x), whatever is told of the set by an invariant of ours. -/
namespace Q
open PySem PySem.Spec PyProof.Rows L2 PySem.W
def emptySet (w : World) : Obj := { cls := .type "set", dict := none, data := .set #[] 0 (.fresh 0 0 (!w.params.followText "set-order")) }
section
variable {P : Program} {w : World} {A : Around} {E : Value → Shared → Prop} {s : Shared}
theorem units4 (A : Around) : A.in1.in1.in1.units ≤ A.units + 4 := by
  show A.units + 1 + 1 + 1 ≤ A.units + 4
  exact Nat.le_succ _
/-- the loop behind set(x) -/
theorem set_loop {I : Addr} {fp wr : List Addr} {G : Array GenState → Array GenState → Prop} {n : Nat} {Pv : Nat → Value → Prop} {St : Nat → Shared → Prop} {R : Result → Shared → Prop}
    (W : WalksS P w A.in1 I fp wr G n Pv St) (S : Addr) (hSf : S ∉ fp) (h0 : Heap) (hw0 : ∀ b ∈ wr, h0.get? b = none) (hS0 : h0.get? S = none) (J : Nat → Heap → Prop)
    (jkeep : ∀ i h h', J i h → (∀ o, h.get? S = some o → h'.get? S = some o) → (∀ b o, h0.get? b = some o → h'.get? b = some o) → J i h')
    (jadd : ∀ (i : Nat) (v : Value) (s : Shared) (E : Value → Shared → Prop) (Q : Bool → Shared → Prop), i < n → Pv i v → J i s.heap → (∀ b o, h0.get? b = some o → s.heap.get? b = some o) →
      (∀ b h' tk, s.toks ≤ tk → Heap.SameBut S s.heap h' → J (i + 1) h' → Q b { s with heap := h', toks := tk }) → wpAny (model P w) A.in1 (setAdd S v) Q E s) :
    ∀ (k i : Nat) (s : Shared), n - i = k → i ≤ n → St i s → (∀ b o, h0.get? b = some o → s.heap.get? b = some o) → J i s.heap →
      (∀ s', Moved (S :: wr) G s s' → J n s'.heap → (∀ b o, h0.get? b = some o → s'.heap.get? b = some o) → R (.ok (.ret .none)) s') →
      codeAny (model P w) A (.builtin "set.update.loop" ⟨[.ref S, .ref I], []⟩) R s := by
  have hSw : S ∉ wr := fun h => hSf (W.sub _ h)
  have hsub : ∀ b ∈ wr, b ∈ S :: wr := fun b hb => List.mem_cons_of_mem _ hb
  have keepM : ∀ {s s' : Shared}, Moved wr G s s' → (∀ b o, h0.get? b = some o → s.heap.get? b = some o) → ∀ b o, h0.get? b = some o → s'.heap.get? b = some o := fun hm hk b o e =>
    hm.heap b o (fun hb => by rw [hw0 b hb] at e; cases e) (hk b o e)
  intro k
  induction k with
  | zero =>
    intro i s hk hi hst hkp hJ hR
    obtain rfl : i = n := by omega
    refine codeAny_builtin PyProof.Rows.F.entry_set_update_loop ?_
    rw [Around.under_plainId PyProof.Rows.F.plain_set_update_loop _]
    show wpAny _ A.in1 (pyNext (.ref I) >>= _) _ _ s
    refine wpAny_bind (W.done s _ _ hst fun s' hm => ?_)
    show wpAny _ A.in1 (ret Value.none) _ _ s'
    exact wpAny_pure (hR s' (hm.mono hsub) (jkeep _ _ _ hJ (fun o e => hm.heap S o hSw e) (keepM hm hkp)) (keepM hm hkp))
  | succ k ih =>
    intro i s hk hi hst hkp hJ hR
    have hlt : i < n := by omega
    refine codeAny_builtin PyProof.Rows.F.entry_set_update_loop ?_
    rw [Around.under_plainId PyProof.Rows.F.plain_set_update_loop _]
    show wpAny _ A.in1 (pyNext (.ref I) >>= _) _ _ s
    refine wpAny_bind (W.item i s _ _ hlt hst fun v s' hP hst' hm => ?_)
    have hkp' := keepM hm hkp
    have hJ' := jkeep _ _ _ hJ (fun o e => hm.heap S o hSw e) hkp'
    show wpAny _ A.in1 (holding [v] (setAdd S v) >>= _) _ _ s'
    refine wpAny_bind (wpAny_holding (jadd i v s' _ _ hlt hP hJ' hkp' fun b h' tk htk hsb hJ2 => ?_))
    have hkp2 : ∀ b o, h0.get? b = some o → h'.get? b = some o := fun b o e => (hsb.2 b (fun z => by rw [z, hS0] at e; cases e)).trans (hkp' b o e)
    refine wpAny_pure ⟨plainId_quiet PyProof.Rows.F.plain_set_update_loop _, ih (i + 1) _ (by omega) hlt (W.frame _ s' _ _ hst' htk fun b hb o e => ?_) hkp2 hJ2 fun s'' hm'' hJ3 hk3 => ?_⟩
    · rw [hsb.2 b (fun h : b = S => hSf (by rw [← h]; exact hb))]; exact e
    · refine hR s'' (Moved.trans W.gtrans ((hm.mono hsub).then_heap htk fun b o hb e => ?_) hm'') hJ3 hk3
      rw [hsb.2 b (fun h : b = S => hb (by rw [h]; exact List.mem_cons_self))]; exact e

set_option maxRecDepth 100000 in
set_option maxHeartbeats 3200000 in
/-- set(x), x a list -/
theorem call_set_listJ {l : Addr} {items : Array Value} {Q : Value → Shared → Prop} (hh : A.handled = none) (hl : s.heap.IsList l items) (J : Nat → Heap → Prop)
    (j0 : ∀ h, h.get? s.heap.objs.size = some (emptySet w) → (∀ b o, s.heap.get? b = some o → h.get? b = some o) → J 0 h)
    (jkeep : ∀ i h h', J i h → (∀ o, h.get? s.heap.objs.size = some o → h'.get? s.heap.objs.size = some o) → (∀ b o, s.heap.get? b = some o → h'.get? b = some o) → J i h')
    (jadd : ∀ (A' : Around) (i : Nat) (v : Value) (s' : Shared) (E : Value → Shared → Prop) (Q : Bool → Shared → Prop), A'.units ≤ A.units + 4 → i < items.size → items[i]? = some v → J i s'.heap → (∀ b o, s.heap.get? b = some o → s'.heap.get? b = some o) →
      (∀ b h' tk, s'.toks ≤ tk → Heap.SameBut s.heap.objs.size s'.heap h' → J (i + 1) h' → Q b { s' with heap := h', toks := tk }) → wpAny (model P w) A' (setAdd s.heap.objs.size v) Q E s')
    (h : ∀ (h' : Heap) (tk : Nat), J items.size h' → (∀ b o, s.heap.get? b = some o → h'.get? b = some o) → Q (.ref s.heap.objs.size) { s with heap := h', toks := tk }) :
    wpAny (model P w) A (call (.type "set") [.ref l]) Q E s := by
  obtain ⟨c, tl, hmro⟩ := F.called_set.mro
  have hmade := F.called_set.made
  have hsub := F.called_set.sub
  refine wpAny_call (codeAny_of_tree ?_)
  show wpAny _ _ (callAny (.type "set") _) _ _ _
  refine wpAny_pure ⟨Code.quiet_builtin _ (by decide +kernel), codeAny_builtin F.entry_type_call ?_⟩
  rw [Around.under_plain (weight_type_call_type "set" [.ref l] []) rfl]
  have h1 := F.called_set.notType
  have h2 := F.called_set.canCreate
  have hct := F.typeCall_set_1 (.ref l)
  repeat (any_goals (first | assumption | wp_step))
  refine codeAny_mono (code_set_led1 (.ref l) (E := E) (Q₁ := fun obj s₁ => obj = .ref s.heap.objs.size ∧ s₁ = { s with heap := s.heap.push (emptySet w) }) ⟨rfl, rfl⟩) fun r s₁ hr => ?_
  cases r with
  | error e => exact hr
  | ok fl =>
    cases fl with
    | ret obj =>
      obtain ⟨rfl, rfl⟩ := hr
      have hS : (s.heap.push (emptySet w)).get? s.heap.objs.size = some (emptySet w) := Heap.get?_push_size _ rfl
      have hT : Shared.TypeIs { s with heap := s.heap.push (emptySet w) } (.ref s.heap.objs.size) "set" := ⟨_, hS, rfl⟩
      have hli := F.called_set.init.lookup
      have hbi := F.called_set.init.bind (.ref s.heap.objs.size)
      repeat (any_goals (first | assumption | wp_step))
      refine codeAny_mono (codeAny_call_builtin (R := wants (fun r s₂ => r = .none ∧ ∃ h' tk, s₂ = { s with heap := h', toks := tk } ∧ J items.size h' ∧ (∀ b o, s.heap.get? b = some o → h'.get? b = some o)) E) F.called_set.init.plain F.entry_set_init (check_set_init_1 hT ?_)) fun r₂ s₂ hr₂ => ?_
      · obtain ⟨ol, hol, hcl, nl, hdl⟩ := hl
        obtain ⟨ocls, odict, odata, oslots⟩ := ol
        simp only at hcl hdl
        subst hcl; subst hdl
        have hol' : (s.heap.push (emptySet w)).get? l = some { cls := .type "list", dict := odict, data := .seq items nl, slots := oslots } := Heap.get?_push_of_some _ hol
        have hsls := F.sub_list_set
        have hslf := F.sub_list_frozenset
        have hne : (Value.type "list" == Value.type "dict") = false := by decide
        have hl1 : (s.heap.push (emptySet w)).IsList l items := ⟨_, hol', rfl, nl, rfl⟩
        unfold Builtin.«set.__init__» noKeywords Builtin.Frozenset.updateFrom
        generalize hPI : pyIter = PI
        wp_walk
        subst hPI
        refine wpAny_pyIter_list hl1 ?_
        refine wpAny_bind (wpAny_runValue ?_)
        have hlS : l < s.heap.objs.size := Heap.lt_size hol
        have hh3 : A.in1.in1.in1.handled = none := by simp [hh]
        have hz : (s.heap.push (emptySet w)).objs.size = s.heap.objs.size + 1 := Heap.size_push ..
        have hneI : l ≠ (s.heap.push (emptySet w)).objs.size := by rw [hz]; exact Nat.ne_of_lt (Nat.lt_succ_of_lt hlS)
        have hSf : s.heap.objs.size ∉ [(s.heap.push (emptySet w)).objs.size, l] := by
          rw [hz]; simp only [List.mem_cons, List.mem_singleton, List.not_mem_nil, or_false, not_or]
          exact ⟨Nat.ne_of_lt (Nat.lt_succ_self _), Nat.ne_of_gt hlS⟩
        have fresh : ∀ b, s.heap.objs.size ≤ b → s.heap.get? b = none := fun b hb => by
          cases q : s.heap.get? b with
          | none => rfl
          | some o => exact absurd (Nat.lt_of_lt_of_le (Heap.lt_size q) hb) (Nat.lt_irrefl _)
        refine set_loop (Walks.list hh3 _ l hneI items).toS s.heap.objs.size hSf s.heap (fun b hb => fresh b (by rw [List.mem_singleton.mp hb, hz]; exact Nat.le_succ _)) (fresh _ (Nat.le_refl _)) J jkeep (fun i v s' E Q hi hv hJ hk hQ => jadd _ i v s' E Q (units4 A) hi hv hJ hk hQ) (items.size - 0) 0 _ (by omega) (Nat.zero_le _)
          ⟨⟨_, Heap.get?_push_size _ rfl, rfl, rfl⟩, (hl1.push _)⟩ (fun b o e => Heap.get?_push_of_some _ (Heap.get?_push_of_some _ e)) (j0 _ (Heap.get?_push_of_some _ hS) fun b o e => Heap.get?_push_of_some _ (Heap.get?_push_of_some _ e)) fun s' hm hJ hk => ?_
        obtain ⟨h', g2, d', tk', os'⟩ := s'
        have eg : g2 = s.gens := hm.gens
        have ed : d' = s.drawn := hm.drawn
        have eo : os' = s.os := hm.os
        subst eg; subst ed; subst eo
        show wpAny _ _ _ _ _ _
        refine wpAny_pure ?_
        show wpAny _ _ (ret Value.none) _ _ _
        exact wpAny_pure ⟨rfl, h', tk', rfl, hJ, hk⟩
      · cases r₂ with
        | error e => exact hr₂
        | ok fl₂ =>
          cases fl₂ with
          | ret r =>
            obtain ⟨rfl, h', tk, rfl, hJ, hk⟩ := hr₂
            repeat (any_goals (first | assumption | wp_step))
            exact h _ _ hJ hk
          | _ => exact hr₂.elim
    | _ => exact hr.elim

set_option maxRecDepth 100000 in
set_option maxHeartbeats 3200000 in
/-- set(x), x a tuple -/
theorem call_set_tupleJ {l : Addr} {items : Array Value} {Q : Value → Shared → Prop} (hh : A.handled = none) (hl : s.heap.IsTuple l items) (J : Nat → Heap → Prop)
    (j0 : ∀ h, h.get? s.heap.objs.size = some (emptySet w) → (∀ b o, s.heap.get? b = some o → h.get? b = some o) → J 0 h)
    (jkeep : ∀ i h h', J i h → (∀ o, h.get? s.heap.objs.size = some o → h'.get? s.heap.objs.size = some o) → (∀ b o, s.heap.get? b = some o → h'.get? b = some o) → J i h')
    (jadd : ∀ (A' : Around) (i : Nat) (v : Value) (s' : Shared) (E : Value → Shared → Prop) (Q : Bool → Shared → Prop), A'.units ≤ A.units + 4 → i < items.size → items[i]? = some v → J i s'.heap → (∀ b o, s.heap.get? b = some o → s'.heap.get? b = some o) →
      (∀ b h' tk, s'.toks ≤ tk → Heap.SameBut s.heap.objs.size s'.heap h' → J (i + 1) h' → Q b { s' with heap := h', toks := tk }) → wpAny (model P w) A' (setAdd s.heap.objs.size v) Q E s')
    (h : ∀ (h' : Heap) (tk : Nat), J items.size h' → (∀ b o, s.heap.get? b = some o → h'.get? b = some o) → Q (.ref s.heap.objs.size) { s with heap := h', toks := tk }) :
    wpAny (model P w) A (call (.type "set") [.ref l]) Q E s := by
  obtain ⟨c, tl, hmro⟩ := F.called_set.mro
  have hmade := F.called_set.made
  have hsub := F.called_set.sub
  refine wpAny_call (codeAny_of_tree ?_)
  show wpAny _ _ (callAny (.type "set") _) _ _ _
  refine wpAny_pure ⟨Code.quiet_builtin _ (by decide +kernel), codeAny_builtin F.entry_type_call ?_⟩
  rw [Around.under_plain (weight_type_call_type "set" [.ref l] []) rfl]
  have h1 := F.called_set.notType
  have h2 := F.called_set.canCreate
  have hct := F.typeCall_set_1 (.ref l)
  repeat (any_goals (first | assumption | wp_step))
  refine codeAny_mono (code_set_led1 (.ref l) (E := E) (Q₁ := fun obj s₁ => obj = .ref s.heap.objs.size ∧ s₁ = { s with heap := s.heap.push (emptySet w) }) ⟨rfl, rfl⟩) fun r s₁ hr => ?_
  cases r with
  | error e => exact hr
  | ok fl =>
    cases fl with
    | ret obj =>
      obtain ⟨rfl, rfl⟩ := hr
      have hS : (s.heap.push (emptySet w)).get? s.heap.objs.size = some (emptySet w) := Heap.get?_push_size _ rfl
      have hT : Shared.TypeIs { s with heap := s.heap.push (emptySet w) } (.ref s.heap.objs.size) "set" := ⟨_, hS, rfl⟩
      have hli := F.called_set.init.lookup
      have hbi := F.called_set.init.bind (.ref s.heap.objs.size)
      repeat (any_goals (first | assumption | wp_step))
      refine codeAny_mono (codeAny_call_builtin (R := wants (fun r s₂ => r = .none ∧ ∃ h' tk, s₂ = { s with heap := h', toks := tk } ∧ J items.size h' ∧ (∀ b o, s.heap.get? b = some o → h'.get? b = some o)) E) F.called_set.init.plain F.entry_set_init (check_set_init_1 hT ?_)) fun r₂ s₂ hr₂ => ?_
      · obtain ⟨ol, hol, hcl, nl, hdl⟩ := hl
        obtain ⟨ocls, odict, odata, oslots⟩ := ol
        simp only at hcl hdl
        subst hcl; subst hdl
        have hol' : (s.heap.push (emptySet w)).get? l = some { cls := .type "tuple", dict := odict, data := .seq items nl, slots := oslots } := Heap.get?_push_of_some _ hol
        have hsls := F.sub_tuple_set
        have hslf := F.sub_tuple_frozenset
        have hne : (Value.type "tuple" == Value.type "dict") = false := by decide
        have hl1 : (s.heap.push (emptySet w)).IsTuple l items := ⟨_, hol', rfl, nl, rfl⟩
        unfold Builtin.«set.__init__» noKeywords Builtin.Frozenset.updateFrom
        generalize hPI : pyIter = PI
        wp_walk
        subst hPI
        refine wpAny_pyIter_tuple hl1 ?_
        refine wpAny_bind (wpAny_runValue ?_)
        have hlS : l < s.heap.objs.size := Heap.lt_size hol
        have hh3 : A.in1.in1.in1.handled = none := by simp [hh]
        have hz : (s.heap.push (emptySet w)).objs.size = s.heap.objs.size + 1 := Heap.size_push ..
        have hneI : l ≠ (s.heap.push (emptySet w)).objs.size := by rw [hz]; exact Nat.ne_of_lt (Nat.lt_succ_of_lt hlS)
        have hSf : s.heap.objs.size ∉ [(s.heap.push (emptySet w)).objs.size, l] := by
          rw [hz]; simp only [List.mem_cons, List.mem_singleton, List.not_mem_nil, or_false, not_or]
          exact ⟨Nat.ne_of_lt (Nat.lt_succ_self _), Nat.ne_of_gt hlS⟩
        have fresh : ∀ b, s.heap.objs.size ≤ b → s.heap.get? b = none := fun b hb => by
          cases q : s.heap.get? b with
          | none => rfl
          | some o => exact absurd (Nat.lt_of_lt_of_le (Heap.lt_size q) hb) (Nat.lt_irrefl _)
        refine set_loop (Walks.tuple hh3 _ l hneI items).toS s.heap.objs.size hSf s.heap (fun b hb => fresh b (by rw [List.mem_singleton.mp hb, hz]; exact Nat.le_succ _)) (fresh _ (Nat.le_refl _)) J jkeep (fun i v s' E Q hi hv hJ hk hQ => jadd _ i v s' E Q (units4 A) hi hv hJ hk hQ) (items.size - 0) 0 _ (by omega) (Nat.zero_le _)
          ⟨⟨_, Heap.get?_push_size _ rfl, rfl, rfl⟩, (hl1.push _)⟩ (fun b o e => Heap.get?_push_of_some _ (Heap.get?_push_of_some _ e)) (j0 _ (Heap.get?_push_of_some _ hS) fun b o e => Heap.get?_push_of_some _ (Heap.get?_push_of_some _ e)) fun s' hm hJ hk => ?_
        obtain ⟨h', g2, d', tk', os'⟩ := s'
        have eg : g2 = s.gens := hm.gens
        have ed : d' = s.drawn := hm.drawn
        have eo : os' = s.os := hm.os
        subst eg; subst ed; subst eo
        show wpAny _ _ _ _ _ _
        refine wpAny_pure ?_
        show wpAny _ _ (ret Value.none) _ _ _
        exact wpAny_pure ⟨rfl, h', tk', rfl, hJ, hk⟩
      · cases r₂ with
        | error e => exact hr₂
        | ok fl₂ =>
          cases fl₂ with
          | ret r =>
            obtain ⟨rfl, h', tk, rfl, hJ, hk⟩ := hr₂
            repeat (any_goals (first | assumption | wp_step))
            exact h _ _ hJ hk
          | _ => exact hr₂.elim
    | _ => exact hr.elim

end
end Q


set_option linter.all false
set_option maxRecDepth 100000
set_option maxHeartbeats 4000000
set_option autoImplicit false
/-! Q18: sorted(set(x)), len(set(x)). -/
namespace Q
open PySem PySem.Spec PyProof.Rows L2 PySem.W
/-! the members, once each -/
theorem firsts_fold (xs : List D) : ∀ acc : List D, acc.Nodup → (xs.foldl (fun acc x => if x ∈ acc then acc else acc ++ [x]) acc).Nodup ∧ ∀ y, y ∈ xs.foldl (fun acc x => if x ∈ acc then acc else acc ++ [x]) acc ↔ y ∈ acc ∨ y ∈ xs := by
  induction xs with
  | nil => intro acc h; exact ⟨h, fun y => by simp⟩
  | cons x xs ih =>
    intro acc h
    rw [List.foldl_cons]
    by_cases hx : x ∈ acc
    · rw [if_pos hx]
      obtain ⟨h1, h2⟩ := ih acc h
      refine ⟨h1, fun y => ?_⟩
      rw [h2 y, List.mem_cons]
      constructor
      · rintro (h | h)
        · exact .inl h
        · exact .inr (.inr h)
      · rintro (h | h | h)
        · exact .inl h
        · exact .inl (h ▸ hx)
        · exact .inr h
    · rw [if_neg hx]
      have h' : (acc ++ [x]).Nodup := by
        rw [List.nodup_append]
        exact ⟨h, by simp, fun a ha b hb e => by simp at hb; subst hb; subst e; exact hx ha⟩
      obtain ⟨h1, h2⟩ := ih _ h'
      refine ⟨h1, fun y => ?_⟩
      rw [h2 y, List.mem_append, List.mem_singleton, List.mem_cons]
      constructor
      · rintro ((h | h) | h)
        · exact .inl h
        · exact .inr (.inl h)
        · exact .inr (.inr h)
      · rintro (h | h | h)
        · exact .inl (.inl h)
        · exact .inl (.inr h)
        · exact .inr h
theorem firsts_nodup (xs : List D) : (firsts xs).Nodup := (firsts_fold xs [] List.nodup_nil).1
theorem firsts_mem (xs : List D) (y : D) : y ∈ firsts xs ↔ y ∈ xs := by
  have := (firsts_fold xs [] List.nodup_nil).2 y
  simpa [firsts] using this
/-! one sorted list -/
theorem toks_ints : ∀ {xs ys : List Int}, keyToksAll (xs.map PyData.int) = keyToksAll (ys.map PyData.int) → xs = ys
  | [], [], _ => rfl
  | [], y :: ys, h => by simp [keyToksAll] at h
  | x :: xs, [], h => by simp [keyToksAll] at h
  | x :: xs, y :: ys, h => by
    simp only [List.map_cons, keyToksAll, keyToks] at h
    simp at h
    rw [h.1, toks_ints h.2]
theorem intTup_of {d : D} (h : isIntTup d = true) : ∃ ns : List Int, d = .tup (ns.map .int) := by
  cases d with
  | tup xs =>
    simp only [isIntTup, List.all_eq_true] at h
    have key : ∀ xs : List D, (∀ x ∈ xs, isIntD x = true) → ∃ ns : List Int, xs = ns.map .int := by
      intro xs
      induction xs with
      | nil => intro _; exact ⟨[], rfl⟩
      | cons x xs ih =>
        intro h
        obtain ⟨ns, e⟩ := ih fun y hy => h y (List.mem_cons_of_mem _ hy)
        have hx := h x List.mem_cons_self
        cases x with
        | int i => exact ⟨i :: ns, by rw [e]; rfl⟩
        | _ => cases hx
    obtain ⟨ns, e⟩ := key xs h
    exact ⟨ns, by rw [e]⟩
  | _ => cases h
theorem py_ints : ∀ ns : List Int, D.pys (ns.map D.int) = some (ns.map PyData.int)
  | [] => rfl
  | n :: ns => by simp [D.pys, D.py, py_ints ns]
/-- data of one kind, told apart by their signs -/
def Told (xs : List D) : Prop := (∀ x ∈ xs, isIntD x = true) ∨ ∀ x ∈ xs, isIntTup x = true
theorem told_anti {xs : List D} (h : Told xs) {a b : D} (ha : a ∈ xs) (hb : b ∈ xs) (h1 : dLe a b = true) (h2 : dLe b a = true) : a = b := by
  have ht : keyToks (dData a) = keyToks (dData b) := by
    unfold dLe PySem.W.dataLt at h1 h2
    rw [Bool.not_eq_true'] at h1 h2
    exact (listOrd itemOrd).total _ _ h2 h1
  rcases h with h | h
  · have qa := h a ha
    have qb := h b hb
    cases a <;> try cases qa
    cases b <;> try cases qb
    simp [dData, D.py, keyToks] at ht
    rw [ht]
  · obtain ⟨na, ea⟩ := intTup_of (h a ha)
    obtain ⟨nb, eb⟩ := intTup_of (h b hb)
    subst ea eb
    simp only [dData, D.py, py_ints, Option.map_some, Option.getD_some, keyToks] at ht
    rw [toks_ints ht]
theorem dLe_total : TotalLe dLe := sortLe_total (listOrd itemOrd) false fun d => keyToks (dData d)
theorem perm_same {xs ys : List D} (hp : xs.Perm ys) (a : D) (h : ∀ x ∈ xs, x = a) : xs = ys := by
  have e1 : xs = List.replicate xs.length a := List.eq_replicate_iff.mpr ⟨rfl, h⟩
  have e2 : ys = List.replicate ys.length a := List.eq_replicate_iff.mpr ⟨rfl, fun y hy => h y (hp.mem_iff.mpr hy)⟩
  rw [e1, e2, hp.length_eq]
theorem sort_perm {xs ys : List D} (h : Told xs) (hp : xs.Perm ys) : xs.mergeSort dLe = ys.mergeSort dLe := by
  refine sort_unique dLe_total (sort_pairwise dLe_total xs) fun c => ?_
  have p0 : (xs.mergeSort dLe).Perm ys := (List.mergeSort_perm _ _).trans hp
  have pf : ((xs.mergeSort dLe).filter (sameRank dLe c)).Perm (ys.filter (sameRank dLe c)) := p0.filter _
  cases hl : (xs.mergeSort dLe).filter (sameRank dLe c) with
  | nil =>
    rw [hl] at pf
    rw [List.nil_perm.mp pf]
  | cons a r =>
    rw [hl] at pf
    refine perm_same pf a fun x hx => ?_
    rw [← hl] at hx
    have ha : a ∈ (xs.mergeSort dLe).filter (sameRank dLe c) := by rw [hl]; exact List.mem_cons_self
    rw [List.mem_filter] at hx ha
    have mx : x ∈ xs := (List.mergeSort_perm _ _).mem_iff.mp hx.1
    have ma : a ∈ xs := (List.mergeSort_perm _ _).mem_iff.mp ha.1
    have q1 := hx.2
    have q2 := ha.2
    unfold sameRank at q1 q2
    rw [Bool.and_eq_true] at q1 q2
    exact told_anti h mx ma (dLe_total.trans _ _ _ q1.2 q2.1) (dLe_total.trans _ _ _ q2.2 q1.1)
section
variable {S : Wd} {ms : List Addr} {H : Hp}
/-- what a set's entries stand for -/
structure SetHas (S : Wd) (ms : List Addr) (H : Hp) (h : Heap) (p : Addr) (L : List D) : Prop where
  ex : ∃ o es ep t, h.get? p = some o ∧ o.ExactSet ∧ o.data = .set es ep t ∧ t.fits es.size = true ∧ es.size < scanBound ∧ Ris t.place.toList ∧ (S.w.params.followText "set-order" = true ∨ t.led = true) ∧
    EachIs (fun u d => ∃ v, RelV v u ∧ RepD S ms H v d) (es.toList.map (·.2)) L
theorem each_of_mem {R : Value → D → Prop} : ∀ {us : List Value}, (∀ u ∈ us, ∃ d, R u d) → ∃ L, EachIs R us L
  | [], _ => ⟨[], .nil⟩
  | u :: us, h => by
    obtain ⟨d, hd⟩ := h u List.mem_cons_self
    obtain ⟨L, hL⟩ := each_of_mem fun x hx => h x (List.mem_cons_of_mem _ hx)
    exact ⟨d :: L, .cons hd hL⟩
theorem each_map_int : ∀ {es : List (Int × Value)}, (∀ e ∈ es, GoodE e) → EachIs (fun u d => ∃ v, RelV v u ∧ RepD S ms H v d) (es.map (·.2)) ((es.map keyOf).map D.int)
  | [], _ => .nil
  | e :: es, h => by
    obtain ⟨k, tk, h1, _⟩ := h e List.mem_cons_self
    have hk : keyOf e = k := by unfold keyOf; rw [h1]
    refine .cons ⟨.int k, ?_, ?_⟩ (each_map_int fun x hx => h x (List.mem_cons_of_mem _ hx))
    · show L2.RelV (.int k) e.2
      rw [h1]; exact ⟨tk, rfl⟩
    · rw [hk]; exact .int k
theorem map_nodup_int {l : List Int} (h : l.Nodup) : (l.map D.int).Nodup := by
  unfold List.Nodup at *
  rw [List.pairwise_map]
  exact h.imp fun hne e => hne (by injection e)
theorem has_ints {h : Heap} {p : Addr} {ns : List Int} {c : Nat} (R : SetR S.w h p (fun j => decide (j ∈ ns)) c) : ∃ L, SetHas S ms H h p L ∧ L.Perm (firsts (ns.map D.int)) := by
  obtain ⟨o, es, ep, t, ho, hex, hd, g, nd, hm, hb, hf, hn, hr, hl⟩ := R
  refine ⟨(es.toList.map keyOf).map D.int, ⟨o, es, ep, t, ho, hex, hd, hf, hb, hr, hl, each_map_int g⟩, ?_⟩
  refine (List.perm_ext_iff_of_nodup (map_nodup_int nd) (firsts_nodup _)).mpr fun d => ?_
  rw [firsts_mem, List.mem_map, List.mem_map]
  constructor
  · rintro ⟨k, hk, rfl⟩
    exact ⟨k, by have := (hm k).mpr hk; simpa using this, rfl⟩
  · rintro ⟨k, hk, rfl⟩
    exact ⟨k, (hm k).mp (by simpa using hk), rfl⟩
theorem has_tups {s : Shared} {p : Addr} {L : List (Addr × List Int)} {es : Array (Int × Value)} {ep : Nat} {t : SetTable} {ks : List (Addr × List Int)} (R : SetTR S.prog S.w s.heap p L es ep t) (g : Got ks ks.length L) (hk : ∀ q ∈ ks, RepD S ms H (.ref q.1) (.tup (q.2.map D.int))) :
    ∃ L, SetHas S ms H s.heap p L ∧ L.Perm (firsts (ks.map fun q => D.tup (q.2.map D.int))) := by
  obtain ⟨o, ho, hex, hd⟩ := R.ob
  have sub : ∀ q ∈ L, q ∈ ks := fun q hq => List.mem_of_mem_take (g.sub q hq)
  have hrows : es.toList.map (·.2) = L.map fun q => Value.ref q.1 := by
    rw [R.rows]
    unfold L2.rowsOf
    rw [List.map_map]
    rfl
  refine ⟨L.map fun q => D.tup (q.2.map D.int), ⟨o, es, ep, t, ho, hex, hd, R.fits, by rw [R.size]; have := R.few; unfold scanBound; omega, R.tab.ris, R.led, ?_⟩, ?_⟩
  · rw [hrows]
    clear hrows R g hd ho hex
    induction L with
    | nil => exact .nil
    | cons q L ih => exact .cons ⟨.ref q.1, rfl, hk q (sub q List.mem_cons_self)⟩ (ih fun x hx => sub x (List.mem_cons_of_mem _ hx))
  · have inj : ∀ a b : List Int, D.tup (a.map D.int) = D.tup (b.map D.int) → a = b := by
      intro a b e
      injection e with e
      have key : ∀ a b : List Int, a.map D.int = b.map D.int → a = b := by
        intro a
        induction a with
        | nil => intro b h; cases b <;> first | rfl | cases h
        | cons x a ih =>
          intro b h
          cases b with
          | nil => cases h
          | cons y b =>
            simp only [List.map_cons, List.cons.injEq] at h
            obtain ⟨h1, h2⟩ := h
            injection h1 with h1
            rw [h1, ih b h2]
      exact key a b e
    have nd : (L.map fun q => D.tup (q.2.map D.int)).Nodup := by
      have q := R.nd
      unfold List.Nodup at *
      rw [List.pairwise_map] at q ⊢
      exact q.imp fun hne e => hne (inj _ _ e)
    refine (List.perm_ext_iff_of_nodup nd (firsts_nodup _)).mpr fun d => ?_
    rw [firsts_mem, List.mem_map, List.mem_map]
    constructor
    · rintro ⟨q, hq, rfl⟩
      exact ⟨q, sub q hq, rfl⟩
    · rintro ⟨q, hq, rfl⟩
      have := g.all q (by rw [List.take_length]; exact hq)
      obtain ⟨q', hq', e⟩ := List.mem_map.mp this
      exact ⟨q', hq', by rw [e]⟩
end
end Q


set_option linter.all false
set_option maxRecDepth 100000
set_option maxHeartbeats 4000000
set_option autoImplicit false
/-! Q19: sorted(set(x)), len(set(x)) as expressions. -/
namespace Q
open PySem PySem.Spec PyProof.Rows L2 PySem.W
section
variable {S : Wd} {cc : CC} {k : Nat} {C : Calls} {sc : Scope} {ms : List Addr} {H : Hp} {X : Cx} {pins : List (Addr × Obj)} {σ : L2.St} {s : Shared}
theorem each_perm {α β : Type} {R : α → β → Prop} {us vs : List α} (hp : us.Perm vs) : ∀ {L : List β}, EachIs R us L → ∃ L', EachIs R vs L' ∧ L.Perm L' := by
  induction hp with
  | nil => intro L e; exact ⟨L, e, .refl _⟩
  | cons x _ ih =>
    intro L e
    cases e with
    | cons h t =>
      obtain ⟨L', e', p⟩ := ih t
      exact ⟨_, .cons h e', p.cons _⟩
  | swap x y l =>
    intro L e
    cases e with
    | cons h t =>
      cases t with
      | cons h' t' => exact ⟨_, .cons h' (.cons h t'), .swap _ _ _⟩
  | trans _ _ ih1 ih2 =>
    intro L e
    obtain ⟨L1, e1, p1⟩ := ih1 e
    obtain ⟨L2, e2, p2⟩ := ih2 e1
    exact ⟨L2, e2, p1.trans p2⟩
theorem each_reps : ∀ {us : List Value} {L : List D}, EachIs (fun u d => ∃ v, RelV v u ∧ RepD S ms H v d) us L → ∃ ws, Vals ws us ∧ RepDs S ms H ws L
  | _, _, .nil => ⟨[], .nil, .nil⟩
  | _, _, .cons ⟨v, h1, h2⟩ t => by
    obtain ⟨ws, h3, h4⟩ := each_reps t
    exact ⟨v :: ws, .cons h1 h3, .cons h2 h4⟩
theorem noaddr : ∀ {d : D} {p : PyData} {h : Heap} {u : Value} {as : List Addr}, d.py = some p → Reads h u p as → isIntD d = true ∨ isIntTup d = true → as = [] := by
  intro d p h u as hp r hi
  rcases hi with hi | hi
  · cases d <;> try cases hi
    cases hp
    cases r
    rfl
  · obtain ⟨ns, rfl⟩ := intTup_of hi
    simp only [D.py, py_ints, Option.map_some] at hp
    cases hp
    cases r with
    | tuple h1 h2 h3 h4 =>
      have key : ∀ {ns : List Int} {us : List Value} {as : List Addr}, ReadsAll h us (ns.map PyData.int) as → as = [] := by
        intro ns
        induction ns with
        | nil => intro us as r; cases r; rfl
        | cons n ns ih =>
          intro us as r
          cases r with
          | cons r1 r2 =>
            cases r1
            rw [ih r2]
            rfl
      exact key h4
/-- sorted of a set -/
theorem sorted_setH {p : Addr} {L : List D} {Q : VK} (hc : X.calm = true) (hK : X.K = S.K) (hw : X.w = S.w) (hr : Room k X.A) (I : Inv X pins σ H s) (R : SetHas S ms H s.heap p L) (ht : Told L) (hpy : ∃ ps, D.pys L = some ps ∧ sortable ps = true) (hz : L.length ≤ szl)
    (q : ∀ ws, RepDs S ms H ws (L.mergeSort dLe) → ∀ l, H l = none → Q (.ref l) (upd H l (.lst ws))) : wpAny (model X.prog X.w) X.A (call (.builtin "sorted") [.ref p]) (EP X pins σ Q) X.xe s := by
  obtain ⟨o, es, ep, t, ho, hex, hd, hf, hb, hris, hl, he⟩ := R.ex
  refine Calls.call_function_entry kind_sorted plain_sorted entry_sorted (args_sorted1 _) ?_
  unfold Builtin.«sorted»
  refine wpAny_bind (m := checkCount "sorted" 1 1 _) (wpAny_pure ?_)
  refine wpAny_bind (collect_set (A := X.A.in1) (I.ok.hd hc) ⟨o, ho, hex.1, hd⟩ hf hb hris (by rw [hw]; exact hl) fun s1 us k1 hz1 g1 o1 pm => ?_)
  obtain ⟨L', e', pL⟩ := each_perm pm.symm he
  obtain ⟨ws, rv, rd⟩ := each_reps e'
  obtain ⟨ps, hps, hso⟩ := hpy
  have hlen : us.length = L.length := by rw [← rv.length, rd.length, pL.length_eq]
  have hus : us.length ≤ sizeLine := by rw [hlen, ← szl_eq]; exact hz
  refine wpAny_bind (wpAny_newList ?_ hus)
  have ht' : Told L' := by
    rcases ht with h | h
    · exact .inl fun x hx => h x (pL.mem_iff.mpr hx)
    · exact .inr fun x hx => h x (pL.mem_iff.mpr hx)
  obtain ⟨al, so, dp⟩ := sortable_ok hso
  obtain ⟨m1, m2⟩ := pys_mem hps
  have inPs : ∀ d ∈ L', ∃ p, d.py = some p ∧ p ∈ ps := fun d hd' => m2 d (pL.mem_iff.mpr hd')
  have keep : ∀ b o, s.heap.get? b = some o → (s1.heap.push (seqObj "list" us.toArray 0)).get? b = some o := fun b o e => Heap.get?_push_of_some _ (k1 b o e)
  have hoL : (s1.heap.push (seqObj "list" us.toArray 0)).get? s1.heap.objs.size = some (seqObj "list" us.toArray 0) := Heap.get?_push_size _ rfl
  have mk : ∀ z ∈ ws.zip L', ∃ p, z.2.py = some p ∧ p ∈ ps ∧ dkey z = p := fun z hz => by
    obtain ⟨p, h1, h2⟩ := inPs z.2 (List.of_mem_zip hz).2
    exact ⟨p, h1, h2, by unfold dkey dData; rw [h1]; rfl⟩
  have inMap : ∀ d, d ∈ (ws.zip L').map dkey → d ∈ ps := fun d hd' => by
    obtain ⟨z, hz, rfl⟩ := List.mem_map.mp hd'
    obtain ⟨p, _, h2, h3⟩ := mk z hz
    rw [h3]; exact h2
  have hu := hr.units
  refine wpAny_bind (wpAny_holding (list_sort_data (s := { s1 with heap := s1.heap.push (seqObj "list" us.toArray 0) }) (bs := ws.zip L') (enc := dkey) (R := fun u z => RelV z.1 u) hoL (each_zip rd rv fun v d u _ r _ => r) ?_ (fun d hd' d' hd'' => al d (inMap d hd') d' (inMap d' hd'')) ?_ ?_ (fun z hz => ?_) fun out hol e => ?_))
  · refine each_zip rd rv fun v d u rd' rl hd' => ?_
    obtain ⟨p, h1, h2⟩ := inPs d hd'
    have dd := dp_of rd' h1
    rw [← hK] at dd
    obtain ⟨as, rr⟩ := Dp.reads I _ _ _ dd rl
    have e0 : as = [] := noaddr h1 rr (by
      rcases ht' with h | h
      · exact .inl (h d hd')
      · exact .inr (h d hd'))
    subst e0
    refine ⟨[], ?_, by simp⟩
    have e1 : dkey (v, d) = p := by unfold dkey dData; rw [h1]; rfl
    rw [e1]
    exact PyProof.Rows.Reads.keeps keep rr
  · rcases so with h | h
    · exact .inl fun d hd' => h d (inMap d hd')
    · exact .inr fun d hd' => h d (inMap d hd')
  · rw [List.length_zip, rd.length, Nat.min_self, ← pL.length_eq, ← szl_eq]
    exact hz
  · obtain ⟨p, _, h2, h3⟩ := mk z hz
    have h60 : p.depth ≤ 60 := dp p h2
    rw [h3]
    show X.A.units + 1 + 1 + p.depth < cLine
    omega
  · obtain ⟨c, hc'⟩ := sortedHeap_at (vs := us) (out := out.toArray) hoL
    have rs : RepDs S ms H (((ws.zip L').mergeSort (dataLe false dkey)).map Prod.fst) (L'.mergeSort dLe) := by
      have h1 := reps_of (zs := (ws.zip L').mergeSort (dataLe false dkey)) fun z hz => zip_rep rd z ((List.mergeSort_perm _ _).mem_iff.mp hz)
      have h2 : ((ws.zip L').mergeSort (dataLe false dkey)).map Prod.snd = L'.mergeSort dLe := by
        rw [sort_maps (r := dataLe false dkey) (s := dLe) Prod.snd (fun _ _ _ _ => rfl), map_snd rd]
      rw [h2] at h1
      exact h1
    rw [← sort_perm ht pL] at rs
    have hv := vals_each e
    have hl2 : (((ws.zip L').mergeSort (dataLe false dkey)).map Prod.fst).length ≤ sizeLine := by
      rw [List.length_map, (List.mergeSort_perm _ _).length_eq, List.length_zip, rd.length, Nat.min_self, ← pL.length_eq, ← szl_eq]
      exact hz
    have hn : H s1.heap.objs.size = none := I.hok.fresh hz1
    have kk : ∀ b u, s.heap.get? b = some u → (sortedHeap (s1.heap.push (seqObj "list" us.toArray 0)) s1.heap.objs.size us out.toArray).get? b = some u := fun b u e => by
      have q := k1 b u e
      have hlt := Heap.lt_size q
      rw [sortedHeap_old (Nat.ne_of_lt hlt) (by rw [size_push']; exact Nat.lt_succ_of_lt hlt)]
      exact Heap.get?_push_of_some _ q
    obtain ⟨hh1, gg1, dd1, tt1, oo1⟩ := s1
    have g1 : gg1 = s.gens := g1
    have o1 : oo1 = s.os := o1
    subst g1 o1
    refine wpAny_pure ⟨_, rfl, ?_⟩
    refine ⟨.ref hh1.objs.size, upd H hh1.objs.size (.lst _), ?_, rfl, q _ rs _ hn⟩
    have J : Inv X pins σ (upd H hh1.objs.size (.lst (((ws.zip L').mergeSort (dataLe false dkey)).map Prod.fst))) { s with heap := sortedHeap (hh1.push (seqObj "list" us.toArray 0)) hh1.objs.size us out.toArray, gens := s.gens, drawn := dd1, toks := tt1 } :=
      I.call (ch := []) (Un.laid kk hz1 hn) (I.hok.laid kk hz1 ⟨hl2, out, c, hv, hc'⟩) I.bare (fun _ z => nomatch z)
    exact J
/-! the two calls -/
theorem setD_cases {st : Store} {v : SV} {L : List D} (h : setD st v = some L) : ∃ xs, items st v = some xs ∧ L = firsts xs ∧ ((xs.all isIntD = true ∧ xs.length < 4000) ∨ (xs.all isIntTup = true ∧ xs.length < 64 ∧ isTupV v = false)) := by
  unfold setD at h
  split at h
  · rename_i xs hx
    split at h
    · rename_i hc
      cases h
      exact ⟨xs, hx, rfl, .inl hc⟩
    · split at h
      · rename_i hc
        cases h
        exact ⟨xs, hx, rfl, .inr hc⟩
      · cases h
  · cases h
theorem ints_of_reps {vs : List V} {ds : List D} (t : RepDs S ms H vs ds) (h : ds.all isIntD = true) : ∃ ns : List Int, ds = ns.map D.int ∧ vs = ns.map V.int := by
  induction ds generalizing vs with
  | nil => cases t; exact ⟨[], rfl, rfl⟩
  | cons d ds ih =>
    cases t with
    | cons r t =>
      simp only [List.all_cons, Bool.and_eq_true] at h
      obtain ⟨ns, e1, e2⟩ := ih t h.2
      cases d with
      | int i =>
        cases r
        exact ⟨i :: ns, by rw [e1]; rfl, by rw [e2]; rfl⟩
      | _ => exact absurd h.1 (by simp [isIntD])
theorem tups_of_reps {vs : List V} {ds : List D} (t : RepDs S ms H vs ds) (h : ds.all isIntTup = true) : ∃ ks : List (Addr × List Int), ds = ks.map (fun q => D.tup (q.2.map D.int)) ∧ vs = ks.map (fun q => V.ref q.1) ∧ (∀ q ∈ ks, RepD S ms H (.ref q.1) (.tup (q.2.map D.int))) ∧ ∀ q ∈ ks, SqT S.K H q.1 (q.2.map V.int) := by
  induction ds generalizing vs with
  | nil => cases t; exact ⟨[], rfl, rfl, (fun q h => by cases h), (fun q h => by cases h)⟩
  | cons d ds ih =>
    cases t with
    | cons r t =>
      simp only [List.all_cons, Bool.and_eq_true] at h
      obtain ⟨ks, e1, e2, e3, e4⟩ := ih t h.2
      obtain ⟨ns, rfl⟩ := intTup_of h.1
      cases r with
      | @tup a us _ hq tu =>
        have hus : us = ns.map V.int := by
          obtain ⟨ns', h1, h2⟩ := ints_of_reps tu (by simp [List.all_eq_true, isIntD])
          have key : ∀ a b : List Int, a.map D.int = b.map D.int → a = b := by
            intro a
            induction a with
            | nil => intro b h; cases b <;> first | rfl | cases h
            | cons x a ih =>
              intro b h
              cases b with
              | nil => cases h
              | cons y b =>
                simp only [List.map_cons, List.cons.injEq] at h
                obtain ⟨h1, h2⟩ := h
                injection h1 with h1
                rw [h1, ih b h2]
          rw [h2, key _ _ h1]
        refine ⟨(a, ns) :: ks, by rw [e1]; rfl, by rw [e2]; rfl, fun q hq' => ?_, fun q hq' => ?_⟩
        · rcases List.mem_cons.mp hq' with rfl | hq'
          · exact .tup hq tu
          · exact e3 q hq'
        · rcases List.mem_cons.mp hq' with rfl | hq'
          · rw [← hus]; exact hq.sq
          · exact e4 q hq'
theorem firsts_len (xs : List D) : (firsts xs).length ≤ xs.length := by
  have key : ∀ (xs acc : List D), (xs.foldl (fun acc x => if x ∈ acc then acc else acc ++ [x]) acc).length ≤ acc.length + xs.length := by
    intro xs
    induction xs with
    | nil => intro acc; exact Nat.le_refl _
    | cons x xs ih =>
      intro acc
      rw [List.foldl_cons]
      refine Nat.le_trans (ih _) ?_
      split
      · simp
      · simp; omega
  have := key xs []
  simpa [firsts] using this
theorem items_lits {st : Store} {v : SV} (h : isTupV v = false) : items st v = lits st v := by
  cases v with
  | fr xs => rfl
  | vl d => cases d <;> first | rfl | cases h
/-- set(x), x evaluated -/
theorem call_set {k : Nat} {st : Store} {v : SV} {x : V} {u : Value} {H0 : Hp} {L : List D} {Q : Value → Shared → Prop} (hc : X.calm = true) (hK : X.K = S.K) (hw : X.w = S.w) (hp : X.prog = S.prog) (hr : Room k X.A) (I : Inv X pins σ H s) (r : RepS S ms H st) (rv : RepSV S H0 ms H x v) (ru : RelV x u) (e : setD st v = some L)
    (q : ∀ (h' : Heap) (tk : Nat) (L' : List D), Inv X pins σ H { s with heap := h', toks := tk } → SetHas S ms H h' s.heap.objs.size L' → L'.Perm L → Told L' → L'.length ≤ szl → Q (.ref s.heap.objs.size) { s with heap := h', toks := tk }) :
    wpAny (model X.prog X.w) X.A (call (.type "set") [u]) Q X.xe s := by
  obtain ⟨xs, hx, rfl, hcase⟩ := setD_cases e
  have hu := hr.units
  have told : ∀ {L' : List D}, L'.Perm (firsts xs) → Told L' := fun {L'} pm => by
    rcases hcase with ⟨h1, _⟩ | ⟨h1, _⟩
    · exact .inl fun y hy => List.all_eq_true.mp h1 y ((firsts_mem xs y).mp (pm.mem_iff.mp hy))
    · exact .inr fun y hy => List.all_eq_true.mp h1 y ((firsts_mem xs y).mp (pm.mem_iff.mp hy))
  have len : ∀ {L' : List D}, L'.Perm (firsts xs) → L'.length ≤ szl := fun {L'} pm => by
    rw [pm.length_eq]
    have := firsts_len xs
    unfold szl
    rcases hcase with ⟨_, h2⟩ | ⟨_, h2, _⟩ <;> omega
  obtain ⟨ad, vs, rfl, hq, t⟩ := items_rep r rv hx
  obtain rfl : u = Value.ref ad := ru
  rcases hcase with ⟨hi, hz⟩ | ⟨hi, hz, hnt⟩
  · -- ints
    obtain ⟨ns, rfl, rfl⟩ := ints_of_reps t hi
    rw [List.length_map] at hz
    have jkeep : ∀ (i : Nat) (h h' : Heap), (∃ c, c ≤ i ∧ SetR S.w h s.heap.objs.size (fun j => decide (j ∈ ns.take i)) c) → (∀ o, h.get? s.heap.objs.size = some o → h'.get? s.heap.objs.size = some o) → (∀ b o, s.heap.get? b = some o → h'.get? b = some o) → ∃ c, c ≤ i ∧ SetR S.w h' s.heap.objs.size (fun j => decide (j ∈ ns.take i)) c :=
      fun i h h' ⟨c, h1, h2⟩ hk _ => ⟨c, h1, h2.at hk⟩
    have j0 : ∀ h : Heap, h.get? s.heap.objs.size = some (emptySet S.w) → (∀ b o, s.heap.get? b = some o → h.get? b = some o) → ∃ c, c ≤ 0 ∧ SetR S.w h s.heap.objs.size (fun j => decide (j ∈ ns.take 0)) c := fun h ho _ => ⟨0, Nat.le_refl _, setR_new_at ho⟩
    have jadd : ∀ {its : Array Value}, its.size = ns.length → IntsAre its.toList ns → ∀ (A' : Around) (i : Nat) (v : Value) (s' : Shared) (E : Value → Shared → Prop) (Q : Bool → Shared → Prop), A'.units ≤ X.A.units + 4 → i < its.size → its[i]? = some v → (∃ c, c ≤ i ∧ SetR S.w s'.heap s.heap.objs.size (fun j => decide (j ∈ ns.take i)) c) → (∀ b o, s.heap.get? b = some o → s'.heap.get? b = some o) →
        (∀ b h' tk, s'.toks ≤ tk → Heap.SameBut s.heap.objs.size s'.heap h' → (∃ c, c ≤ i + 1 ∧ SetR S.w h' s.heap.objs.size (fun j => decide (j ∈ ns.take (i + 1))) c) → Q b { s' with heap := h', toks := tk }) → wpAny (model S.prog S.w) A' (setAdd s.heap.objs.size v) Q E s' := by
      intro its hsz hit A' i v s' E Q _ hi' hv ⟨c, h1, h2⟩ _ hQ
      obtain ⟨tk, e⟩ := PyProof.Rows.IntsAre.int_at hit i v (by rw [Array.getElem?_toList]; exact hv)
      have hin : i < ns.length := by rw [← hsz]; exact hi'
      have hget : ns[i]? = some (ns.getD i 0) := by rw [List.getD_eq_getElem?_getD, List.getElem?_eq_getElem hin]; rfl
      subst e
      unfold setAdd
      refine wpAny_holding ?_
      refine wpAny_bind ((intKind S.prog S.w).pyHash (k := ns.getD i 0) (intKind_is _ _ _ _) ?_)
      refine setR_add_hashed (s := { s' with toks := s'.toks + 1 }) h2 (by unfold scanBound; omega) fun h' hsb hS2 => ?_
      refine hQ _ h' (s'.toks + 1) (Nat.le_succ _) hsb ⟨_, ?_, hS2.congr fun j => ?_⟩
      · split <;> omega
      · rw [List.take_add_one, hget]
        simp [List.mem_append]
    have fin : ∀ (h' : Heap) (tk : Nat), (∃ c, c ≤ ns.length ∧ SetR S.w h' s.heap.objs.size (fun j => decide (j ∈ ns.take ns.length)) c) → (∀ b o, s.heap.get? b = some o → h'.get? b = some o) → Q (.ref s.heap.objs.size) { s with heap := h', toks := tk } := by
      intro h' tk ⟨c, _, h2⟩ hk
      rw [List.take_length] at h2
      obtain ⟨L', hh, pm⟩ := has_ints (ms := ms) (H := H) h2
      exact q h' tk L' (I.kept hk) hh pm (told pm) (len pm)
    rw [hp, hw]
    rcases hq with hq | hq
    · obtain ⟨its, rvs, pl, _⟩ := I.list (by rw [hK]; exact hq)
      have hi' := rvs.ints
      have hsz : its.toArray.size = ns.length := by rw [List.size_toArray, hi'.length]
      refine call_set_listJ (I.ok.hd hc) pl.isList _ j0 jkeep (jadd hsz (by simpa using hi')) fun h' tk hJ hk => ?_
      rw [hsz] at hJ
      exact fin h' tk hJ hk
    · obtain ⟨its, rvs, pl, _⟩ := I.tuple (by rw [hK]; exact hq)
      have hi' := rvs.ints
      have hsz : its.toArray.size = ns.length := by rw [List.size_toArray, hi'.length]
      refine call_set_tupleJ (I.ok.hd hc) (show s.heap.IsTuple ad its.toArray from pl) _ j0 jkeep (jadd hsz (by simpa using hi')) fun h' tk hJ hk => ?_
      rw [hsz] at hJ
      exact fin h' tk hJ hk
  · -- tuples of ints
    obtain ⟨ad', vs', e', hq', t'⟩ := lits_rep r rv (by rw [← items_lits hnt]; exact hx)
    cases e'
    obtain ⟨ks, rfl, rfl, hk1, hk2⟩ := tups_of_reps t' hi
    rw [List.length_map] at hz
    obtain ⟨its, rvs, pl, _⟩ := I.list (by rw [hK]; exact hq')
    refine call_set_tups (P := X.prog) (w := X.w) ks (I.ok.hd hc) pl.isList (by simpa using refs_of_vals rvs) (fun p hp' => I.isT (by rw [hK]; exact hk2 p hp')) hz (by omega) fun h' tk L es ep tb R g hk => ?_
    rw [hp, hw] at R
    obtain ⟨L', hh, pm⟩ := has_tups (s := { s with heap := h', toks := tk }) (ms := ms) (H := H) R g hk1
    exact q h' tk L' (I.kept hk) hh pm (told pm) (len pm)
theorem sortSet_ok : SortSetOk S cc k C := by
  intro sc a fa p0 p1 p p2 hg hgs hm hms hn ha W X c
  refine ⟨fun pins s σ H Q I h => ?_⟩
  obtain ⟨env, st, ms, rs, re, h⟩ := h
  unfold eOn at h
  have step := (ha W X c).run pins s σ H (fun x H1 => ∃ s1 sv ms1 L es, RepS S ms1 H1 s1 ∧ RepSV S H ms1 H1 x sv ∧ setD s1 sv = some L ∧ sortD L = some es ∧ Out S ms1 H1 (.fr es) Q) I ⟨env, st, ms, rs, re, EndG.bind pSV_back rs h fun x s1 v ms1 H1 x1 r1 pv h1 => by
    obtain ⟨z, hz, h2⟩ := h1.ofO
    unfold gSortSet at hz
    split at hz
    · rename_i L hL
      rw [Option.map_eq_some_iff] at hz
      obtain ⟨es, he, rfl⟩ := hz
      exact ⟨s1, x, ms1, L, es, r1, pv, hL, he, fun v' H' sm rv => h2.ret (.same sm) (r1.same sm) rv⟩
    · cases hz⟩
  refine Call_ (ld_blt I (gl_of c hg) (by rw [c.mg]; exact hm) boot_sorted' ?_)
  refine PyProof.Rows.callWith_builtin1 (PyProof.Rows.args_cons ?_ rfl) rfl rfl
  refine Call_ (ld_blt I (gl_of c hgs) (by rw [c.mg]; exact hms) PyProof.Rows.boot_set ?_)
  refine PyProof.Rows.callWith_type1 (PyProof.Rows.args_cons (thn step fun v s1 ⟨x, H1, I1, rx, st1, sv, ms1, L, es, r1, pv, hL, he, out⟩ => PyProof.Rows.args_nil ?_) (star1 hn)) (star1 hn) rfl
  refine call_set c.calm c.K c.w c.prog c.room I1 r1 pv rx hL fun h' tk L' I2 hh pm tl ln => PyProof.Rows.args_nil ?_
  rw [sortD_eq] at he
  split at he
  · rename_i ps hps
    split at he
    · rename_i hso
      cases he
      have pyL : ∃ ps', D.pys L' = some ps' ∧ sortable ps' = true := by
        obtain ⟨m1, m2⟩ := pys_mem hps
        have all : ∀ {xs : List D}, (∀ x ∈ xs, ∃ p, x.py = some p) → D.pys xs = some (xs.map dData) := by
          intro xs
          induction xs with
          | nil => intro _; rfl
          | cons x xs ih =>
            intro h
            obtain ⟨p, hp⟩ := h x List.mem_cons_self
            simp only [D.pys, hp, ih fun y hy => h y (List.mem_cons_of_mem _ hy), List.map_cons, dData, Option.getD_some]
        refine ⟨L'.map dData, all fun x hx => ?_, ?_⟩
        · obtain ⟨p, hp, _⟩ := m2 x (pm.mem_iff.mp hx)
          exact ⟨p, hp⟩
        · have key : ∀ {f : PyData → Bool} {as bs : List PyData}, as.Perm bs → as.all f = bs.all f := fun {f as bs} p => by
            rw [Bool.eq_iff_iff, List.all_eq_true, List.all_eq_true]
            exact ⟨fun h x hx => h x (p.mem_iff.mpr hx), fun h x hx => h x (p.mem_iff.mp hx)⟩
          have pp : (L'.map dData).Perm ps := by rw [m1]; exact pm.map dData
          unfold sortable at hso ⊢
          unfold allAlike at hso ⊢
          rw [key pp, key pp, key pp, key pp]
          have e3 : (fun x => (L'.map dData).all fun y => PySem.W.alike x y) = fun x => ps.all fun y => PySem.W.alike x y := by
            funext x
            exact key pp
          rw [e3]
          exact hso
      have hso2 : L'.mergeSort dLe = L.mergeSort dLe := sort_perm tl pm
      refine sorted_setH c.calm c.K c.w c.room I2 hh tl pyL ln fun ws rws l hl => ?_
      rw [hso2] at rws
      exact out.fr r1 rws l hl
    · cases he
  · cases he
theorem lenSet_ok : LenSetOk S cc k C := by
  intro sc a fa p0 p1 p p2 hg hgs hm hms hn ha W X c
  refine ⟨fun pins s σ H Q I h => ?_⟩
  obtain ⟨env, st, ms, rs, re, h⟩ := h
  unfold eOn at h
  have step := (ha W X c).run pins s σ H (fun x H1 => ∃ s1 sv ms1 L, RepS S ms1 H1 s1 ∧ RepSV S H ms1 H1 x sv ∧ setD s1 sv = some L ∧ Out S ms1 H1 (.vl (.int L.length)) Q) I ⟨env, st, ms, rs, re, EndG.bind pSV_back rs h fun x s1 v ms1 H1 x1 r1 pv h1 => by
    obtain ⟨z, hz, h2⟩ := h1.ofO
    unfold gLenSet at hz
    rw [Option.map_eq_some_iff] at hz
    obtain ⟨L, hL, rfl⟩ := hz
    exact ⟨s1, x, ms1, L, r1, pv, hL, fun v' H' sm rv => h2.ret (.same sm) (r1.same sm) rv⟩⟩
  refine Call_ (ld_blt I (gl_of c hg) (by rw [c.mg]; exact hm) PySem.boot_len ?_)
  refine PyProof.Rows.callWith_builtin1 (PyProof.Rows.args_cons ?_ rfl) rfl rfl
  refine Call_ (ld_blt I (gl_of c hgs) (by rw [c.mg]; exact hms) PyProof.Rows.boot_set ?_)
  refine PyProof.Rows.callWith_type1 (PyProof.Rows.args_cons (thn step fun v s1 ⟨x, H1, I1, rx, st1, sv, ms1, L, r1, pv, hL, out⟩ => PyProof.Rows.args_nil ?_) (star1 hn)) (star1 hn) rfl
  refine call_set c.calm c.K c.w c.prog c.room I1 r1 pv rx hL fun h' tk L' I2 hh pm tl ln => PyProof.Rows.args_nil ?_
  obtain ⟨o, es, ep, t, ho, hex, hd, hf, hb, _, _, he⟩ := hh.ex
  have hsz : es.size = L.length := by
    have := he.length
    rw [List.length_map, Array.length_toList] at this
    rw [this, pm.length_eq]
  refine call_len_set ho hex hd hf (by unfold scanBound at hb; omega) ⟨.int L.length, H1, I2.tok _, ⟨_, by rw [hsz]⟩, out.int⟩
theorem sets_ok : SetsOk S := fun _ _ _ => ⟨sortSet_ok, lenSet_ok⟩
end
end Q


set_option linter.all false
set_option maxRecDepth 100000
set_option maxHeartbeats 4000000
set_option autoImplicit false
/-! Q20: a law's program as it stands behind the top. -/
namespace Q
open PySem PySem.Spec PyProof.Rows L2 PySem.W
/-- a def of the text: own: its class; N: its slots' names; g: what it is reckoned by -/
structure DS where
  key : Str
  own : Option Str
  x : Str
  qual : Str
  st : Stmt
  N : List Str
  ps : List Str
  g : Es
def DsAt (K : PySem.W.Frag) (own : Option Str) (x : Str) (a : Addr) : Prop := match own with
  | none => PySem.W.nsIn K mainGlobals x = some (some (.ref a))
  | some c => ∃ A, PySem.W.nsIn K mainGlobals c = some (some (.ref A)) ∧ PySem.W.findIn K (.ref A) x = some (some (.ref a)) ∧ PySem.W.isFn K (.ref a) = true
theorem DsAt.one {K : PySem.W.Frag} {own : Option Str} {x : Str} {a b : Addr} (h : DsAt K own x a) (h' : DsAt K own x b) : a = b := by
  cases own with
  | none =>
    have e := h.symm.trans h'
    cases e; rfl
  | some c =>
    obtain ⟨A, h1, h2, _⟩ := h
    obtain ⟨B, h3, h4, _⟩ := h'
    have e := h1.symm.trans h3
    cases e
    have e := h2.symm.trans h4
    cases e; rfl
/-- the def stands there -/
def DsOk (K : PySem.W.Frag) (d : DS) : Prop := ∃ a fd, DsAt K d.own d.x a ∧ FunD K d.x d.qual (L2.defArgs d.st) (L2.defBody d.st) (L2.defScope d.st) [] [] a fd
theorem ds_fn {K : PySem.W.Frag} {key x : Str} {st : Stmt} {N ps : List Str} {g : Es} {a : Addr} {oc : Value} {od an : Option Addr} {osl : Array (Option Value)} {kV doc pm cdv ct : Value} (h : PySem.W.nsIn K mainGlobals x = some (some (.ref a)))
    (l : K.lookup a = some ⟨oc, od, .func (PySem.W.fnOf x x (L2.defArgs st) (L2.defBody st) (L2.defScope st) .none kV doc pm an cdv ct), osl⟩) (c : PySem.W.codeIn K cdv x = true) (k : PySem.W.keepIn K (.ref a) = true) : DsOk K ⟨key, none, x, x, st, N, ps, g⟩ :=
  ⟨a, _, h, ⟨⟨oc, od, .none, kV, doc, pm, an, cdv, ct, osl, rfl, l, c, .inl ⟨rfl, rfl⟩, .inl rfl⟩, k⟩⟩
theorem ds_me {K : PySem.W.Frag} {key cn x qual : Str} {st : Stmt} {N ps : List Str} {g : Es} {A a : Addr} {oc : Value} {od an : Option Addr} {osl : Array (Option Value)} {kV doc pm cdv ct : Value} (h : PySem.W.nsIn K mainGlobals cn = some (some (.ref A))) (f : PySem.W.findIn K (.ref A) x = some (some (.ref a))) (i : PySem.W.isFn K (.ref a) = true)
    (l : K.lookup a = some ⟨oc, od, .func (PySem.W.fnOf x qual (L2.defArgs st) (L2.defBody st) (L2.defScope st) .none kV doc pm an cdv ct), osl⟩) (c : PySem.W.codeIn K cdv qual = true) (k : PySem.W.keepIn K (.ref a) = true) : DsOk K ⟨key, some cn, x, qual, st, N, ps, g⟩ :=
  ⟨a, _, ⟨A, h, f, i⟩, ⟨⟨oc, od, .none, kV, doc, pm, an, cdv, ct, osl, rfl, l, c, .inl ⟨rfl, rfl⟩, .inl rfl⟩, k⟩⟩
/-- the def's text is what it is reckoned by -/
structure DsC (cc : CC) (d : DS) : Prop where
  sc : FnScope d.N d.ps (L2.defScope d.st)
  np : d.ps.length ≤ d.N.length
  cmp : goS (cS fuel { cc with N := d.N } (L2.defScope d.st)) (L2.defBody d.st) = some d.g
  bind : ∀ (kV doc pm : Value) (an : Option Addr) (cdv ct : Value) (us : List Value), us.length = d.ps.length → bindArgs (PySem.W.fnOf d.x d.qual (L2.defArgs d.st) (L2.defBody d.st) (L2.defScope d.st) .none kV doc pm an cdv ct) ⟨us, []⟩ = pure (d.ps.zip us)
/-- a class of instances -/
def CsOk (K : PySem.W.Frag) (flds : List Str) (c : Str) : Prop := ∃ A, PySem.W.nsIn K mainGlobals c = some (some (.ref A)) ∧ Cls K A ∧ PySem.W.makesIn K A = true ∧ PySem.W.keepIn K (.ref A) = true ∧ ∀ f ∈ flds, NoAttr K A f
/-- which def the name m means at an instance of c -/
def MtOk (K : PySem.W.Frag) (ds : List DS) (e : Str × Str × Str) : Prop := ∃ A a d, PySem.W.nsIn K mainGlobals e.1 = some (some (.ref A)) ∧ PySem.W.findIn K (.ref A) e.2.1 = some (some (.ref a)) ∧ ds.find? (fun d => d.key == e.2.2) = some d ∧ DsAt K d.own d.x a ∧ PySem.W.isFn K (.ref a) = true ∧ PySem.W.keepIn K (.ref a) = true
theorem mt_own {K : PySem.W.Frag} {ds : List DS} {c key : Str} {d : DS} (h : DsOk K d) (ho : d.own = some c) (hf : ds.find? (fun d => d.key == key) = some d) : MtOk K ds (c, d.x, key) := by
  obtain ⟨a, fd, h1, h2⟩ := h
  have h1' := h1
  rw [ho] at h1'
  obtain ⟨A, q1, q2, q3⟩ := h1'
  exact ⟨A, a, d, q1, q2, hf, h1, q3, h2.kp⟩
theorem mt_inh {K : PySem.W.Frag} {ds : List DS} {c c0 m key : Str} {d : DS} {A A0 a : Addr} (h : DsOk K d) (ho : d.own = some c0) (hx : d.x = m) (hf : ds.find? (fun d => d.key == key) = some d) (q1 : PySem.W.nsIn K mainGlobals c = some (some (.ref A))) (q2 : PySem.W.nsIn K mainGlobals c0 = some (some (.ref A0)))
    (q3 : PySem.W.findIn K (.ref A) m = some (some (.ref a))) (q4 : PySem.W.findIn K (.ref A0) m = some (some (.ref a))) : MtOk K ds (c, m, key) := by
  obtain ⟨a', fd, h1, h2⟩ := h
  have h1' := h1
  rw [ho] at h1'
  obtain ⟨A', r1, r2, r3⟩ := h1'
  have e := q2.symm.trans r1
  cases e
  rw [hx] at r2
  have e := q4.symm.trans r2
  cases e
  exact ⟨A, a, d, q1, q3, hf, h1, r3, h2.kp⟩
def gA (K : PySem.W.Frag) (x : Str) : Option Addr := match PySem.W.nsIn K mainGlobals x with
  | some (some (.ref a)) => some a
  | _ => none
theorem gA_of {K : PySem.W.Frag} {x : Str} {a : Addr} (h : PySem.W.nsIn K mainGlobals x = some (some (.ref a))) : gA K x = some a := by unfold gA; rw [h]
theorem gA_ns {K : PySem.W.Frag} {x : Str} {a : Addr} (h : gA K x = some a) : PySem.W.nsIn K mainGlobals x = some (some (.ref a)) := by
  unfold gA at h
  split at h
  · cases h; assumption
  · cases h
/-- exceptions -/
def XsOk (K : PySem.W.Frag) (x : Str) : Prop := ∃ A, PySem.W.nsIn K mainGlobals x = some (some (.ref A)) ∧ PySem.W.keepIn K (.ref A) = true ∧ PySem.W.excIn K A [.type "ValueError", .type "Exception", .type "BaseException", .type "object"] "ValueError.__new__" = true ∧
  PySem.W.subIn K (.ref A) (.type "BaseException") = some true ∧ PySem.W.typeIn K (.ref A) = some (.type "type")
def XpOk (K : PySem.W.Frag) (y x : Str) (b : Bool) : Prop := ∃ A B, PySem.W.nsIn K mainGlobals y = some (some (.ref B)) ∧ PySem.W.nsIn K mainGlobals x = some (some (.ref A)) ∧ PySem.W.exmOne K (.ref B) (.ref A) = some b
/-- a constant of the module -/
def GbOk (K : PySem.W.Frag) (x : Str) (d : D) : Prop := ∃ u v, PySem.W.nsIn K mainGlobals x = some (some u) ∧ RelV v u ∧ ∀ (S : Wd) (ms : List Addr) (H : Hp), RepD S ms H v d
theorem gb_int {K : PySem.W.Frag} {x : Str} {i : Int} {t : Tok} (h : PySem.W.nsIn K mainGlobals x = some (some (.int i t))) : GbOk K x (.int i) := ⟨_, .int i, h, ⟨t, rfl⟩, fun _ _ _ => .int i⟩
theorem gb_str {K : PySem.W.Frag} {x s : Str} {t : Tok} (h : PySem.W.nsIn K mainGlobals x = some (some (.str s t))) : GbOk K x (.str s) := ⟨_, .str s, h, ⟨t, rfl⟩, fun _ _ _ => .str s⟩
/-- a program's table -/
structure Tb where
  ds : List DS
  mt : List (Str × Str × Str)
  cls : List Str
  flds : List Str
  gl : List (Str × D)
  xs : List Str
  ex : List (Str × List Str)
def Tb.prg (t : Tb) : Prg := ⟨fun f => (t.ds.find? fun d => d.key == f).map fun d => ⟨d.ps.length, d.N.length, d.g⟩, fun c m => (t.mt.find? fun e => e.1 == c && e.2.1 == m).map (·.2.2)⟩
def fnNames (ds : List DS) : List Str := ds.filterMap fun d => match d.own with
  | none => some d.key
  | some _ => none
/-- what the compiler is told; fns: the names of the defs; ini: each class's __init__ -/
def ccOf (fns : List Str) (ini : List (Str × Str)) (gl : List (Str × D)) (ex : List (Str × List Str)) (flds mus : List Str) : CC :=
  ⟨[], fun x => fns.contains x, fun c => ini.lookup c, fun x => gl.lookup x, fun x => ex.lookup x, fun f => flds.contains f, fun x => mus.contains x⟩
structure TbC (cc : CC) (t : Tb) : Prop where
  ds : ∀ d ∈ t.ds, DsC cc d
  fn : ∀ x, cc.fn x = true → ∃ d, t.ds.find? (fun d => d.key == x) = some d ∧ d.own = none ∧ d.x = x
  cls : ∀ x i, cc.cls x = some i → x ∈ t.cls ∧ (x, ("__init__" : Str), i) ∈ t.mt
  mt : ∀ e ∈ t.mt, e.1 ∈ t.cls
  glb : ∀ x d, cc.glb x = some d → (x, d) ∈ t.gl
  fld : ∀ f, cc.fld f = true → f ∈ t.flds
  exc : ∀ x cs, cc.exc x = some cs → (x, cs) ∈ t.ex
structure TbK (K : PySem.W.Frag) (t : Tb) : Prop where
  ds : ∀ d ∈ t.ds, DsOk K d
  mt : ∀ e ∈ t.mt, MtOk K t.ds e
  cls : ∀ c ∈ t.cls, CsOk K t.flds c
  gl : ∀ e ∈ t.gl, GbOk K e.1 e.2
  xs : ∀ e ∈ t.ex, e.1 ∈ t.xs ∧ XsOk K e.1 ∧ ∀ y ∈ t.xs, XpOk K y e.1 (decide (y ∈ e.2))
  blt : ∀ x ∈ (["range", "enumerate", "zip", "reversed", "len", "set", "sorted", "abs", "int", "all", "sum", "tuple", "list", "isinstance", "max", "min", "bool", "str"] : List Str), PySem.W.nsIn K mainGlobals x = some none
def wdOf (t : Tb) (P : Program) (w : World) (K : PySem.W.Frag) (mg : Str → Option Value) (base : Heap) : Wd := ⟨P, w, K, mg, base, fun c => if c ∈ t.cls then gA K c else none, fun c => if c ∈ t.xs then gA K c else none⟩
open Classical in
noncomputable def tabOf (K : PySem.W.Frag) (t : Tb) : Str → Option DI := fun f => match t.ds.find? (fun d => d.key == f) with
  | some d => if h : DsOk K d then some ⟨d.x, d.qual, L2.defArgs d.st, L2.defBody d.st, L2.defScope d.st, h.choose, h.choose_spec.choose, d.N, d.ps, d.g⟩ else none
  | none => none
theorem tabOf_at {K : PySem.W.Frag} {t : Tb} {f : Str} {d : DS} (hf : t.ds.find? (fun d => d.key == f) = some d) (h : DsOk K d) : ∃ i, tabOf K t f = some i ∧ DsAt K d.own d.x i.a := by
  unfold tabOf
  rw [hf]
  simp only [h, dif_pos]
  exact ⟨_, rfl, h.choose_spec.choose_spec.1⟩
theorem prg_ok {cc : CC} {t : Tb} {P : Program} {w : World} {K : PySem.W.Frag} {mg : Str → Option Value} {base : Heap} {h : Heap} (X : K.In h) (G : h.Ns mainGlobals mg) (C : TbC cc t) (O : TbK K t) : PrgOk (wdOf t P w K mg base) cc t.prg (tabOf K t) where
  tab := fun f i hi => by
    unfold tabOf at hi
    split at hi
    · rename_i d hd
      split at hi
      · rename_i hok
        cases hi
        have hm : d ∈ t.ds := List.mem_of_find?_eq_some hd
        have c := C.ds d hm
        have q := hok.choose_spec.choose_spec
        refine ⟨q.2, q.2.bindsN c.bind, c.sc, c.np, ?_, c.cmp⟩
        show (t.ds.find? fun d => d.key == f).map _ = _
        rw [hd]
        rfl
      · cases hi
    · cases hi
  fn := fun x hx => by
    obtain ⟨d, h1, h2, h3⟩ := C.fn x hx
    have hok := O.ds d (List.mem_of_find?_eq_some h1)
    obtain ⟨i, e1, e2⟩ := tabOf_at h1 hok
    obtain ⟨a, fd, q1, q2⟩ := hok
    rw [h2, h3] at e2
    have e3 : i.a = a := by
      rw [h2, h3] at q1
      exact DsAt.one (own := none) e2 q1
    exact ⟨i, e1, PySem.W.mg_of X G e2, by rw [e3]; exact q2.kp⟩
  cls := fun x init hx => by
    obtain ⟨h1, h2⟩ := C.cls x init hx
    obtain ⟨A, q1, q2, q3, q4, q5⟩ := O.cls x h1
    obtain ⟨A', a, d, r1, r2, r3, r4, r5, r6⟩ := O.mt _ h2
    have e := q1.symm.trans r1
    cases e
    obtain ⟨i, e1, e2⟩ := tabOf_at r3 (O.ds d (List.mem_of_find?_eq_some r3))
    have e3 := e2.one r4
    refine ⟨_, i, e1, ?_, PySem.W.mg_of X G q1, ⟨q3, by rw [e3]; exact r2, by rw [e3]; exact r5, q4⟩⟩
    show (if x ∈ t.cls then gA K x else none) = _
    rw [if_pos h1, gA_of q1]
  meth := fun c m f hf => by
    have hf : (t.mt.find? fun e => e.1 == c && e.2.1 == m).map (·.2.2) = some f := hf
    rw [Option.map_eq_some_iff] at hf
    obtain ⟨⟨c', m', f'⟩, h1, h2⟩ := hf
    have hm := List.mem_of_find?_eq_some h1
    have hp := List.find?_some h1
    simp only [Bool.and_eq_true, beq_iff_eq] at hp
    obtain ⟨rfl, rfl⟩ := hp
    have h2 : f' = f := h2
    subst h2
    have hc := C.mt _ hm
    obtain ⟨A', a, d, r1, r2, r3, r4, r5, r6⟩ := O.mt _ hm
    obtain ⟨A, q1, q2, q3, q4, q5⟩ := O.cls c' hc
    have e := q1.symm.trans r1
    cases e
    obtain ⟨i, e1, e2⟩ := tabOf_at r3 (O.ds d (List.mem_of_find?_eq_some r3))
    have e3 := e2.one r4
    refine ⟨_, i, e1, ?_, q2, ⟨by rw [e3]; exact r2, by rw [e3]; exact r5, by rw [e3]; exact r6⟩⟩
    show (if c' ∈ t.cls then gA K c' else none) = _
    rw [if_pos hc, gA_of q1]
  glb := fun x d hx => by
    obtain ⟨u, v, h1, h2, h3⟩ := O.gl _ (C.glb x d hx)
    exact ⟨u, v, PySem.W.mg_of X G h1, h2, h3 _⟩
  blt := fun x hx => PySem.W.mg_none_of X G (O.blt x hx)
  fld := fun f hf c A hc => by
    have hc : (if c ∈ t.cls then gA K c else none) = some A := hc
    split at hc
    · rename_i hm
      obtain ⟨A', q1, q2, q3, q4, q5⟩ := O.cls c hm
      have e := (gA_ns hc).symm.trans q1
      cases e
      exact ⟨q2, q5 f (C.fld f hf)⟩
    · cases hc
  exc := fun x cs hx => by
    obtain ⟨h0, ⟨A, q1, q2, q3, q4, q5⟩, hp⟩ := O.xs _ (C.exc x cs hx)
    refine ⟨_, ?_, PySem.W.mg_of X G q1, q2, q3, q4, q5, fun y B hy => ?_⟩
    · show (if x ∈ t.xs then gA K x else none) = _
      rw [if_pos h0, gA_of q1]
    · have hy : (if y ∈ t.xs then gA K y else none) = some B := hy
      split at hy
      · rename_i hm
        obtain ⟨A', B', r1, r2, r3⟩ := hp y hm
        have e := (gA_ns hy).symm.trans r1
        cases e
        have e := q1.symm.trans r2
        cases e
        exact r3
      · cases hy
/-- what is promised of a law: True for every list of ints -/
def spL (K : PySem.W.Frag) (n : Nat) : Sp := fun vs H Q _ => ∃ (a : Addr) (ns : List Int), vs = [.ref a] ∧ SqL K H a (ns.map V.int) ∧ ns.length ≤ n ∧ Only H ∧ ∀ H', Q (.bl true) H'
theorem ints_reps {S : Wd} {ms : List Addr} {H : Hp} : ∀ ns : List Int, RepDs S ms H (ns.map V.int) (ns.map D.int)
  | [] => .nil
  | n :: ns => .cons (.int n) (ints_reps ns)
/-- THE LAW, reckoned -/
def Reck (t : Tb) (kk n : Nat) : Prop := ∀ ns : List Int, ns.length ≤ n → ∃ st, (t.prg |> fun P => (run P kk).call "law" [.fls (ns.map D.int)] []) = .ok (.vl (.bl true)) st
theorem law_fn {cc : CC} {t : Tb} {P : Program} {w : World} {K : PySem.W.Frag} {mg : Str → Option Value} {h : Heap} {fa : Addr} {kk n : Nat} {d : DS} {x : Str} (X : K.In h) (G : h.Ns mainGlobals mg) (C : TbC cc t) (O : TbK K t) (hd : t.ds.find? (fun d => d.key == ("law" : Str)) = some d) (ho : d.own = none) (hx : d.x = "law") (hps : d.ps = [x])
    (hmg : mg "law" = some (.ref fa)) (hR : Reck t kk n) :
    ∃ fd : FuncData, (∀ (s : Shared) (u : Value), BindsTo s fd ⟨[u], []⟩ [(x, u)]) ∧ ∀ base : Heap, K.In base → base.Ns mainGlobals mg → FnOk P w K mg base (L2.CX P w) (2 * kk) fa fd [x] (spL K n) := by
  have hm : d ∈ t.ds := List.mem_of_find?_eq_some hd
  obtain ⟨i, e1, e2⟩ := tabOf_at hd (O.ds d hm)
  rw [ho, hx] at e2
  have ea : fa = i.a := by
    have q := hmg.symm.trans (PySem.W.mg_of X G e2)
    cases q; rfl
  subst ea
  have PO : ∀ base, PrgOk (wdOf t P w K mg base) cc t.prg (tabOf K t) := fun base => prg_ok X G C O
  obtain ⟨t1, t2, t3, t4, t5, t6⟩ := (PO h).tab "law" i e1
  have hps2 : i.ps = [x] := by
    unfold tabOf at e1
    rw [hd] at e1
    simp only [O.ds d hm, dif_pos, Option.some.injEq] at e1
    rw [← e1]
    exact hps
  have hb2 : ∀ (kV doc pm : Value) (an : Option Addr) (cdv ct : Value) (us : List Value), us.length = i.ps.length → bindArgs (PySem.W.fnOf i.x i.qual i.params i.body i.scope .none kV doc pm an cdv ct) ⟨us, []⟩ = pure (i.ps.zip us) := by
    have q := (C.ds d hm).bind
    unfold tabOf at e1
    rw [hd] at e1
    simp only [O.ds d hm, dif_pos, Option.some.injEq] at e1
    rw [← e1]
    exact q
  refine ⟨i.fd, fun s u => ?_, fun base _ _ => ?_⟩
  · have q := t1.bindsA hb2 s [u] (by rw [hps2]; rfl)
    rw [hps2] at q
    exact q
  · have L := (lvl (PO base) sets_ok kk "law" i e1).ok
    rw [hps2] at L
    refine L.imp fun vs H Q E q => ?_
    obtain ⟨a, ns, rfl, hS, hl, hO, k⟩ := q
    obtain ⟨st, hr⟩ := hR ns hl
    have hz : SqZ K H a (ns.map V.int) := by
      rcases hS with (hS | ⟨o, hS⟩) | hS
      · rcases hO a with e | ⟨o, xs, e⟩
        · rw [e] at hS; cases hS
        · rw [e] at hS; cases hS
      · exact .inl ⟨o, hS⟩
      · exact .inr hS
    refine ⟨[], [], [.fls (ns.map D.int)], ⟨List.nodup_nil, rfl, fun n a o e => by simp at e⟩, .cons (.fls hz (ints_reps ns)) .nil, ?_⟩
    have hr' : (run t.prg kk).call "law" [.fls (ns.map D.int)] [] = .ok (.vl (.bl true)) st := hr
    rw [hr']
    intro v ms' H' _ _ p
    have p : RepD (wdOf t P w K mg base) ms' H' v (.bl true) := p
    cases p
    exact k H'
theorem law_walk {l : PySem.W.OpenLaw} {q : Program} {loose : List Str} {XP : (Str → Option Value) → Heap → Prop} {YP : World → Heap → Prop} {dr : DefRec} {K : Params → PySem.W.Frag} {cc : CC} {t : Tb} {kk n : Nat} {d : DS} {x : Str}
    (hn : l.most = some n) (hn2 : n ≤ sizeLine) (hdf : dr.params.defaults = []) (hnm : dr.name = "law") (hr : Room (2 * kk) callerA) (hY : ∀ (w : World) (h : Heap), YP w h → (K w.params).In h) (C : TbC cc t) (hd : t.ds.find? (fun d => d.key == ("law" : Str)) = some d) (ho : d.own = none) (hx : d.x = "law") (hps : d.ps = [x]) (hR : Reck t kk n)
    (O : ∀ (w : World) (h : Heap), (K w.params).In h → TbK (K w.params) t) : PySem.W.WalkO q loose XP YP l.row.toRowW dr [] (fun f vs => PySem.call f vs) :=
  L2.walk_of (n := n) (k := 2 * kk) (x := x) (CX := fun w => L2.CX l.prog w) (sp := fun w => spL (K w.params) n) hn hn2 hdf hr hY
    (fun w mg fa h X G hmg => law_fn X G C (O w h X) hd ho hx hps (by rw [← hnm]; exact hmg) hR)
    (fun _ _ a ns hl hO hS => ⟨a, ns, rfl, hS, hl, hO, fun _ => rfl⟩) fun _ _ _ _ _ z => by
      obtain ⟨_, _, _, _, _, _, _, _, _, _, _, _, z⟩ := z
      exact z

inductive AllL {α : Type} (P : α → Prop) : List α → Prop
  | nil : AllL P []
  | cons {a : α} {l : List α} : P a → AllL P l → AllL P (a :: l)
theorem AllL.mem {α : Type} {P : α → Prop} {l : List α} (h : AllL P l) : ∀ x ∈ l, P x := by
  induction h with
  | nil => intro x hx; cases hx
  | cons ha _ ih =>
    intro x hx
    rcases List.mem_cons.mp hx with rfl | hx
    · exact ha
    · exact ih x hx
theorem AllL.get {α : Type} {P : α → Prop} {l : List α} (h : AllL P l) (i : Nat) {a : α} (e : l[i]? = some a) : P a := h.mem a (List.mem_of_getElem? e)
theorem lookup_mem {α : Type} : ∀ {l : List (Str × α)} {x : Str} {d : α}, l.lookup x = some d → (x, d) ∈ l
  | (y, e) :: l, x, d, h => by
    rw [List.lookup_cons] at h
    split at h
    · rename_i hb
      cases h
      rw [beq_iff_eq] at hb
      rw [hb]
      exact List.mem_cons_self
    · exact List.mem_cons_of_mem _ (lookup_mem h)
theorem tbc_mk {mus fns : List Str} {ini : List (Str × Str)} {t : Tb} (hds : AllL (DsC (ccOf fns ini t.gl t.ex t.flds mus)) t.ds) (hfn : AllL (fun x => ∃ d, t.ds.find? (fun d => d.key == x) = some d ∧ d.own = none ∧ d.x = x) fns)
    (hini : (ini.all fun e => decide (e.1 ∈ t.cls) && decide ((e.1, ("__init__" : Str), e.2) ∈ t.mt)) = true) (hmt : (t.mt.all fun e => decide (e.1 ∈ t.cls)) = true) : TbC (ccOf fns ini t.gl t.ex t.flds mus) t where
  ds := hds.mem
  fn := fun x hx => hfn.mem x (by simpa [ccOf] using hx)
  cls := fun x i hx => by
    have := List.all_eq_true.mp hini _ (lookup_mem hx)
    simpa using this
  mt := fun e he => by
    have := List.all_eq_true.mp hmt e he
    simpa using this
  glb := fun x d hx => lookup_mem hx
  fld := fun f hf => by simpa [ccOf] using hf
  exc := fun x cs hx => lookup_mem hx
theorem xs_mk {K : PySem.W.Frag} {t : Tb} {x : Str} {cs : List Str} {A : Addr} (h0 : decide (x ∈ t.xs) = true) (a : PySem.W.nsIn K mainGlobals x = some (some (.ref A))) (k : PySem.W.keepIn K (.ref A) = true) (e : PySem.W.excIn K A [.type "ValueError", .type "Exception", .type "BaseException", .type "object"] "ValueError.__new__" = true)
    (s : PySem.W.subIn K (.ref A) (.type "BaseException") = some true) (ty : PySem.W.typeIn K (.ref A) = some (.type "type")) (hp : AllL (fun y => XpOk K y x (decide (y ∈ cs))) t.xs) : (fun e : Str × List Str => e.1 ∈ t.xs ∧ XsOk K e.1 ∧ AllL (fun y => XpOk K y e.1 (decide (y ∈ e.2))) t.xs) (x, cs) :=
  ⟨of_decide_eq_true h0, ⟨A, a, k, e, s, ty⟩, hp⟩
theorem xp_mk {K : PySem.W.Frag} {y x : Str} {cs : List Str} {A B : Addr} {b : Bool} (h1 : PySem.W.nsIn K mainGlobals y = some (some (.ref B))) (h2 : PySem.W.nsIn K mainGlobals x = some (some (.ref A))) (b1 : PySem.W.subIn K (.ref A) (.type "BaseException") = some true) (i1 : PySem.W.isClsIn K A = true) (t1 : PySem.W.typeIn K (.ref A) = some (.type "type"))
    (s1 : PySem.W.subIn K (.ref B) (.ref A) = some b) (hb : b = decide (y ∈ cs)) : XpOk K y x (decide (y ∈ cs)) := by
  refine ⟨A, B, h1, h2, ?_⟩
  have h3 : (PySem.W.clsIn K A).isSome = true := i1
  unfold PySem.W.exmOne PySem.W.kitCls
  rw [b1]
  simp only [h3, t1, s1, hb]
  simp
theorem tbk_mk {K : PySem.W.Frag} {t : Tb} (h1 : AllL (DsOk K) t.ds) (h2 : AllL (DsOk K) t.ds → AllL (MtOk K t.ds) t.mt) (h3 : AllL (CsOk K t.flds) t.cls) (h4 : AllL (fun e : Str × D => GbOk K e.1 e.2) t.gl) (h5 : AllL (fun e : Str × List Str => e.1 ∈ t.xs ∧ XsOk K e.1 ∧ AllL (fun y => XpOk K y e.1 (decide (y ∈ e.2))) t.xs) t.ex)
    (h6 : AllL (fun x => PySem.W.nsIn K mainGlobals x = some none) (["range", "enumerate", "zip", "reversed", "len", "set", "sorted", "abs", "int", "all", "sum", "tuple", "list", "isinstance", "max", "min", "bool", "str"] : List Str)) : TbK K t :=
  ⟨h1.mem, (h2 h1).mem, h3.mem, h4.mem, fun e he => ⟨(h5.mem e he).1, (h5.mem e he).2.1, (h5.mem e he).2.2.mem⟩, h6.mem⟩
end Q


set_option Elab.async false
set_option linter.all false
set_option maxRecDepth 100000
set_option maxHeartbeats 4000000
set_option autoImplicit false
namespace K94
open PySem PySem.Spec PyProof.Rows L2 Q
def topS (i : Nat) : Stmt := PySem.Challenge.pw_rebut_k94_chains_refuted.main.body.getD i (.Pass ⟨0, 0, 0, 0⟩)
abbrev s_is_integer : Stmt := topS 5
abbrev s_is_number : Stmt := topS 6
abbrev s_is_ascending : Stmt := topS 7
abbrev s_is_clause : Stmt := topS 8
abbrev s_made_clause : Stmt := topS 9
abbrev s_check_count : Stmt := topS 10
abbrev s_made_formula : Stmt := topS 11
abbrev s_check_least : Stmt := topS 13
abbrev s_chain_formula : Stmt := topS 14
abbrev s_is_earlier : Stmt := topS 16
abbrev s_resolvent : Stmt := topS 17
abbrev s_axiom_clause : Stmt := topS 18
abbrev s_resolved_clause : Stmt := topS 19
abbrev s_weakened_clause : Stmt := topS 20
abbrev s_next_clause : Stmt := topS 21
abbrev s_Shortener_init : Stmt := inClass (topS 22) 0
abbrev s_Shortener_add : Stmt := inClass (topS 22) 1
abbrev s_Shortener_resolve : Stmt := inClass (topS 22) 2
abbrev s_link : Stmt := topS 24
abbrev s_chain_part : Stmt := topS 25
abbrev s_chain_tree : Stmt := topS 26
abbrev s_Deriver_axiom : Stmt := inClass (topS 27) 0
abbrev s_Deriver_joined : Stmt := inClass (topS 27) 1
abbrev s_chain_steps : Stmt := topS 28
abbrev s_law_cell : Stmt := topS 30
abbrev s_law_draws : Stmt := topS 31
abbrev s_law_is_int : Stmt := topS 32
abbrev s_law_ints : Stmt := topS 33
abbrev s_law_clause_of : Stmt := topS 34
abbrev s_law_of_rows : Stmt := topS 35
abbrev s_law_breaks : Stmt := topS 36
abbrev s_law_one : Stmt := topS 37
abbrev s_law_read : Stmt := topS 38
abbrev s_law_leaves : Stmt := topS 39
abbrev s_law : Stmt := topS 40
def m_is_integer : Es :=
  (sRet (eAnd (eOn (gIsA "int") (eVar 0)) (eNot (eOn (gIsA "bool") (eVar 0)))))
def m_is_number : Es :=
  (sRet (eAnd (eCall "is_integer" [(eVar 0)]) (eTest (tCmp .GtE (eVar 0) (eC (.int 0))))))
def m_is_ascending : Es :=
  (sRet (eOn gAll (eComp [1, 2] (srcZip (eVar 0) (eSl (eVar 0) (some (eC (.int 1))) none)) (.tp [(.nm 1), (.nm 2)]) tYes (eTest (tCmp .Lt (eVar 1) (eVar 2))))))
def m_is_clause : Es :=
  (sSeq (sIf (tOr (tNot (tTru (eOn (gIsA "tuple") (eVar 1)))) (tNot (tTru (eOn gAll (eComp [2] (srcOf (eVar 1)) (.nm 2) tYes (eFrz (eCall "is_integer" [(eVar 2)]))))))) (sRet (eC (.bl false))) sNext)
  (sSeq (sIf (tOr (tNot (tTru (eOn gAll (eComp [2] (srcOf (eVar 1)) (.nm 2) tYes (eTest (tChain .Lt .LtE (eC (.int 0)) (eOn gAbs (eVar 2)) (eVar 0))))))) (tNot (tTru (eCall "is_ascending" [(eVar 1)])))) (sRet (eC (.bl false))) sNext)
  (sRet (eOn gAll (eComp [2] (srcOf (eVar 1)) (.nm 2) tYes (eTest (tCmp .NotIn (eNeg (eVar 2)) (eVar 1))))))))
def m_made_clause : Es :=
  (sSeq (sIf (tTru (eComp [1] (srcOf (eVar 0)) (.nm 1) (tCmp .In (eNeg (eVar 1)) (eVar 0)) (eVar 1))) (sRet (eC .non)) sNext)
  (sRet (eOn gTuple (eOn gSortSet (eVar 0)))))
def m_check_count : Es :=
  (sIf (tOr (tCmp .Lt (eVar 0) (eC (.int 0))) (tCmp .Gt (eVar 0) (eC (.int 40)))) (sRaise "BadFormula") sNext)
def m_made_formula : Es :=
  (sSeq (sExpr (eCall "check_count" [(eVar 0)]))
  (sSeq (sFor (srcOf (eVar 1)) (.nm 2) (sIf (tNot (tTru (eOn gAll (eComp [4] (srcOf (eVar 2)) (.nm 4) tYes (eTest (tChain .Lt .LtE (eC (.int 0)) (eOn gAbs (eVar 4)) (eVar 0))))))) (sRaise "BadFormula") sNext))
  (sSeq (sAsg (.nm 3) (eComp [2] (srcOf (eVar 1)) (.nm 2) tYes (eFrz (eCall "made_clause" [(eVar 2)]))))
  (sRet (eTup [(eVar 0), (eFrz (eOn gTuple (eOn gSortSet (eComp [5] (srcOf (eVar 3)) (.nm 5) (tNotN (eVar 5)) (eVar 5)))))])))))
def m_check_least : Es :=
  (sIf (tCmp .Lt (eVar 0) (eC (.int 1))) (sRaise "BadFormula") sNext)
def m_chain_formula : Es :=
  (sSeq (sExpr (eCall "check_least" [(eVar 0)]))
  (sSeq (sExpr (eCall "check_count" [(eVar 0)]))
  (sRet (eCall "made_formula" [(eVar 0), (eFrz (eBin .Add (eLst [(eFrz (eLst [(eC (.int 1))])), (eFrz (eLst [(eNeg (eVar 0))]))]) (eComp [1] (srcRange2 (eC (.int 1)) (eVar 0)) (.nm 1) tYes (eFrz (eLst [(eNeg (eVar 1)), (eFrz (eBin .Add (eVar 1) (eC (.int 1))))])))))]))))
def m_is_earlier : Es :=
  (sRet (eAnd (eCall "is_number" [(eVar 0)]) (eTest (tCmp .Lt (eVar 0) (eVar 1)))))
def m_resolvent : Es :=
  (sSeq (sIf (tOr (tCmp .NotIn (eVar 2) (eVar 0)) (tCmp .NotIn (eNeg (eVar 2)) (eVar 1))) (sRet (eC .non)) sNext)
  (sRet (eCall "made_clause" [(eFrz (eBin .Add (eComp [3] (srcOf (eVar 0)) (.nm 3) (tCmp .NotEq (eVar 3) (eVar 2)) (eVar 3)) (eComp [4] (srcOf (eVar 1)) (.nm 4) (tCmp .NotEq (eVar 4) (eNeg (eVar 2))) (eVar 4))))])))
def m_axiom_clause : Es :=
  (sSeq (sIf (tOr (tCmp .NotEq (eOn gLen (eVar 1)) (eC (.int 2))) (tOr (tNot (tTru (eCall "is_number" [(eIx (eVar 1) (eC (.int 1)))]))) (tCmp .GtE (eIx (eVar 1) (eC (.int 1))) (eOn gLen (eIx (eVar 0) (eC (.int 1))))))) (sRet (eC .non)) sNext)
  (sRet (eIx (eIx (eVar 0) (eC (.int 1))) (eIx (eVar 1) (eC (.int 1))))))
def m_resolved_clause : Es :=
  (sSeq (sIf (tOr (tCmp .NotEq (eOn gLen (eVar 2)) (eC (.int 4))) (tOr (tNot (tTru (eCall "is_earlier" [(eIx (eVar 2) (eC (.int 1))), (eFrz (eOn gLen (eVar 1)))]))) (tNot (tTru (eCall "is_earlier" [(eIx (eVar 2) (eC (.int 2))), (eFrz (eOn gLen (eVar 1)))]))))) (sRet (eC .non)) sNext)
  (sSeq (sIf (tOr (tNot (tTru (eCall "is_number" [(eIx (eVar 2) (eC (.int 3)))]))) (tNot (tChain .Lt .LtE (eC (.int 0)) (eIx (eVar 2) (eC (.int 3))) (eIx (eVar 0) (eC (.int 0)))))) (sRet (eC .non)) sNext)
  (sRet (eCall "resolvent" [(eIx (eVar 1) (eIx (eVar 2) (eC (.int 1)))), (eIx (eVar 1) (eIx (eVar 2) (eC (.int 2)))), (eIx (eVar 2) (eC (.int 3)))]))))
def m_weakened_clause : Es :=
  (sSeq (sIf (tOr (tCmp .NotEq (eOn gLen (eVar 2)) (eC (.int 3))) (tOr (tNot (tTru (eCall "is_earlier" [(eIx (eVar 2) (eC (.int 1))), (eFrz (eOn gLen (eVar 1)))]))) (tNot (tTru (eCall "is_clause" [(eIx (eVar 0) (eC (.int 0))), (eIx (eVar 2) (eC (.int 2)))]))))) (sRet (eC .non)) sNext)
  (sRet (eIf (tTru (eOn gAll (eComp [3] (srcOf (eIx (eVar 1) (eIx (eVar 2) (eC (.int 1))))) (.nm 3) tYes (eTest (tCmp .In (eVar 3) (eIx (eVar 2) (eC (.int 2)))))))) (eIx (eVar 2) (eC (.int 2))) (eC .non))))
def m_next_clause : Es :=
  (sSeq (sIf (tAnd (tCmp .Gt (eOn gLen (eVar 2)) (eC (.int 0))) (tCmp .Eq (eIx (eVar 2) (eC (.int 0))) (eC (.str "axiom")))) (sRet (eCall "axiom_clause" [(eVar 0), (eVar 2)])) sNext)
  (sSeq (sIf (tAnd (tCmp .Gt (eOn gLen (eVar 2)) (eC (.int 0))) (tCmp .Eq (eIx (eVar 2) (eC (.int 0))) (eC (.str "resolve")))) (sRet (eCall "resolved_clause" [(eVar 0), (eVar 1), (eVar 2)])) sNext)
  (sSeq (sIf (tAnd (tCmp .Gt (eOn gLen (eVar 2)) (eC (.int 0))) (tCmp .Eq (eIx (eVar 2) (eC (.int 0))) (eC (.str "weaken")))) (sRet (eCall "weakened_clause" [(eVar 0), (eVar 1), (eVar 2)])) sNext)
  (sRet (eC .non)))))
def m_Shortener_init : Es :=
  (sSeq (sFld (eVar 0) "formula" (eVar 1))
  (sSeq (sFld (eVar 0) "steps" (eLst []))
  (sFld (eVar 0) "clauses" (eLst []))))
def m_Shortener_add : Es :=
  (sSeq (sExpr (eAppend (eFld (eVar 0) "clauses") (eFrz (eCall "next_clause" [(eFld (eVar 0) "formula"), (eFld (eVar 0) "clauses"), (eVar 1)]))))
  (sSeq (sExpr (eAppend (eFld (eVar 0) "steps") (eVar 1)))
  (sRet (eBin .Sub (eOn gLen (eFld (eVar 0) "steps")) (eC (.int 1))))))
def m_Shortener_resolve : Es :=
  (sSeq (sIf (tCmp .NotIn (eVar 3) (eIx (eFld (eVar 0) "clauses") (eVar 1))) (sRet (eVar 1)) sNext)
  (sSeq (sIf (tCmp .NotIn (eNeg (eVar 3)) (eIx (eFld (eVar 0) "clauses") (eVar 2))) (sRet (eVar 2)) sNext)
  (sRet (eMeth (eVar 0) "add" [(eTup [(eC (.str "resolve")), (eVar 1), (eVar 2), (eVar 3)])]))))
def m_link : Es :=
  (sSeq (sIf (tCmp .Eq (eVar 2) (eC (.int 0))) (sRet (eTup [(eC (.str "leaf")), (eFrz (eIndex (eIx (eVar 0) (eC (.int 1))) (eTup [(eC (.int 1))])))])) sNext)
  (sRet (eTup [(eC (.str "leaf")), (eFrz (eIndex (eIx (eVar 0) (eC (.int 1))) (eIf (tCmp .Eq (eVar 2) (eVar 1)) (eTup [(eNeg (eVar 1))]) (eTup [(eNeg (eVar 2)), (eFrz (eBin .Add (eVar 2) (eC (.int 1))))]))))])))
def m_chain_part : Es :=
  (sSeq (sIf (tCmp .Eq (eVar 2) (eVar 3)) (sRet (eCall "link" [(eVar 0), (eVar 1), (eVar 2)])) sNext)
  (sSeq (sAsg (.nm 4) (eFrz (eBin .FloorDiv (eBin .Add (eBin .Add (eVar 2) (eVar 3)) (eC (.int 1))) (eC (.int 2)))))
  (sRet (eTup [(eC (.str "ask")), (eVar 4), (eFrz (eCall "chain_part" [(eVar 0), (eVar 1), (eVar 2), (eFrz (eBin .Sub (eVar 4) (eC (.int 1))))])), (eFrz (eCall "chain_part" [(eVar 0), (eVar 1), (eVar 4), (eVar 3)]))]))))
def m_chain_tree : Es :=
  (sRet (eCall "chain_part" [(eFrz (eCall "chain_formula" [(eVar 0)])), (eVar 0), (eC (.int 0)), (eVar 0)]))
def m_Deriver_axiom : Es :=
  (sRet (eMeth (eVar 0) "add" [(eTup [(eC (.str "axiom")), (eFrz (eIndex (eIx (eFld (eVar 0) "formula") (eC (.int 1))) (eCall "made_clause" [(eVar 1)])))])]))
def m_Deriver_joined : Es :=
  (sSeq (sIf (tCmp .Gt (eVar 3) (eC (.int 0))) (sRet (eMeth (eVar 0) "add" [(eTup [(eC (.str "resolve")), (eVar 1), (eVar 2), (eVar 3)])])) sNext)
  (sRet (eMeth (eVar 0) "add" [(eTup [(eC (.str "resolve")), (eVar 2), (eVar 1), (eNeg (eVar 3))])])))
def m_chain_steps : Es :=
  (sSeq (sAsg (.nm 1) (eFrz (eNew "Deriver" "Shortener.__init__" [(eFrz (eCall "chain_formula" [(eVar 0)]))])))
  (sSeq (sAsg (.nm 2) (eFrz (eMeth (eVar 1) "axiom" [(eFrz (eLst [(eC (.int 1))]))])))
  (sSeq (sFor (srcRange2 (eC (.int 1)) (eVar 0)) (.nm 3) (sAsg (.nm 2) (eFrz (eMeth (eVar 1) "joined" [(eVar 2), (eFrz (eMeth (eVar 1) "axiom" [(eFrz (eLst [(eNeg (eVar 3)), (eFrz (eBin .Add (eVar 3) (eC (.int 1))))]))])), (eVar 3)]))))
  (sSeq (sExpr (eMeth (eVar 1) "joined" [(eVar 2), (eFrz (eMeth (eVar 1) "axiom" [(eFrz (eLst [(eNeg (eVar 0))]))])), (eVar 0)]))
  (sRet (eOn gTuple (eFld (eVar 1) "steps")))))))
def m_law_cell : Es :=
  (sSeq (sIf (tCmp .Lt (eVar 1) (eOn gLen (eVar 0))) (sRet (eIx (eVar 0) (eVar 1))) sNext)
  (sRet (eC (.int 0))))
def m_law_draws : Es :=
  (sSeq (sAsg (.nm 2) (eLst []))
  (sSeq (sAsg (.nm 3) (eVar 0))
  (sSeq (sFor (srcRange1 (eVar 1)) (.nm 4) (sIf (tAnd (tCmp .GtE (eVar 0) (eBin .Pow (eC (.int 10)) (eC (.int 18)))) (tCmp .Gt (eVar 3) (eC (.int 0)))) (sSeq (sExpr (eAppend (eVar 2) (eFrz (eBin .Mod (eOn gInt (eVar 3)) (eC (.int 4096))))))
  (sAsg (.nm 3) (eFrz (eBin .FloorDiv (eVar 3) (eC (.int 4096)))))) (sSeq (sAsg (.nm 5) (eFrz (eBin .Mod (eOn gInt (eBin .Add (eBin .Mult (eVar 0) (eC (.int 48271))) (eBin .Mult (eBin .Add (eVar 4) (eC (.int 1))) (eC (.int 69621))))) (eC (.int 2147483647)))))
  (sSeq (sAsg (.nm 5) (eFrz (eBin .Mod (eOn gInt (eBin .Add (eBin .Add (eBin .Mult (eVar 5) (eVar 5)) (eBin .Mult (eVar 5) (eC (.int 16807)))) (eBin .Mult (eVar 4) (eC (.int 7919))))) (eC (.int 2147483629)))))
  (sSeq (sAsg (.nm 5) (eFrz (eBin .Mod (eOn gInt (eBin .Add (eBin .Add (eBin .Mult (eVar 5) (eVar 5)) (eVar 0)) (eBin .Mult (eC (.int 13)) (eVar 4)))) (eC (.int 2147483587)))))
  (sExpr (eAppend (eVar 2) (eFrz (eBin .Mod (eBin .FloorDiv (eVar 5) (eC (.int 7))) (eC (.int 4096)))))))))))
  (sRet (eVar 2)))))
def m_law_is_int : Es :=
  (sRet (eAnd (eOn (gIsA "int") (eVar 0)) (eNot (eOn (gIsA "bool") (eVar 0)))))
def m_law_ints : Es :=
  (sSeq (sIf (tCmp .Eq (eVar 1) (eC (.str "list"))) (sIf (tNot (tTru (eOn (gIsA "list") (eVar 0)))) (sRet (eC (.bl false))) sNext) (sIf (tNot (tTru (eOn (gIsA "tuple") (eVar 0)))) (sRet (eC (.bl false))) sNext))
  (sSeq (sFor (srcRange1 (eOn gLen (eVar 0))) (.nm 2) (sIf (tNot (tTru (eCall "_law_is_int" [(eIx (eVar 0) (eVar 2))]))) (sRet (eC (.bl false))) sNext))
  (sRet (eC (.bl true)))))
def m_law_clause_of : Es :=
  (sSeq (sAsg (.nm 1) (eLst []))
  (sSeq (sFor (srcOf (eOn gSorted (eVar 0))) (.nm 2) (sSeq (sIf (tCmp .In (eNeg (eVar 2)) (eVar 0)) (sRet (eC .non)) sNext)
  (sIf (tCmp .NotIn (eVar 2) (eVar 1)) (sExpr (eAppend (eVar 1) (eVar 2))) sNext)))
  (sRet (eOn gTuple (eVar 1)))))
def m_law_of_rows : Es :=
  (sSeq (sAsg (.nm 2) (eLst []))
  (sSeq (sFor (srcOf (eVar 1)) (.nm 3) (sSeq (sAsg (.nm 4) (eFrz (eCall "_law_clause_of" [(eVar 3)])))
  (sIf (tAnd (tNotN (eVar 4)) (tCmp .NotIn (eVar 4) (eVar 2))) (sExpr (eAppend (eVar 2) (eVar 4))) sNext)))
  (sRet (eTup [(eVar 0), (eFrz (eOn gTuple (eOn gSorted (eVar 2))))]))))
def m_law_breaks : Es :=
  (sRet (eTest (tCmp .Eq (eOn gLen (eComp [2] (srcOf (eVar 1)) (.nm 2) (tCmp .NotIn (eNeg (eVar 2)) (eVar 0)) (eVar 2))) (eC (.int 0)))))
def m_law_one : Es :=
  (sSeq (sIf (tAnd (tCmp .Eq (eOn gLen (eVar 2)) (eC (.int 2))) (tAnd (tCmp .Eq (eIx (eVar 2) (eC (.int 0))) (eC (.str "axiom"))) (tAnd (tTru (eCall "_law_is_int" [(eIx (eVar 2) (eC (.int 1)))])) (tInRange (eIx (eVar 2) (eC (.int 1))) (eOn gLen (eIx (eVar 0) (eC (.int 1)))))))) (sRet (eIx (eIx (eVar 0) (eC (.int 1))) (eIx (eVar 2) (eC (.int 1))))) sNext)
  (sSeq (sIf (tOr (tCmp .NotEq (eOn gLen (eVar 2)) (eC (.int 4))) (tOr (tCmp .NotEq (eIx (eVar 2) (eC (.int 0))) (eC (.str "resolve"))) (tNot (tTru (eCall "_law_ints" [(eFrz (eSl (eVar 2) (some (eC (.int 1))) none)), (eC (.str "tuple"))]))))) (sRet (eC .non)) sNext)
  (sSeq (sIf (tOr (tNot (tInRange (eIx (eVar 2) (eC (.int 1))) (eOn gLen (eVar 1)))) (tNot (tInRange (eIx (eVar 2) (eC (.int 2))) (eOn gLen (eVar 1))))) (sRet (eC .non)) sNext)
  (sSeq (sAsg (.nm 3) (eIx (eVar 1) (eIx (eVar 2) (eC (.int 1)))))
  (sSeq (sAsg (.nm 4) (eIx (eVar 1) (eIx (eVar 2) (eC (.int 2)))))
  (sSeq (sIf (tOr (tCmp .NotIn (eIx (eVar 2) (eC (.int 3))) (eVar 3)) (tCmp .NotIn (eNeg (eIx (eVar 2) (eC (.int 3)))) (eVar 4))) (sRet (eC .non)) sNext)
  (sRet (eCall "_law_clause_of" [(eFrz (eBin .Add (eComp [5] (srcOf (eVar 3)) (.nm 5) (tCmp .NotEq (eVar 5) (eIx (eVar 2) (eC (.int 3)))) (eVar 5)) (eComp [5] (srcOf (eVar 4)) (.nm 5) (tCmp .NotEq (eVar 5) (eNeg (eIx (eVar 2) (eC (.int 3))))) (eVar 5))))]))))))))
def m_law_read : Es :=
  (sSeq (sAsg (.nm 2) (eLst []))
  (sSeq (sFor (srcRange1 (eOn gLen (eVar 1))) (.nm 3) (sSeq (sAsg (.nm 4) (eIx (eVar 1) (eVar 3)))
  (sIf (tAnd (tCmp .Eq (eOn gLen (eVar 4)) (eC (.int 3))) (tAnd (tCmp .Eq (eIx (eVar 4) (eC (.int 0))) (eC (.str "weaken"))) (tAnd (tTru (eCall "_law_is_int" [(eIx (eVar 4) (eC (.int 1)))])) (tInRange (eIx (eVar 4) (eC (.int 1))) (eVar 3))))) (sSeq (sIf (tOr (tCmp .Gt (eOn gLen (eComp [6] (srcOf (eIx (eVar 2) (eIx (eVar 4) (eC (.int 1))))) (.nm 6) (tCmp .NotIn (eVar 6) (eIx (eVar 4) (eC (.int 2)))) (eVar 6))) (eC (.int 0))) (tCmp .NotEq (eCall "_law_clause_of" [(eFrz (eOn gList (eIx (eVar 4) (eC (.int 2)))))]) (eIx (eVar 4) (eC (.int 2))))) (sRet (eC .non)) sNext)
  (sExpr (eAppend (eVar 2) (eIx (eVar 4) (eC (.int 2)))))) (sSeq (sAsg (.nm 5) (eFrz (eCall "_law_one" [(eVar 0), (eVar 2), (eVar 4)])))
  (sSeq (sIf (tIsN (eVar 5)) (sRet (eC .non)) sNext)
  (sExpr (eAppend (eVar 2) (eVar 5))))))))
  (sRet (eVar 2))))
def m_law_leaves : Es :=
  (sSeq (sIf (tCmp .Eq (eIx (eVar 1) (eC (.int 0))) (eC (.str "leaf"))) (sSeq (sIf (tNot (tTru (eCall "_law_breaks" [(eVar 2), (eIx (eIx (eVar 0) (eC (.int 1))) (eIx (eVar 1) (eC (.int 1))))]))) (sRet (eC .non)) sNext)
  (sRet (eLst [(eC (.int 1)), (eC (.int 0))]))) sNext)
  (sSeq (sIf (tOr (tCmp .In (eIx (eVar 1) (eC (.int 1))) (eVar 2)) (tCmp .In (eNeg (eIx (eVar 1) (eC (.int 1)))) (eVar 2))) (sRet (eC .non)) sNext)
  (sSeq (sAsg (.nm 3) (eFrz (eCall "_law_leaves" [(eVar 0), (eIx (eVar 1) (eC (.int 2))), (eFrz (eBin .Add (eVar 2) (eTup [(eNeg (eIx (eVar 1) (eC (.int 1))))])))])))
  (sSeq (sAsg (.nm 4) (eFrz (eCall "_law_leaves" [(eVar 0), (eIx (eVar 1) (eC (.int 3))), (eFrz (eBin .Add (eVar 2) (eTup [(eIx (eVar 1) (eC (.int 1)))])))])))
  (sSeq (sIf (tOr (tIsN (eVar 3)) (tIsN (eVar 4))) (sRet (eC .non)) sNext)
  (sRet (eLst [(eFrz (eBin .Add (eIx (eVar 3) (eC (.int 0))) (eIx (eVar 4) (eC (.int 0))))), (eFrz (eBin .Add (eC (.int 1)) (eMax2 (eIx (eVar 3) (eC (.int 1))) (eIx (eVar 4) (eC (.int 1))))))])))))))
def m_law : Es :=
  (sSeq (sAsg (.nm 1) (eFrz (eCall "_law_draws" [(eFrz (eCall "_law_cell" [(eVar 0), (eC (.int 0))])), (eC (.int 3))])))
  (sSeq (sAsg (.nm 2) (eFrz (eBin .Add (eC (.int 1)) (eBin .Mod (eIx (eVar 1) (eC (.int 0))) (eIx (eLst [(eC (.int 6)), (eC (.int 40))]) (eBin .Mod (eIx (eVar 1) (eC (.int 1))) (eC (.int 2))))))))
  (sSeq (sAsg (.nm 3) (eFrz (eCall "_law_of_rows" [(eVar 2), (eFrz (eBin .Add (eLst [(eFrz (eLst [(eC (.int 1))])), (eFrz (eLst [(eNeg (eVar 2))]))]) (eComp [11] (srcRange2 (eC (.int 1)) (eVar 2)) (.nm 11) tYes (eFrz (eLst [(eNeg (eVar 11)), (eFrz (eBin .Add (eVar 11) (eC (.int 1))))])))))])))
  (sSeq (sAsg (.nm 4) (eCall "_law_leaves" [(eVar 3), (eFrz (eCall "chain_tree" [(eVar 2)])), (eTup [])]))
  (sSeq (sAsg (.nm 5) (eC (.int 0)))
  (sSeq (sAsg (.nm 6) (eC (.int 1)))
  (sSeq (sFor (srcRange1 (eC (.int 8))) (.nm 7) (sIf (tCmp .Lt (eVar 6) (eBin .Add (eVar 2) (eC (.int 1)))) (sSeq (sAsg (.nm 6) (eFrz (eBin .Mult (eC (.int 2)) (eVar 6))))
  (sAsg (.nm 5) (eFrz (eBin .Add (eVar 5) (eC (.int 1)))))) sNext))
  (sSeq (sIf (tCmp .NotEq (eVar 4) (eLst [(eFrz (eBin .Add (eVar 2) (eC (.int 1)))), (eVar 5)])) (sRet (eC (.bl false))) sNext)
  (sSeq (sAsg (.nm 8) (eFrz (eCall "chain_steps" [(eVar 2)])))
  (sSeq (sIf (tOr (tNot (tTru (eOn (gIsA "tuple") (eVar 8)))) (tCmp .Gt (eOn gLen (eVar 8)) (eBin .Add (eBin .Mult (eC (.int 2)) (eVar 2)) (eC (.int 1))))) (sRet (eC (.bl false))) sNext)
  (sSeq (sAsg (.nm 9) (eFrz (eCall "_law_read" [(eVar 3), (eVar 8)])))
  (sSeq (sIf (tOr (tIsN (eVar 9)) (tOr (tCmp .NotEq (eIx (eVar 9) (eNeg (eC (.int 1)))) (eTup [])) (tCmp .Gt (eOn gLen (eComp [12] (srcOf (eVar 9)) (.nm 12) (tCmp .Gt (eOn gLen (eVar 12)) (eC (.int 2))) (eVar 12))) (eC (.int 0))))) (sRet (eC (.bl false))) sNext)
  (sSeq (sFor (srcOf (eLst [(eC (.int 0)), (eFrz (eBin .Sub (eNeg (eC (.int 1))) (eIx (eVar 1) (eC (.int 2))))), (eFrz (eBin .Add (eC (.int 41)) (eIx (eVar 1) (eC (.int 2)))))])) (.nm 10) (sSeq (sTry (sExpr (eCall "chain_tree" [(eVar 10)])) ["BadFormula"] sCont)
  (sRet (eC (.bl false)))))
  (sRet (eC (.bl true))))))))))))))))
def d_is_integer : DS := ⟨"is_integer", none, "is_integer", "is_integer", s_is_integer, ["value"], ["value"], m_is_integer⟩
def d_is_number : DS := ⟨"is_number", none, "is_number", "is_number", s_is_number, ["value"], ["value"], m_is_number⟩
def d_is_ascending : DS := ⟨"is_ascending", none, "is_ascending", "is_ascending", s_is_ascending, ["items", "first", "second"], ["items"], m_is_ascending⟩
def d_is_clause : DS := ⟨"is_clause", none, "is_clause", "is_clause", s_is_clause, ["n", "value", "literal"], ["n", "value"], m_is_clause⟩
def d_made_clause : DS := ⟨"made_clause", none, "made_clause", "made_clause", s_made_clause, ["literals", "literal"], ["literals"], m_made_clause⟩
def d_check_count : DS := ⟨"check_count", none, "check_count", "check_count", s_check_count, ["n"], ["n"], m_check_count⟩
def d_made_formula : DS := ⟨"made_formula", none, "made_formula", "made_formula", s_made_formula, ["n", "rows", "row", "clauses", "literal", "clause"], ["n", "rows"], m_made_formula⟩
def d_check_least : DS := ⟨"check_least", none, "check_least", "check_least", s_check_least, ["number"], ["number"], m_check_least⟩
def d_chain_formula : DS := ⟨"chain_formula", none, "chain_formula", "chain_formula", s_chain_formula, ["n", "i"], ["n"], m_chain_formula⟩
def d_is_earlier : DS := ⟨"is_earlier", none, "is_earlier", "is_earlier", s_is_earlier, ["value", "k"], ["value", "k"], m_is_earlier⟩
def d_resolvent : DS := ⟨"resolvent", none, "resolvent", "resolvent", s_resolvent, ["first", "second", "v", "a", "b"], ["first", "second", "v"], m_resolvent⟩
def d_axiom_clause : DS := ⟨"axiom_clause", none, "axiom_clause", "axiom_clause", s_axiom_clause, ["formula", "step"], ["formula", "step"], m_axiom_clause⟩
def d_resolved_clause : DS := ⟨"resolved_clause", none, "resolved_clause", "resolved_clause", s_resolved_clause, ["formula", "clauses", "step"], ["formula", "clauses", "step"], m_resolved_clause⟩
def d_weakened_clause : DS := ⟨"weakened_clause", none, "weakened_clause", "weakened_clause", s_weakened_clause, ["formula", "clauses", "step", "literal"], ["formula", "clauses", "step"], m_weakened_clause⟩
def d_next_clause : DS := ⟨"next_clause", none, "next_clause", "next_clause", s_next_clause, ["formula", "clauses", "step"], ["formula", "clauses", "step"], m_next_clause⟩
def d_Shortener_init : DS := ⟨"Shortener.__init__", (some "Shortener"), "__init__", "Shortener.__init__", s_Shortener_init, ["self", "formula"], ["self", "formula"], m_Shortener_init⟩
def d_Shortener_add : DS := ⟨"Shortener.add", (some "Shortener"), "add", "Shortener.add", s_Shortener_add, ["self", "step"], ["self", "step"], m_Shortener_add⟩
def d_Shortener_resolve : DS := ⟨"Shortener.resolve", (some "Shortener"), "resolve", "Shortener.resolve", s_Shortener_resolve, ["self", "a", "b", "v"], ["self", "a", "b", "v"], m_Shortener_resolve⟩
def d_link : DS := ⟨"link", none, "link", "link", s_link, ["formula", "n", "i"], ["formula", "n", "i"], m_link⟩
def d_chain_part : DS := ⟨"chain_part", none, "chain_part", "chain_part", s_chain_part, ["formula", "n", "first", "last", "middle"], ["formula", "n", "first", "last"], m_chain_part⟩
def d_chain_tree : DS := ⟨"chain_tree", none, "chain_tree", "chain_tree", s_chain_tree, ["n"], ["n"], m_chain_tree⟩
def d_Deriver_axiom : DS := ⟨"Deriver.axiom", (some "Deriver"), "axiom", "Deriver.axiom", s_Deriver_axiom, ["self", "literals"], ["self", "literals"], m_Deriver_axiom⟩
def d_Deriver_joined : DS := ⟨"Deriver.joined", (some "Deriver"), "joined", "Deriver.joined", s_Deriver_joined, ["self", "first", "second", "literal"], ["self", "first", "second", "literal"], m_Deriver_joined⟩
def d_chain_steps : DS := ⟨"chain_steps", none, "chain_steps", "chain_steps", s_chain_steps, ["n", "deriver", "found", "i"], ["n"], m_chain_steps⟩
def d_law_cell : DS := ⟨"_law_cell", none, "_law_cell", "_law_cell", s_law_cell, ["_law_script", "_law_k"], ["_law_script", "_law_k"], m_law_cell⟩
def d_law_draws : DS := ⟨"_law_draws", none, "_law_draws", "_law_draws", s_law_draws, ["_law_cell_here", "_law_count", "_law_rows", "_law_left", "_law_k", "_law_mixed"], ["_law_cell_here", "_law_count"], m_law_draws⟩
def d_law_is_int : DS := ⟨"_law_is_int", none, "_law_is_int", "_law_is_int", s_law_is_int, ["_law_x"], ["_law_x"], m_law_is_int⟩
def d_law_ints : DS := ⟨"_law_ints", none, "_law_ints", "_law_ints", s_law_ints, ["_law_x", "_law_kind", "_law_k"], ["_law_x", "_law_kind"], m_law_ints⟩
def d_law_clause_of : DS := ⟨"_law_clause_of", none, "_law_clause_of", "_law_clause_of", s_law_clause_of, ["_law_literals", "_law_found", "_law_literal"], ["_law_literals"], m_law_clause_of⟩
def d_law_of_rows : DS := ⟨"_law_of_rows", none, "_law_of_rows", "_law_of_rows", s_law_of_rows, ["_law_n", "_law_rows", "_law_found", "_law_row", "_law_clause"], ["_law_n", "_law_rows"], m_law_of_rows⟩
def d_law_breaks : DS := ⟨"_law_breaks", none, "_law_breaks", "_law_breaks", s_law_breaks, ["_law_cube", "_law_clause", "_law_literal"], ["_law_cube", "_law_clause"], m_law_breaks⟩
def d_law_one : DS := ⟨"_law_one", none, "_law_one", "_law_one", s_law_one, ["_law_formula", "_law_found", "_law_step", "_law_one_here", "_law_two", "_law_x"], ["_law_formula", "_law_found", "_law_step"], m_law_one⟩
def d_law_read : DS := ⟨"_law_read", none, "_law_read", "_law_read", s_law_read, ["_law_formula", "_law_steps", "_law_found", "_law_k", "_law_step", "_law_clause", "_law_x"], ["_law_formula", "_law_steps"], m_law_read⟩
def d_law_leaves : DS := ⟨"_law_leaves", none, "_law_leaves", "_law_leaves", s_law_leaves, ["_law_formula", "_law_tree", "_law_cube", "_law_low", "_law_high"], ["_law_formula", "_law_tree", "_law_cube"], m_law_leaves⟩
def d_law : DS := ⟨"law", none, "law", "law", s_law, ["_law_script", "_law_draws_here", "_law_n", "_law_formula", "_law_found", "_law_depth", "_law_power", "_law_k", "_law_steps", "_law_clauses", "_law_wrong", "_law_i", "_law_clause"], ["_law_script"], m_law⟩
def tb : Tb where
  ds := [d_is_integer, d_is_number, d_is_ascending, d_is_clause, d_made_clause, d_check_count, d_made_formula, d_check_least, d_chain_formula, d_is_earlier, d_resolvent, d_axiom_clause, d_resolved_clause, d_weakened_clause, d_next_clause, d_Shortener_init, d_Shortener_add, d_Shortener_resolve, d_link, d_chain_part, d_chain_tree, d_Deriver_axiom, d_Deriver_joined, d_chain_steps, d_law_cell, d_law_draws, d_law_is_int, d_law_ints, d_law_clause_of, d_law_of_rows, d_law_breaks, d_law_one, d_law_read, d_law_leaves, d_law]
  mt := [("Shortener", "__init__", "Shortener.__init__"), ("Shortener", "add", "Shortener.add"), ("Shortener", "resolve", "Shortener.resolve"), ("Deriver", "__init__", "Shortener.__init__"), ("Deriver", "add", "Shortener.add"), ("Deriver", "resolve", "Shortener.resolve"), ("Deriver", "axiom", "Deriver.axiom"), ("Deriver", "joined", "Deriver.joined")]
  cls := ["Shortener", "Deriver"]
  flds := ["clauses", "formula", "steps"]
  gl := [("MOST_VARIABLES", .int 40)]
  xs := ["BadFormula"]
  ex := [("BadFormula", ["BadFormula"])]
def fns0 : List Str := ["is_integer", "is_number", "is_ascending", "is_clause", "made_clause", "check_count", "made_formula", "check_least", "chain_formula", "is_earlier", "resolvent", "axiom_clause", "resolved_clause", "weakened_clause", "next_clause", "link", "chain_part", "chain_tree", "chain_steps", "_law_cell", "_law_draws", "_law_is_int", "_law_ints", "_law_clause_of", "_law_of_rows", "_law_breaks", "_law_one", "_law_read", "_law_leaves", "law"]
def ini0 : List (Str × Str) := [("Shortener", "Shortener.__init__"), ("Deriver", "Shortener.__init__")]
def mus0 : List Str := ["_law_found", "_law_rows"]
def cc0 : CC := ccOf fns0 ini0 tb.gl tb.ex tb.flds mus0
theorem c_is_integer : DsC cc0 d_is_integer := ⟨C8.fnScope_by (by decide +kernel), by decide, by kernel_rfl, fun _ _ _ _ _ _ us hl => match us, hl with | [_], _ => rfl⟩
theorem c_is_number : DsC cc0 d_is_number := ⟨C8.fnScope_by (by decide +kernel), by decide, by kernel_rfl, fun _ _ _ _ _ _ us hl => match us, hl with | [_], _ => rfl⟩
theorem c_is_ascending : DsC cc0 d_is_ascending := ⟨C8.fnScope_by (by decide +kernel), by decide, by kernel_rfl, fun _ _ _ _ _ _ us hl => match us, hl with | [_], _ => rfl⟩
theorem c_is_clause : DsC cc0 d_is_clause := ⟨C8.fnScope_by (by decide +kernel), by decide, by kernel_rfl, fun _ _ _ _ _ _ us hl => match us, hl with | [_, _], _ => rfl⟩
theorem c_made_clause : DsC cc0 d_made_clause := ⟨C8.fnScope_by (by decide +kernel), by decide, by kernel_rfl, fun _ _ _ _ _ _ us hl => match us, hl with | [_], _ => rfl⟩
theorem c_check_count : DsC cc0 d_check_count := ⟨C8.fnScope_by (by decide +kernel), by decide, by kernel_rfl, fun _ _ _ _ _ _ us hl => match us, hl with | [_], _ => rfl⟩
theorem c_made_formula : DsC cc0 d_made_formula := ⟨C8.fnScope_by (by decide +kernel), by decide, by kernel_rfl, fun _ _ _ _ _ _ us hl => match us, hl with | [_, _], _ => rfl⟩
theorem c_check_least : DsC cc0 d_check_least := ⟨C8.fnScope_by (by decide +kernel), by decide, by kernel_rfl, fun _ _ _ _ _ _ us hl => match us, hl with | [_], _ => rfl⟩
theorem c_chain_formula : DsC cc0 d_chain_formula := ⟨C8.fnScope_by (by decide +kernel), by decide, by kernel_rfl, fun _ _ _ _ _ _ us hl => match us, hl with | [_], _ => rfl⟩
theorem c_is_earlier : DsC cc0 d_is_earlier := ⟨C8.fnScope_by (by decide +kernel), by decide, by kernel_rfl, fun _ _ _ _ _ _ us hl => match us, hl with | [_, _], _ => rfl⟩
theorem c_resolvent : DsC cc0 d_resolvent := ⟨C8.fnScope_by (by decide +kernel), by decide, by kernel_rfl, fun _ _ _ _ _ _ us hl => match us, hl with | [_, _, _], _ => rfl⟩
theorem c_axiom_clause : DsC cc0 d_axiom_clause := ⟨C8.fnScope_by (by decide +kernel), by decide, by kernel_rfl, fun _ _ _ _ _ _ us hl => match us, hl with | [_, _], _ => rfl⟩
theorem c_resolved_clause : DsC cc0 d_resolved_clause := ⟨C8.fnScope_by (by decide +kernel), by decide, by kernel_rfl, fun _ _ _ _ _ _ us hl => match us, hl with | [_, _, _], _ => rfl⟩
theorem c_weakened_clause : DsC cc0 d_weakened_clause := ⟨C8.fnScope_by (by decide +kernel), by decide, by kernel_rfl, fun _ _ _ _ _ _ us hl => match us, hl with | [_, _, _], _ => rfl⟩
theorem c_next_clause : DsC cc0 d_next_clause := ⟨C8.fnScope_by (by decide +kernel), by decide, by kernel_rfl, fun _ _ _ _ _ _ us hl => match us, hl with | [_, _, _], _ => rfl⟩
theorem c_Shortener_init : DsC cc0 d_Shortener_init := ⟨C8.fnScope_by (by decide +kernel), by decide, by kernel_rfl, fun _ _ _ _ _ _ us hl => match us, hl with | [_, _], _ => rfl⟩
theorem c_Shortener_add : DsC cc0 d_Shortener_add := ⟨C8.fnScope_by (by decide +kernel), by decide, by kernel_rfl, fun _ _ _ _ _ _ us hl => match us, hl with | [_, _], _ => rfl⟩
theorem c_Shortener_resolve : DsC cc0 d_Shortener_resolve := ⟨C8.fnScope_by (by decide +kernel), by decide, by kernel_rfl, fun _ _ _ _ _ _ us hl => match us, hl with | [_, _, _, _], _ => rfl⟩
theorem c_link : DsC cc0 d_link := ⟨C8.fnScope_by (by decide +kernel), by decide, by kernel_rfl, fun _ _ _ _ _ _ us hl => match us, hl with | [_, _, _], _ => rfl⟩
theorem c_chain_part : DsC cc0 d_chain_part := ⟨C8.fnScope_by (by decide +kernel), by decide, by kernel_rfl, fun _ _ _ _ _ _ us hl => match us, hl with | [_, _, _, _], _ => rfl⟩
theorem c_chain_tree : DsC cc0 d_chain_tree := ⟨C8.fnScope_by (by decide +kernel), by decide, by kernel_rfl, fun _ _ _ _ _ _ us hl => match us, hl with | [_], _ => rfl⟩
theorem c_Deriver_axiom : DsC cc0 d_Deriver_axiom := ⟨C8.fnScope_by (by decide +kernel), by decide, by kernel_rfl, fun _ _ _ _ _ _ us hl => match us, hl with | [_, _], _ => rfl⟩
theorem c_Deriver_joined : DsC cc0 d_Deriver_joined := ⟨C8.fnScope_by (by decide +kernel), by decide, by kernel_rfl, fun _ _ _ _ _ _ us hl => match us, hl with | [_, _, _, _], _ => rfl⟩
theorem c_chain_steps : DsC cc0 d_chain_steps := ⟨C8.fnScope_by (by decide +kernel), by decide, by kernel_rfl, fun _ _ _ _ _ _ us hl => match us, hl with | [_], _ => rfl⟩
theorem c_law_cell : DsC cc0 d_law_cell := ⟨C8.fnScope_by (by decide +kernel), by decide, by kernel_rfl, fun _ _ _ _ _ _ us hl => match us, hl with | [_, _], _ => rfl⟩
theorem c_law_draws : DsC cc0 d_law_draws := ⟨C8.fnScope_by (by decide +kernel), by decide, by kernel_rfl, fun _ _ _ _ _ _ us hl => match us, hl with | [_, _], _ => rfl⟩
theorem c_law_is_int : DsC cc0 d_law_is_int := ⟨C8.fnScope_by (by decide +kernel), by decide, by kernel_rfl, fun _ _ _ _ _ _ us hl => match us, hl with | [_], _ => rfl⟩
theorem c_law_ints : DsC cc0 d_law_ints := ⟨C8.fnScope_by (by decide +kernel), by decide, by kernel_rfl, fun _ _ _ _ _ _ us hl => match us, hl with | [_, _], _ => rfl⟩
theorem c_law_clause_of : DsC cc0 d_law_clause_of := ⟨C8.fnScope_by (by decide +kernel), by decide, by kernel_rfl, fun _ _ _ _ _ _ us hl => match us, hl with | [_], _ => rfl⟩
theorem c_law_of_rows : DsC cc0 d_law_of_rows := ⟨C8.fnScope_by (by decide +kernel), by decide, by kernel_rfl, fun _ _ _ _ _ _ us hl => match us, hl with | [_, _], _ => rfl⟩
theorem c_law_breaks : DsC cc0 d_law_breaks := ⟨C8.fnScope_by (by decide +kernel), by decide, by kernel_rfl, fun _ _ _ _ _ _ us hl => match us, hl with | [_, _], _ => rfl⟩
theorem c_law_one : DsC cc0 d_law_one := ⟨C8.fnScope_by (by decide +kernel), by decide, by kernel_rfl, fun _ _ _ _ _ _ us hl => match us, hl with | [_, _, _], _ => rfl⟩
theorem c_law_read : DsC cc0 d_law_read := ⟨C8.fnScope_by (by decide +kernel), by decide, by kernel_rfl, fun _ _ _ _ _ _ us hl => match us, hl with | [_, _], _ => rfl⟩
theorem c_law_leaves : DsC cc0 d_law_leaves := ⟨C8.fnScope_by (by decide +kernel), by decide, by kernel_rfl, fun _ _ _ _ _ _ us hl => match us, hl with | [_, _, _], _ => rfl⟩
theorem c_law : DsC cc0 d_law := ⟨C8.fnScope_by (by decide +kernel), by decide, by kernel_rfl, fun _ _ _ _ _ _ us hl => match us, hl with | [_], _ => rfl⟩
theorem tbC : TbC cc0 tb :=
  tbc_mk (mus := mus0) (fns := fns0) (ini := ini0) (t := tb) (.cons c_is_integer (.cons c_is_number (.cons c_is_ascending (.cons c_is_clause (.cons c_made_clause (.cons c_check_count (.cons c_made_formula (.cons c_check_least (.cons c_chain_formula (.cons c_is_earlier (.cons c_resolvent (.cons c_axiom_clause (.cons c_resolved_clause (.cons c_weakened_clause (.cons c_next_clause (.cons c_Shortener_init (.cons c_Shortener_add (.cons c_Shortener_resolve (.cons c_link (.cons c_chain_part (.cons c_chain_tree (.cons c_Deriver_axiom (.cons c_Deriver_joined (.cons c_chain_steps (.cons c_law_cell (.cons c_law_draws (.cons c_law_is_int (.cons c_law_ints (.cons c_law_clause_of (.cons c_law_of_rows (.cons c_law_breaks (.cons c_law_one (.cons c_law_read (.cons c_law_leaves (.cons c_law (.nil))))))))))))))))))))))))))))))))))))
    (.cons ⟨d_is_integer, by kernel_rfl, rfl, rfl⟩ (.cons ⟨d_is_number, by kernel_rfl, rfl, rfl⟩ (.cons ⟨d_is_ascending, by kernel_rfl, rfl, rfl⟩ (.cons ⟨d_is_clause, by kernel_rfl, rfl, rfl⟩ (.cons ⟨d_made_clause, by kernel_rfl, rfl, rfl⟩ (.cons ⟨d_check_count, by kernel_rfl, rfl, rfl⟩ (.cons ⟨d_made_formula, by kernel_rfl, rfl, rfl⟩ (.cons ⟨d_check_least, by kernel_rfl, rfl, rfl⟩ (.cons ⟨d_chain_formula, by kernel_rfl, rfl, rfl⟩ (.cons ⟨d_is_earlier, by kernel_rfl, rfl, rfl⟩ (.cons ⟨d_resolvent, by kernel_rfl, rfl, rfl⟩ (.cons ⟨d_axiom_clause, by kernel_rfl, rfl, rfl⟩ (.cons ⟨d_resolved_clause, by kernel_rfl, rfl, rfl⟩ (.cons ⟨d_weakened_clause, by kernel_rfl, rfl, rfl⟩ (.cons ⟨d_next_clause, by kernel_rfl, rfl, rfl⟩ (.cons ⟨d_link, by kernel_rfl, rfl, rfl⟩ (.cons ⟨d_chain_part, by kernel_rfl, rfl, rfl⟩ (.cons ⟨d_chain_tree, by kernel_rfl, rfl, rfl⟩ (.cons ⟨d_chain_steps, by kernel_rfl, rfl, rfl⟩ (.cons ⟨d_law_cell, by kernel_rfl, rfl, rfl⟩ (.cons ⟨d_law_draws, by kernel_rfl, rfl, rfl⟩ (.cons ⟨d_law_is_int, by kernel_rfl, rfl, rfl⟩ (.cons ⟨d_law_ints, by kernel_rfl, rfl, rfl⟩ (.cons ⟨d_law_clause_of, by kernel_rfl, rfl, rfl⟩ (.cons ⟨d_law_of_rows, by kernel_rfl, rfl, rfl⟩ (.cons ⟨d_law_breaks, by kernel_rfl, rfl, rfl⟩ (.cons ⟨d_law_one, by kernel_rfl, rfl, rfl⟩ (.cons ⟨d_law_read, by kernel_rfl, rfl, rfl⟩ (.cons ⟨d_law_leaves, by kernel_rfl, rfl, rfl⟩ (.cons ⟨d_law, by kernel_rfl, rfl, rfl⟩ (.nil)))))))))))))))))))))))))))))))
    (by decide +kernel) (by decide +kernel)
end K94


set_option Elab.async false
set_option linter.all false
set_option maxRecDepth 100000
set_option maxHeartbeats 4000000
set_option autoImplicit false
namespace Q
open PySem
theorem mulOk_mod {a b m : Int} (h1 : 0 < m) (h2 : m < 2 ^ 64) : mulOk (a % m) b := .inl ⟨by have := Int.emod_nonneg a (show m ≠ 0 by omega); omega, by have := Int.emod_lt_of_pos a h1; omega⟩
theorem mulOk_r {i j : Int} (h1 : -(2 ^ 64) < j) (h2 : j < 2 ^ 64) : mulOk i j := .inr ⟨h1, h2⟩
/-- one draw -/
def drawBody : Es := (sIf (tAnd (tCmp .GtE (eVar 0) (eBin .Pow (eC (.int 10)) (eC (.int 18)))) (tCmp .Gt (eVar 3) (eC (.int 0)))) (sSeq (sExpr (eAppend (eVar 2) (eFrz (eBin .Mod (eOn gInt (eVar 3)) (eC (.int 4096))))))
  (sAsg (.nm 3) (eFrz (eBin .FloorDiv (eVar 3) (eC (.int 4096)))))) (sSeq (sAsg (.nm 5) (eFrz (eBin .Mod (eOn gInt (eBin .Add (eBin .Mult (eVar 0) (eC (.int 48271))) (eBin .Mult (eBin .Add (eVar 4) (eC (.int 1))) (eC (.int 69621))))) (eC (.int 2147483647)))))
  (sSeq (sAsg (.nm 5) (eFrz (eBin .Mod (eOn gInt (eBin .Add (eBin .Add (eBin .Mult (eVar 5) (eVar 5)) (eBin .Mult (eVar 5) (eC (.int 16807)))) (eBin .Mult (eVar 4) (eC (.int 7919))))) (eC (.int 2147483629)))))
  (sSeq (sAsg (.nm 5) (eFrz (eBin .Mod (eOn gInt (eBin .Add (eBin .Add (eBin .Mult (eVar 5) (eVar 5)) (eVar 0)) (eBin .Mult (eC (.int 13)) (eVar 4)))) (eC (.int 2147483587)))))
  (sExpr (eAppend (eVar 2) (eFrz (eBin .Mod (eBin .FloorDiv (eVar 5) (eC (.int 7))) (eC (.int 4096))))))))))
theorem draw_body (C : Calls) (x y m i : Int) (e5 : Option D) (ds : List D) (hl : ds.length < 1000) : ∃ (y' a : Int) (e5' : Option D), 0 ≤ a ∧ a < 4096 ∧
    drawBody C [some (.int x), some (.int m), some (.loc 0), some (.int y), some (.int i), e5] [.lst ds] = .nx [some (.int x), some (.int m), some (.loc 0), some (.int y'), some (.int i), e5'] [.lst (ds ++ [.int a])] := by
  have hl2 : ds.length < szl := by unfold szl; omega
  have c1 : mulOk x 48271 := mulOk_r (by decide) (by decide)
  have c2 : mulOk (i + 1) 69621 := mulOk_r (by decide) (by decide)
  have c3 : ∀ a b : Int, mulOk (a % 2147483647) b := fun a b => mulOk_mod (by decide) (by decide)
  have c4 : ∀ a b : Int, mulOk (a % 2147483629) b := fun a b => mulOk_mod (by decide) (by decide)
  have c5 : mulOk i 7919 := mulOk_r (by decide) (by decide)
  have c6 : mulOk 13 i := .inl (by decide)
  have d1 : divOk 4096 := by decide
  have d2 : divOk 7 := by decide
  have d3 : powOk 10 18 := by decide
  by_cases hx : (1000000000000000000 : Int) ≤ x
  · by_cases hy : 0 < y
    · refine ⟨y / 4096, y % 4096, e5, Int.emod_nonneg _ (by decide), Int.emod_lt_of_pos _ (by decide), ?_⟩
      simp [drawBody, sIf, tAnd, tCmp, eVar, eBin, eC, cmp, cmpOrd, cmpInt, binop, binInt, sSeq, sExpr, sAsg, eAppend, eOn, gInt, val, lstAt, asg, eFrz, hl2, c1, c2, c3, c4, c5, c6, d1, d2, d3, hx, hy]
    · refine ⟨y, ((((((x * 48271 + (i + 1) * 69621) % 2147483647) * ((x * 48271 + (i + 1) * 69621) % 2147483647) + ((x * 48271 + (i + 1) * 69621) % 2147483647) * 16807 + i * 7919) % 2147483629) * ((((x * 48271 + (i + 1) * 69621) % 2147483647) * ((x * 48271 + (i + 1) * 69621) % 2147483647) + ((x * 48271 + (i + 1) * 69621) % 2147483647) * 16807 + i * 7919) % 2147483629) + x + 13 * i) % 2147483587) / 7 % 4096, some (.int ((((((x * 48271 + (i + 1) * 69621) % 2147483647) * ((x * 48271 + (i + 1) * 69621) % 2147483647) + ((x * 48271 + (i + 1) * 69621) % 2147483647) * 16807 + i * 7919) % 2147483629) * ((((x * 48271 + (i + 1) * 69621) % 2147483647) * ((x * 48271 + (i + 1) * 69621) % 2147483647) + ((x * 48271 + (i + 1) * 69621) % 2147483647) * 16807 + i * 7919) % 2147483629) + x + 13 * i) % 2147483587)), Int.emod_nonneg _ (by decide), Int.emod_lt_of_pos _ (by decide), ?_⟩
      simp [drawBody, sIf, tAnd, tCmp, eVar, eBin, eC, cmp, cmpOrd, cmpInt, binop, binInt, sSeq, sExpr, sAsg, eAppend, eOn, gInt, val, lstAt, asg, eFrz, hl2, c1, c2, c3, c4, c5, c6, d1, d2, d3, hx, hy]
  · refine ⟨y, ((((((x * 48271 + (i + 1) * 69621) % 2147483647) * ((x * 48271 + (i + 1) * 69621) % 2147483647) + ((x * 48271 + (i + 1) * 69621) % 2147483647) * 16807 + i * 7919) % 2147483629) * ((((x * 48271 + (i + 1) * 69621) % 2147483647) * ((x * 48271 + (i + 1) * 69621) % 2147483647) + ((x * 48271 + (i + 1) * 69621) % 2147483647) * 16807 + i * 7919) % 2147483629) + x + 13 * i) % 2147483587) / 7 % 4096, some (.int ((((((x * 48271 + (i + 1) * 69621) % 2147483647) * ((x * 48271 + (i + 1) * 69621) % 2147483647) + ((x * 48271 + (i + 1) * 69621) % 2147483647) * 16807 + i * 7919) % 2147483629) * ((((x * 48271 + (i + 1) * 69621) % 2147483647) * ((x * 48271 + (i + 1) * 69621) % 2147483647) + ((x * 48271 + (i + 1) * 69621) % 2147483647) * 16807 + i * 7919) % 2147483629) + x + 13 * i) % 2147483587)), Int.emod_nonneg _ (by decide), Int.emod_lt_of_pos _ (by decide), ?_⟩
    simp [drawBody, sIf, tAnd, tCmp, eVar, eBin, eC, cmp, cmpOrd, cmpInt, binop, binInt, sSeq, sExpr, sAsg, eAppend, eOn, gInt, val, lstAt, asg, eFrz, hl2, c1, c2, c3, c4, c5, c6, d1, d2, d3, hx]
theorem run_fn {t : Tb} {k : Nat} {f : Str} {d : DS} (h : t.ds.find? (fun d => d.key == f) = some d) (args : List D) (st : Store) : (run t.prg (k + 1)).call f args st = trunc st (callF ⟨d.ps.length, d.N.length, d.g⟩ (run t.prg k) args st) :=
  run_call t.prg k f _ (by show (t.ds.find? _).map _ = _; rw [h]; rfl) args st
end Q
namespace K94
open PySem Q
theorem cell_ok (k : Nat) (ns : List Int) (h : ns.length ≤ 63) : ∃ x : Int, (run tb.prg (k + 1)).call "_law_cell" [.fls (ns.map D.int), .int 0] [] = .ok (.vl (.int x)) [] := by
  rw [run_fn (d := d_law_cell) rfl]
  cases ns with
  | nil => exact ⟨0, by simp [callF, d_law_cell, m_law_cell, sSeq, sIf, tCmp, eVar, eOn, gLen, items, cmp, cmpOrd, cmpInt, sNext, sRet, eC, val, trunc, D.low]⟩
  | cons x r =>
    refine ⟨x, ?_⟩
    simp [callF, d_law_cell, m_law_cell, sSeq, sIf, tCmp, eVar, eOn, gLen, items, cmp, cmpOrd, cmpInt, sNext, sRet, eC, val, trunc, D.low, eIx, nthI]
theorem draws_ok (k : Nat) (x : Int) : ∃ a b c : Int, (0 ≤ a ∧ a < 4096) ∧ (0 ≤ b ∧ b < 4096) ∧ (0 ≤ c ∧ c < 4096) ∧ (run tb.prg (k + 1)).call "_law_draws" [.int x, .int 3] [] = .ok (.fr [.int a, .int b, .int c]) [] := by
  rw [run_fn (d := d_law_draws) rfl]
  obtain ⟨y1, a, e1, a1, a2, h1⟩ := draw_body (run tb.prg k) x x 3 0 none [] (by decide)
  obtain ⟨y2, b, e2, b1, b2, h2⟩ := draw_body (run tb.prg k) x y1 3 1 e1 [.int a] (by simp)
  obtain ⟨y3, c, e3, c1, c2, h3⟩ := draw_body (run tb.prg k) x y2 3 2 e2 [.int a, .int b] (by simp)
  refine ⟨a, b, c, ⟨a1, a2⟩, ⟨b1, b2⟩, ⟨c1, c2⟩, ?_⟩
  have hb : m_law_draws = (sSeq (sAsg (.nm 2) (eLst [])) (sSeq (sAsg (.nm 3) (eVar 0)) (sSeq (sFor (srcRange1 (eVar 1)) (.nm 4) drawBody) (sRet (eVar 2))))) := rfl
  have hu : ups 0 3 = [.one (.int 0), .one (.int 1), .one (.int 2)] := rfl
  simp [callF, hb, d_law_draws, sSeq, sAsg, eLst, evs, val, asg, eVar, sFor, srcRange1, midInt, hu, forLoop, guardOk, asgI, h1, h2, h3, sRet, trunc, D.low, escaped, D.lows]
end K94


set_option Elab.async false
set_option linter.all false
set_option maxRecDepth 100000
set_option maxHeartbeats 4000000
set_option autoImplicit false
namespace Q
open PySem
def envOf (r : SR) : Slots := match r with
  | .nx e _ => e
  | _ => []
def stOf (r : SR) : Store := match r with
  | .nx _ s => s
  | _ => []
def isNx (r : SR) : Bool := match r with
  | .nx e _ => true
  | _ => false
theorem nx_of {r : SR} (h : isNx r = true) : r = .nx (envOf r) (stOf r) := by
  cases r <;> first | rfl | cases h
theorem seq_assoc (a b c : Es) : sSeq a (sSeq b c) = sSeq (sSeq a b) c := by
  funext C env st
  unfold sSeq
  cases a C env st <;> rfl
end Q
namespace K94
open PySem Q
def pre : Es := (sSeq (sAsg (.nm 3) (eFrz (eCall "_law_of_rows" [(eVar 2), (eFrz (eBin .Add (eLst [(eFrz (eLst [(eC (.int 1))])), (eFrz (eLst [(eNeg (eVar 2))]))]) (eComp [11] (srcRange2 (eC (.int 1)) (eVar 2)) (.nm 11) tYes (eFrz (eLst [(eNeg (eVar 11)), (eFrz (eBin .Add (eVar 11) (eC (.int 1))))])))))])))
  (sSeq (sAsg (.nm 4) (eCall "_law_leaves" [(eVar 3), (eFrz (eCall "chain_tree" [(eVar 2)])), (eTup [])]))
  (sSeq (sAsg (.nm 5) (eC (.int 0)))
  (sSeq (sAsg (.nm 6) (eC (.int 1)))
  (sSeq (sFor (srcRange1 (eC (.int 8))) (.nm 7) (sIf (tCmp .Lt (eVar 6) (eBin .Add (eVar 2) (eC (.int 1)))) (sSeq (sAsg (.nm 6) (eFrz (eBin .Mult (eC (.int 2)) (eVar 6))))
  (sAsg (.nm 5) (eFrz (eBin .Add (eVar 5) (eC (.int 1)))))) sNext))
  (sSeq (sIf (tCmp .NotEq (eVar 4) (eLst [(eFrz (eBin .Add (eVar 2) (eC (.int 1)))), (eVar 5)])) (sRet (eC (.bl false))) sNext)
  (sSeq (sAsg (.nm 8) (eFrz (eCall "chain_steps" [(eVar 2)])))
  (sSeq (sIf (tOr (tNot (tTru (eOn (gIsA "tuple") (eVar 8)))) (tCmp .Gt (eOn gLen (eVar 8)) (eBin .Add (eBin .Mult (eC (.int 2)) (eVar 2)) (eC (.int 1))))) (sRet (eC (.bl false))) sNext)
  (sSeq (sAsg (.nm 9) (eFrz (eCall "_law_read" [(eVar 3), (eVar 8)])))
  (sIf (tOr (tIsN (eVar 9)) (tOr (tCmp .NotEq (eIx (eVar 9) (eNeg (eC (.int 1)))) (eTup [])) (tCmp .Gt (eOn gLen (eComp [12] (srcOf (eVar 9)) (.nm 12) (tCmp .Gt (eOn gLen (eVar 12)) (eC (.int 2))) (eVar 12))) (eC (.int 0))))) (sRet (eC (.bl false))) sNext))))))))))
def lastLoop : Es := (sFor (srcOf (eLst [(eC (.int 0)), (eFrz (eBin .Sub (eNeg (eC (.int 1))) (eIx (eVar 1) (eC (.int 2))))), (eFrz (eBin .Add (eC (.int 41)) (eIx (eVar 1) (eC (.int 2)))))])) (.nm 10) (sSeq (sTry (sExpr (eCall "chain_tree" [(eVar 10)])) ["BadFormula"] sCont)
  (sRet (eC (.bl false)))))
def head2 : Es := (sAsg (.nm 2) (eFrz (eBin .Add (eC (.int 1)) (eBin .Mod (eIx (eVar 1) (eC (.int 0))) (eIx (eLst [(eC (.int 6)), (eC (.int 40))]) (eBin .Mod (eIx (eVar 1) (eC (.int 1))) (eC (.int 2))))))))
def head1 : Es := (sAsg (.nm 1) (eFrz (eCall "_law_draws" [(eFrz (eCall "_law_cell" [(eVar 0), (eC (.int 0))])), (eC (.int 3))])))
theorem law_parts : m_law = sSeq head1 (sSeq head2 (sSeq pre (sSeq lastLoop (sRet (eC (.bl true)))))) := by
  rw [pre]
  simp only [← seq_assoc]
  rfl
def env0 (sc dr : D) (n : Int) : Slots := [some sc, some dr, some (.int n), none, none, none, none, none, none, none, none, none, none]
end K94


set_option Elab.async false
set_option linter.all false
set_option maxRecDepth 100000
set_option maxHeartbeats 4000000
set_option autoImplicit false
namespace K94
open PySem Q
def chk (sc dr : D) (n : Int) : Bool × Option (Option D) × Nat := match pre (run tb.prg 19) (env0 sc dr n) [] with
  | .nx e _ => (true, e[1]?, e.length)
  | _ => (false, none, 0)
theorem chk1 (sc dr : D) : chk sc dr 1 = (true, some (some dr), 13) := by kernel_rfl
theorem chk2 (sc dr : D) : chk sc dr 2 = (true, some (some dr), 13) := by kernel_rfl
theorem chk3 (sc dr : D) : chk sc dr 3 = (true, some (some dr), 13) := by kernel_rfl
theorem chk4 (sc dr : D) : chk sc dr 4 = (true, some (some dr), 13) := by kernel_rfl
theorem chk5 (sc dr : D) : chk sc dr 5 = (true, some (some dr), 13) := by kernel_rfl
theorem chk6 (sc dr : D) : chk sc dr 6 = (true, some (some dr), 13) := by kernel_rfl
theorem chk7 (sc dr : D) : chk sc dr 7 = (true, some (some dr), 13) := by kernel_rfl
theorem chk8 (sc dr : D) : chk sc dr 8 = (true, some (some dr), 13) := by kernel_rfl
theorem chk9 (sc dr : D) : chk sc dr 9 = (true, some (some dr), 13) := by kernel_rfl
theorem chk10 (sc dr : D) : chk sc dr 10 = (true, some (some dr), 13) := by kernel_rfl
theorem chk11 (sc dr : D) : chk sc dr 11 = (true, some (some dr), 13) := by kernel_rfl
theorem chk12 (sc dr : D) : chk sc dr 12 = (true, some (some dr), 13) := by kernel_rfl
theorem chk13 (sc dr : D) : chk sc dr 13 = (true, some (some dr), 13) := by kernel_rfl
theorem chk14 (sc dr : D) : chk sc dr 14 = (true, some (some dr), 13) := by kernel_rfl
theorem chk15 (sc dr : D) : chk sc dr 15 = (true, some (some dr), 13) := by kernel_rfl
theorem chk16 (sc dr : D) : chk sc dr 16 = (true, some (some dr), 13) := by kernel_rfl
theorem chk17 (sc dr : D) : chk sc dr 17 = (true, some (some dr), 13) := by kernel_rfl
theorem chk18 (sc dr : D) : chk sc dr 18 = (true, some (some dr), 13) := by kernel_rfl
theorem chk19 (sc dr : D) : chk sc dr 19 = (true, some (some dr), 13) := by kernel_rfl
theorem chk20 (sc dr : D) : chk sc dr 20 = (true, some (some dr), 13) := by kernel_rfl
theorem chk21 (sc dr : D) : chk sc dr 21 = (true, some (some dr), 13) := by kernel_rfl
theorem chk22 (sc dr : D) : chk sc dr 22 = (true, some (some dr), 13) := by kernel_rfl
theorem chk23 (sc dr : D) : chk sc dr 23 = (true, some (some dr), 13) := by kernel_rfl
theorem chk24 (sc dr : D) : chk sc dr 24 = (true, some (some dr), 13) := by kernel_rfl
theorem chk25 (sc dr : D) : chk sc dr 25 = (true, some (some dr), 13) := by kernel_rfl
theorem chk26 (sc dr : D) : chk sc dr 26 = (true, some (some dr), 13) := by kernel_rfl
theorem chk27 (sc dr : D) : chk sc dr 27 = (true, some (some dr), 13) := by kernel_rfl
theorem chk28 (sc dr : D) : chk sc dr 28 = (true, some (some dr), 13) := by kernel_rfl
theorem chk29 (sc dr : D) : chk sc dr 29 = (true, some (some dr), 13) := by kernel_rfl
theorem chk30 (sc dr : D) : chk sc dr 30 = (true, some (some dr), 13) := by kernel_rfl
theorem chk31 (sc dr : D) : chk sc dr 31 = (true, some (some dr), 13) := by kernel_rfl
theorem chk32 (sc dr : D) : chk sc dr 32 = (true, some (some dr), 13) := by kernel_rfl
theorem chk33 (sc dr : D) : chk sc dr 33 = (true, some (some dr), 13) := by kernel_rfl
theorem chk34 (sc dr : D) : chk sc dr 34 = (true, some (some dr), 13) := by kernel_rfl
theorem chk35 (sc dr : D) : chk sc dr 35 = (true, some (some dr), 13) := by kernel_rfl
theorem chk36 (sc dr : D) : chk sc dr 36 = (true, some (some dr), 13) := by kernel_rfl
theorem chk37 (sc dr : D) : chk sc dr 37 = (true, some (some dr), 13) := by kernel_rfl
theorem chk38 (sc dr : D) : chk sc dr 38 = (true, some (some dr), 13) := by kernel_rfl
theorem chk39 (sc dr : D) : chk sc dr 39 = (true, some (some dr), 13) := by kernel_rfl
theorem chk40 (sc dr : D) : chk sc dr 40 = (true, some (some dr), 13) := by kernel_rfl
theorem chk_all (sc dr : D) : ∀ n : Int, 1 ≤ n → n ≤ 40 → chk sc dr n = (true, some (some dr), 13) := by
  intro n h1 h2
  have : n = 1 ∨ n = 2 ∨ n = 3 ∨ n = 4 ∨ n = 5 ∨ n = 6 ∨ n = 7 ∨ n = 8 ∨ n = 9 ∨ n = 10 ∨ n = 11 ∨ n = 12 ∨ n = 13 ∨ n = 14 ∨ n = 15 ∨ n = 16 ∨ n = 17 ∨ n = 18 ∨ n = 19 ∨ n = 20 ∨ n = 21 ∨ n = 22 ∨ n = 23 ∨ n = 24 ∨ n = 25 ∨ n = 26 ∨ n = 27 ∨ n = 28 ∨ n = 29 ∨ n = 30 ∨ n = 31 ∨ n = 32 ∨ n = 33 ∨ n = 34 ∨ n = 35 ∨ n = 36 ∨ n = 37 ∨ n = 38 ∨ n = 39 ∨ n = 40 := by omega
  rcases this with rfl | rfl | rfl | rfl | rfl | rfl | rfl | rfl | rfl | rfl | rfl | rfl | rfl | rfl | rfl | rfl | rfl | rfl | rfl | rfl | rfl | rfl | rfl | rfl | rfl | rfl | rfl | rfl | rfl | rfl | rfl | rfl | rfl | rfl | rfl | rfl | rfl | rfl | rfl | rfl
  · exact chk1 sc dr
  · exact chk2 sc dr
  · exact chk3 sc dr
  · exact chk4 sc dr
  · exact chk5 sc dr
  · exact chk6 sc dr
  · exact chk7 sc dr
  · exact chk8 sc dr
  · exact chk9 sc dr
  · exact chk10 sc dr
  · exact chk11 sc dr
  · exact chk12 sc dr
  · exact chk13 sc dr
  · exact chk14 sc dr
  · exact chk15 sc dr
  · exact chk16 sc dr
  · exact chk17 sc dr
  · exact chk18 sc dr
  · exact chk19 sc dr
  · exact chk20 sc dr
  · exact chk21 sc dr
  · exact chk22 sc dr
  · exact chk23 sc dr
  · exact chk24 sc dr
  · exact chk25 sc dr
  · exact chk26 sc dr
  · exact chk27 sc dr
  · exact chk28 sc dr
  · exact chk29 sc dr
  · exact chk30 sc dr
  · exact chk31 sc dr
  · exact chk32 sc dr
  · exact chk33 sc dr
  · exact chk34 sc dr
  · exact chk35 sc dr
  · exact chk36 sc dr
  · exact chk37 sc dr
  · exact chk38 sc dr
  · exact chk39 sc dr
  · exact chk40 sc dr
theorem pre_ok (sc dr : D) (n : Int) (h1 : 1 ≤ n) (h2 : n ≤ 40) : ∃ e s, pre (run tb.prg 19) (env0 sc dr n) [] = .nx e s ∧ e[1]? = some (some dr) ∧ e.length = 13 := by
  have h := chk_all sc dr n h1 h2
  unfold chk at h
  split at h
  · rename_i e s he
    simp only [Prod.mk.injEq, true_and] at h
    exact ⟨e, s, he, h.1, h.2⟩
  · cases h
end K94


set_option Elab.async false
set_option linter.all false
set_option maxRecDepth 100000
set_option maxHeartbeats 4000000
set_option autoImplicit false
namespace K94
open PySem Q
theorem least_bad (k : Nat) (m : Int) (h : m < 1) (st : Store) : (run tb.prg (k + 1)).call "check_least" [.int m] st = .exc ⟨"BadFormula", []⟩ st := by
  rw [run_fn (d := d_check_least) rfl]
  simp [callF, d_check_least, m_check_least, sIf, tCmp, eVar, eC, cmp, cmpOrd, cmpInt, sRaise, sNext, trunc, D.low, h]
theorem least_ok (k : Nat) (m : Int) (h : ¬ m < 1) (st : Store) : (run tb.prg (k + 1)).call "check_least" [.int m] st = .ok (.vl .non) st := by
  rw [run_fn (d := d_check_least) rfl]
  simp [callF, d_check_least, m_check_least, sIf, tCmp, eVar, eC, cmp, cmpOrd, cmpInt, sRaise, sNext, trunc, D.low, h]
theorem count_bad (k : Nat) (m : Int) (h : 40 < m) (st : Store) : (run tb.prg (k + 1)).call "check_count" [.int m] st = .exc ⟨"BadFormula", []⟩ st := by
  rw [run_fn (d := d_check_count) rfl]
  have h0 : ¬ m < 0 := by omega
  simp [callF, d_check_count, m_check_count, tOr, sIf, tCmp, eVar, eC, cmp, cmpOrd, cmpInt, sRaise, sNext, trunc, D.low, h, h0]
theorem formula_bad (k : Nat) (m : Int) (h : m < 1 ∨ 40 < m) (st : Store) : (run tb.prg (k + 2)).call "chain_formula" [.int m] st = .exc ⟨"BadFormula", []⟩ st := by
  rw [run_fn (d := d_chain_formula) rfl]
  by_cases h1 : m < 1
  · simp [callF, d_chain_formula, m_chain_formula, sSeq, sExpr, eCall, evs, val, eVar, least_bad k m h1, trunc, D.low]
  · have h2 : 40 < m := by omega
    simp [callF, d_chain_formula, m_chain_formula, sSeq, sExpr, eCall, evs, val, eVar, least_ok k m h1, count_bad k m h2, trunc, D.low]
theorem tree_bad (k : Nat) (m : Int) (h : m < 1 ∨ 40 < m) (st : Store) : (run tb.prg (k + 3)).call "chain_tree" [.int m] st = .exc ⟨"BadFormula", []⟩ st := by
  rw [run_fn (d := d_chain_tree) rfl]
  simp [callF, d_chain_tree, m_chain_tree, sRet, eFrz, eCall, evs, val, eVar, formula_bad k m h, trunc, D.low]
def lastBody : Es := (sSeq (sTry (sExpr (eCall "chain_tree" [(eVar 10)])) ["BadFormula"] sCont) (sRet (eC (.bl false))))
theorem body_ok (e : Slots) (st : Store) (m : Int) (h : m < 1 ∨ 40 < m) (hl : e.length = 13) : lastBody (run tb.prg 19) (e.set 10 (some (.int m))) st = .ct (e.set 10 (some (.int m))) st := by
  have g : (e.set 10 (some (.int m)))[10]? = some (some (.int m)) := by rw [List.getElem?_set_self (by omega)]
  simp [lastBody, sSeq, sTry, sExpr, eCall, evs, val, eVar, g, tree_bad 16 m h, sCont]
theorem loop_ok (e : Slots) (st : Store) (a b c : Int) (h1 : 0 ≤ c) (h : e[1]? = some (some (.fls [.int a, .int b, .int c]))) (hl : e.length = 13) : ∃ e', lastLoop (run tb.prg 19) e st = .nx e' st := by
  have hb : lastLoop = (sFor (srcOf (eLst [(eC (.int 0)), (eFrz (eBin .Sub (eNeg (eC (.int 1))) (eIx (eVar 1) (eC (.int 2))))), (eFrz (eBin .Add (eC (.int 41)) (eIx (eVar 1) (eC (.int 2)))))])) (.nm 10) lastBody) := rfl
  have b1 := body_ok e st 0 (by omega) hl
  have b2 := body_ok (e.set 10 (some (.int 0))) st (-1 - c) (by omega) (by simp [hl])
  have b3 := body_ok ((e.set 10 (some (.int 0))).set 10 (some (.int (-1 - c)))) st (41 + c) (by omega) (by simp [hl])
  simp only [List.set_set] at b2 b3
  refine ⟨e.set 10 (some (.int (41 + c))), ?_⟩
  simp [hb, sFor, srcOf, eLst, evs, val, eC, eFrz, eBin, eNeg, eIx, eVar, h, items, nthI, binop, binInt, walked, forLoop, guardOk, asgI, asg, b1, b2, b3]
theorem head1_ok (sc : D) (ns : List Int) (hs : sc = .fls (ns.map D.int)) (hl : ns.length ≤ 63) : ∃ a b c : Int, (0 ≤ a ∧ a < 4096) ∧ (0 ≤ b ∧ b < 4096) ∧ (0 ≤ c ∧ c < 4096) ∧
    head1 (run tb.prg 19) [some sc, none, none, none, none, none, none, none, none, none, none, none, none] [] = .nx [some sc, some (.fls [.int a, .int b, .int c]), none, none, none, none, none, none, none, none, none, none, none] [] := by
  obtain ⟨x, hx⟩ := cell_ok 18 ns hl
  obtain ⟨a, b, c, ha, hb, hc, hd⟩ := draws_ok 18 x
  refine ⟨a, b, c, ha, hb, hc, ?_⟩
  subst hs
  simp [head1, sAsg, eFrz, eCall, evs, val, eVar, eC, hx, hd, asg]
theorem head2_ok (C : Calls) (sc : D) (a b c : Int) : ∃ n : Int, 1 ≤ n ∧ n ≤ 40 ∧
    head2 C [some sc, some (.fls [.int a, .int b, .int c]), none, none, none, none, none, none, none, none, none, none, none] [] = .nx (env0 sc (.fls [.int a, .int b, .int c]) n) [] := by
  have hb : b % 2 = 0 ∨ b % 2 = 1 := by omega
  rcases hb with hb | hb
  · refine ⟨1 + a % 6, by omega, by omega, ?_⟩
    simp [head2, env0, sAsg, eFrz, evs, val, eVar, eC, eBin, eIx, eLst, items, nthI, binop, binInt, hb, asg]
  · refine ⟨1 + a % 40, by omega, by omega, ?_⟩
    simp [head2, env0, sAsg, eFrz, evs, val, eVar, eC, eBin, eIx, eLst, items, nthI, binop, binInt, hb, asg]
theorem reck : Q.Reck tb 20 63 := by
  intro ns hl
  obtain ⟨a, b, c, ha, hb, hc, h1⟩ := head1_ok _ ns rfl hl
  obtain ⟨n, n1, n2, h2⟩ := head2_ok (run tb.prg 19) (.fls (ns.map D.int)) a b c
  obtain ⟨e, s, h3, e1, e2⟩ := pre_ok (.fls (ns.map D.int)) (.fls [.int a, .int b, .int c]) n n1 n2
  obtain ⟨e', h4⟩ := loop_ok e s a b c hc.1 e1 e2
  refine ⟨[], ?_⟩
  show (run tb.prg (19 + 1)).call "law" _ _ = _
  rw [run_fn (d := d_law) rfl]
  have hg : d_law.g = m_law := rfl
  have q : m_law (run tb.prg 19) [some (.fls (ns.map D.int)), none, none, none, none, none, none, none, none, none, none, none, none] [] = .rt (.bl true) s := by
    rw [law_parts]
    simp only [sSeq, h1, h2, h3, h4]
    simp [sRet, val, eC]
  have q2 : callF ⟨d_law.ps.length, d_law.N.length, d_law.g⟩ (run tb.prg 19) [.fls (ns.map D.int)] [] = .ok (.bl true) s := by
    show (match m_law (run tb.prg 19) [some (.fls (ns.map D.int)), none, none, none, none, none, none, none, none, none, none, none, none] [] with
      | .rt d s1 => R.ok d s1
      | .nx _ s1 => .ok .non s1
      | .exc x _ s1 => .exc x s1
      | _ => .bad) = _
    rw [q]
  rw [q2]
  simp [trunc, D.low]
end K94


open PySem PySem.W PyProof.Rows
set_option maxHeartbeats 0 in
theorem PySem.Challenge.cw_rebut_k94_chains_refuted_holds : PySem.Challenge.rw_rebut_k94_chains_refuted.Holds := by
  w_on; o_law; k_head; (case hw => w_witness2)
  k_fill
  refine Q.law_walk (l := PySem.Challenge.rw_rebut_k94_chains_refuted) (n := 63) (kk := 20) (t := K94.tb) (cc := K94.cc0) (d := K94.d_law) (x := "_law_script") rfl (by decide) rfl rfl ⟨rfl, by decide, by decide⟩ (fun w h Y => PySem.W.kIn_of Y) K94.tbC (by kernel_rfl) rfl rfl rfl K94.reck ?O
  case O =>
    intro w h KX
    refine Q.tbk_mk ?ds ?mt ?cls ?gl ?xs ?blt
    case ds =>
      refine .cons (by refine' Q.ds_fn (x := "is_integer") (st := K94.s_is_integer) ?h ?l ?c ?k; (case h => k_is); (case l => k_is); (case c => k_is); (case k => k_is)) ?_
      refine .cons (by refine' Q.ds_fn (x := "is_number") (st := K94.s_is_number) ?h ?l ?c ?k; (case h => k_is); (case l => k_is); (case c => k_is); (case k => k_is)) ?_
      refine .cons (by refine' Q.ds_fn (x := "is_ascending") (st := K94.s_is_ascending) ?h ?l ?c ?k; (case h => k_is); (case l => k_is); (case c => k_is); (case k => k_is)) ?_
      refine .cons (by refine' Q.ds_fn (x := "is_clause") (st := K94.s_is_clause) ?h ?l ?c ?k; (case h => k_is); (case l => k_is); (case c => k_is); (case k => k_is)) ?_
      refine .cons (by refine' Q.ds_fn (x := "made_clause") (st := K94.s_made_clause) ?h ?l ?c ?k; (case h => k_is); (case l => k_is); (case c => k_is); (case k => k_is)) ?_
      refine .cons (by refine' Q.ds_fn (x := "check_count") (st := K94.s_check_count) ?h ?l ?c ?k; (case h => k_is); (case l => k_is); (case c => k_is); (case k => k_is)) ?_
      refine .cons (by refine' Q.ds_fn (x := "made_formula") (st := K94.s_made_formula) ?h ?l ?c ?k; (case h => k_is); (case l => k_is); (case c => k_is); (case k => k_is)) ?_
      refine .cons (by refine' Q.ds_fn (x := "check_least") (st := K94.s_check_least) ?h ?l ?c ?k; (case h => k_is); (case l => k_is); (case c => k_is); (case k => k_is)) ?_
      refine .cons (by refine' Q.ds_fn (x := "chain_formula") (st := K94.s_chain_formula) ?h ?l ?c ?k; (case h => k_is); (case l => k_is); (case c => k_is); (case k => k_is)) ?_
      refine .cons (by refine' Q.ds_fn (x := "is_earlier") (st := K94.s_is_earlier) ?h ?l ?c ?k; (case h => k_is); (case l => k_is); (case c => k_is); (case k => k_is)) ?_
      refine .cons (by refine' Q.ds_fn (x := "resolvent") (st := K94.s_resolvent) ?h ?l ?c ?k; (case h => k_is); (case l => k_is); (case c => k_is); (case k => k_is)) ?_
      refine .cons (by refine' Q.ds_fn (x := "axiom_clause") (st := K94.s_axiom_clause) ?h ?l ?c ?k; (case h => k_is); (case l => k_is); (case c => k_is); (case k => k_is)) ?_
      refine .cons (by refine' Q.ds_fn (x := "resolved_clause") (st := K94.s_resolved_clause) ?h ?l ?c ?k; (case h => k_is); (case l => k_is); (case c => k_is); (case k => k_is)) ?_
      refine .cons (by refine' Q.ds_fn (x := "weakened_clause") (st := K94.s_weakened_clause) ?h ?l ?c ?k; (case h => k_is); (case l => k_is); (case c => k_is); (case k => k_is)) ?_
      refine .cons (by refine' Q.ds_fn (x := "next_clause") (st := K94.s_next_clause) ?h ?l ?c ?k; (case h => k_is); (case l => k_is); (case c => k_is); (case k => k_is)) ?_
      refine .cons (by refine' Q.ds_me (cn := "Shortener") (x := "__init__") (qual := "Shortener.__init__") (st := K94.s_Shortener_init) ?h ?f ?i ?l ?c ?k; (case h => k_is); (case f => k_is); (case i => k_is); (case l => k_is); (case c => k_is); (case k => k_is)) ?_
      refine .cons (by refine' Q.ds_me (cn := "Shortener") (x := "add") (qual := "Shortener.add") (st := K94.s_Shortener_add) ?h ?f ?i ?l ?c ?k; (case h => k_is); (case f => k_is); (case i => k_is); (case l => k_is); (case c => k_is); (case k => k_is)) ?_
      refine .cons (by refine' Q.ds_me (cn := "Shortener") (x := "resolve") (qual := "Shortener.resolve") (st := K94.s_Shortener_resolve) ?h ?f ?i ?l ?c ?k; (case h => k_is); (case f => k_is); (case i => k_is); (case l => k_is); (case c => k_is); (case k => k_is)) ?_
      refine .cons (by refine' Q.ds_fn (x := "link") (st := K94.s_link) ?h ?l ?c ?k; (case h => k_is); (case l => k_is); (case c => k_is); (case k => k_is)) ?_
      refine .cons (by refine' Q.ds_fn (x := "chain_part") (st := K94.s_chain_part) ?h ?l ?c ?k; (case h => k_is); (case l => k_is); (case c => k_is); (case k => k_is)) ?_
      refine .cons (by refine' Q.ds_fn (x := "chain_tree") (st := K94.s_chain_tree) ?h ?l ?c ?k; (case h => k_is); (case l => k_is); (case c => k_is); (case k => k_is)) ?_
      refine .cons (by refine' Q.ds_me (cn := "Deriver") (x := "axiom") (qual := "Deriver.axiom") (st := K94.s_Deriver_axiom) ?h ?f ?i ?l ?c ?k; (case h => k_is); (case f => k_is); (case i => k_is); (case l => k_is); (case c => k_is); (case k => k_is)) ?_
      refine .cons (by refine' Q.ds_me (cn := "Deriver") (x := "joined") (qual := "Deriver.joined") (st := K94.s_Deriver_joined) ?h ?f ?i ?l ?c ?k; (case h => k_is); (case f => k_is); (case i => k_is); (case l => k_is); (case c => k_is); (case k => k_is)) ?_
      refine .cons (by refine' Q.ds_fn (x := "chain_steps") (st := K94.s_chain_steps) ?h ?l ?c ?k; (case h => k_is); (case l => k_is); (case c => k_is); (case k => k_is)) ?_
      refine .cons (by refine' Q.ds_fn (x := "_law_cell") (st := K94.s_law_cell) ?h ?l ?c ?k; (case h => k_is); (case l => k_is); (case c => k_is); (case k => k_is)) ?_
      refine .cons (by refine' Q.ds_fn (x := "_law_draws") (st := K94.s_law_draws) ?h ?l ?c ?k; (case h => k_is); (case l => k_is); (case c => k_is); (case k => k_is)) ?_
      refine .cons (by refine' Q.ds_fn (x := "_law_is_int") (st := K94.s_law_is_int) ?h ?l ?c ?k; (case h => k_is); (case l => k_is); (case c => k_is); (case k => k_is)) ?_
      refine .cons (by refine' Q.ds_fn (x := "_law_ints") (st := K94.s_law_ints) ?h ?l ?c ?k; (case h => k_is); (case l => k_is); (case c => k_is); (case k => k_is)) ?_
      refine .cons (by refine' Q.ds_fn (x := "_law_clause_of") (st := K94.s_law_clause_of) ?h ?l ?c ?k; (case h => k_is); (case l => k_is); (case c => k_is); (case k => k_is)) ?_
      refine .cons (by refine' Q.ds_fn (x := "_law_of_rows") (st := K94.s_law_of_rows) ?h ?l ?c ?k; (case h => k_is); (case l => k_is); (case c => k_is); (case k => k_is)) ?_
      refine .cons (by refine' Q.ds_fn (x := "_law_breaks") (st := K94.s_law_breaks) ?h ?l ?c ?k; (case h => k_is); (case l => k_is); (case c => k_is); (case k => k_is)) ?_
      refine .cons (by refine' Q.ds_fn (x := "_law_one") (st := K94.s_law_one) ?h ?l ?c ?k; (case h => k_is); (case l => k_is); (case c => k_is); (case k => k_is)) ?_
      refine .cons (by refine' Q.ds_fn (x := "_law_read") (st := K94.s_law_read) ?h ?l ?c ?k; (case h => k_is); (case l => k_is); (case c => k_is); (case k => k_is)) ?_
      refine .cons (by refine' Q.ds_fn (x := "_law_leaves") (st := K94.s_law_leaves) ?h ?l ?c ?k; (case h => k_is); (case l => k_is); (case c => k_is); (case k => k_is)) ?_
      refine .cons (by refine' Q.ds_fn (x := "law") (st := K94.s_law) ?h ?l ?c ?k; (case h => k_is); (case l => k_is); (case c => k_is); (case k => k_is)) ?_
      exact .nil
    case mt =>
      intro hds
      refine .cons (Q.mt_own (d := K94.d_Shortener_init) (hds.get 15 rfl) rfl (by kernel_rfl)) ?_
      refine .cons (Q.mt_own (d := K94.d_Shortener_add) (hds.get 16 rfl) rfl (by kernel_rfl)) ?_
      refine .cons (Q.mt_own (d := K94.d_Shortener_resolve) (hds.get 17 rfl) rfl (by kernel_rfl)) ?_
      refine .cons (by refine' Q.mt_inh (c := "Deriver") (m := "__init__") (d := K94.d_Shortener_init) (hds.get 15 rfl) rfl rfl (by kernel_rfl) ?q1 ?q2 ?q3 ?q4; (case q1 => k_is); (case q2 => k_is); (case q3 => k_is); (case q4 => k_is)) ?_
      refine .cons (by refine' Q.mt_inh (c := "Deriver") (m := "add") (d := K94.d_Shortener_add) (hds.get 16 rfl) rfl rfl (by kernel_rfl) ?q1 ?q2 ?q3 ?q4; (case q1 => k_is); (case q2 => k_is); (case q3 => k_is); (case q4 => k_is)) ?_
      refine .cons (by refine' Q.mt_inh (c := "Deriver") (m := "resolve") (d := K94.d_Shortener_resolve) (hds.get 17 rfl) rfl rfl (by kernel_rfl) ?q1 ?q2 ?q3 ?q4; (case q1 => k_is); (case q2 => k_is); (case q3 => k_is); (case q4 => k_is)) ?_
      refine .cons (Q.mt_own (d := K94.d_Deriver_axiom) (hds.get 21 rfl) rfl (by kernel_rfl)) ?_
      refine .cons (Q.mt_own (d := K94.d_Deriver_joined) (hds.get 22 rfl) rfl (by kernel_rfl)) ?_
      exact .nil
    case cls =>
      refine .cons (by refine' ⟨_, ?a, ⟨?pg, ?hd, ?po, ?sa⟩, ?mk, ?kc, ?fl⟩; (case a => k_is); (case pg => k_is); (case hd => k_is); (case po => k_is); (case sa => k_is); (case mk => k_is); (case kc => k_is); (case fl => exact Q.AllL.mem (.cons (by unfold L2.NoAttr; k_is) (.cons (by unfold L2.NoAttr; k_is) (.cons (by unfold L2.NoAttr; k_is) (.nil)))))) ?_
      refine .cons (by refine' ⟨_, ?a, ⟨?pg, ?hd, ?po, ?sa⟩, ?mk, ?kc, ?fl⟩; (case a => k_is); (case pg => k_is); (case hd => k_is); (case po => k_is); (case sa => k_is); (case mk => k_is); (case kc => k_is); (case fl => exact Q.AllL.mem (.cons (by unfold L2.NoAttr; k_is) (.cons (by unfold L2.NoAttr; k_is) (.cons (by unfold L2.NoAttr; k_is) (.nil)))))) ?_
      exact .nil
    case gl =>
      refine .cons (by refine' Q.gb_int ?g; (case g => k_is)) ?_
      exact .nil
    case xs =>
      refine .cons (by refine' Q.xs_mk (x := "BadFormula") (cs := ["BadFormula"]) (by decide +kernel) ?xa ?xk ?xe ?xs ?xt ?xp; (case xa => k_is); (case xk => k_is); (case xe => k_exc); (case xs => k_is); (case xt => k_is); (case xp => exact .cons (by refine' Q.xp_mk (y := "BadFormula") (x := "BadFormula") (b := true) ?y ?x ?m1 ?m2 ?m3 ?m4 ?b; (case y => k_is); (case x => k_is); (case m1 => k_is); (case m2 => k_is); (case m3 => k_is); (case m4 => k_is); (case b => decide +kernel)) (.nil))) ?_
      exact .nil
    case blt => exact .cons (by k_is) (.cons (by k_is) (.cons (by k_is) (.cons (by k_is) (.cons (by k_is) (.cons (by k_is) (.cons (by k_is) (.cons (by k_is) (.cons (by k_is) (.cons (by k_is) (.cons (by k_is) (.cons (by k_is) (.cons (by k_is) (.cons (by k_is) (.cons (by k_is) (.cons (by k_is) (.cons (by k_is) (.cons (by k_is) (.nil))))))))))))))))))
