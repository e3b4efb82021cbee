import PyProof.Rows.All
import PyProof.P3Statements
import PyProof.StrCalls2
import PyProof.Cells
import PyProof.DictStraight
import PyProof.Rules3
import PyProof.ListOps
import PyProof.SliceList
import PyProof.SliceMore
import PyProof.PureInt
import PyProof.NoPylong
import PyProof.Rows.RuleB_floordiv
import PyProof.Rows.RuleB_mod
import PyProof.Rows.ListMul
import PyProof.IsiPairs
import PyProof.IsiHeapPairs
import PyProof.IsiNone
import PyProof.Methods
import PyProof.LetGo
import PyProof.ListIndexNeg
import PyProof.Rows.Tup
import PyProof.Rows.TupSub
import PyProof.Rows.StrRules
import PyProof.EqLayable
import PyProof.P3In
import PyProof.Rows.InDataRows
import PyProof.ListCopy
import PyProof.TupleOfSeq
import PyProof.TupleCall
import PyProof.WalkInts
import PyProof.CompFree
import PyProof.CallRoads
import PyProof.CallType
import PyProof.DefCall
import PyProof.SliceSyntax
import PyProof.WalksMore
import PyProof.ForRange
import PyProof.Rows.OwnQ
import PyProof.EqKinds
import PyProof.NeKinds
import PyProof.FactsAll.list_2
import PyProof.ListRange
import PyProof.Conv_int_bool
import PyProof.Rows.Range3
import PyProof.StrBlockH
import PyProof.CallStr
import PyProof.Conv_int
import PyProof.Rows.StrItems
import KE.IntTextText
import PyProof.FactsAll.str_5
import PyProof.DictRoads
import PyProof.Rows.DictMade
import PyProof.SeqI3
import PyProof.ConsumeWalk
import PyProof.RangeFor
import PyProof.TupleIter
import PyProof.PlainList
import PyProof.CompUse
import PyProof.Rows.Chain
import PyProof.Rows.Nodes
import PyProof.RulesRaise
import PyProof.PassesOwn
import PyProof.Rows.Top
import Wide.All
import Open.Line
import Wide.FinOn
import PySem.Challenge.RW_uf030033_08
set_option Elab.async false
set_option linter.all false
set_option bootstrap.genMatcherCode false
namespace Mine
open PySem

inductive V where
  | none | bool (b : Bool) | int (i : Int) | str (s : Str) | ref (a : Nat)
  deriving DecidableEq, Inhabited

inductive O where
  | list (xs : List V) | frozen (xs : List V) | tuple (xs : List V)
  | dict (es : List (Int × V)) | inst (c : String) (d : Nat) | fdict (fs : List (String × V)) | exc (c : String)
  deriving Inhabited

abbrev Hp := List O
abbrev Env := String → Option V
noncomputable def Env.set (ρ : Env) (x : String) (v : V) : Env := fun y => bif y == x then some v else ρ y
set_option genSizeOf false
set_option genInjectivity false
inductive Cmp where
  | eq | ne | lt | le | gt | ge | is_ | isNot | in_ | notIn
inductive Bin where
  | add | sub | mul | mod | fdiv
inductive Prim where
  | bin (o : Bin) | neg | cmp (o : Cmp)
  | len | isinst (ts : List String) | list | tuple | str | int | min1 | min2 | max2 | any | all | sum
  | item | slice (lo hi : Bool) | rev
  | mkList | mkTuple | mkDict
  | append | pop | index | join | split | startswith
  | attr (n : String) | listRange

inductive Tgt where
  | one (x : String) | two (x y : String)

inductive E where
  | none | bool (b : Bool) | int (i : Int) | str (s : String)
  | var (x : String) | glob (x : String)
  | op (p : Prim) (args : List E)
  | mcall (p : Prim) (o : E) (args : List E)
  | and_ (es : List E) | or_ (es : List E) | not_ (e : E)
  | ife (c a b : E)
  | chain (a : E) (o : Cmp) (b : E) (o' : Cmp) (c : E)
  | call (f : String) (args : List E)
  | meth (m : String) (o : E) (args : List E)
  | new (c : String) (args : List E)
  | compR (elt : E) (x : String) (args : List E) (conds : List E)
  | compS (elt : E) (x : Tgt) (src : E) (conds : List E)

mutual
inductive S where
  | assign (x : String) (e : E)
  | setItem (o i v : E)
  | setAttr (o : E) (n : String) (v : E)
  | expr (e : E)
  | ret (e : E)
  | retN
  | ite (c : E) (a b : List S)
  | forR (x : String) (args : List E) (body : List S)
  | forS (x : String) (src : E) (body : List S)
  | while_ (c : E) (body : List S)
  | raise (c : String) (msg : String)
  | try_ (body : List S) (hs : List Hd)
inductive Hd where
  | mk (c : String) (as : Option String) (body : List S)
end

set_option genSizeOf true
set_option genInjectivity true
structure Fn where
  params : List String
  body : List S

/-- the defs and the exception classes that a mini program uses -/
structure Tab where
  fns : List String
  excs : List String


noncomputable def lim : Nat := 100000

noncomputable def seqOf (H : Hp) (a : Nat) : Option (List V) := match H[a]? with
  | some (.list xs) | some (.frozen xs) | some (.tuple xs) => some xs
  | _ => none

noncomputable def listOf? (H : Hp) (a : Nat) : Option (List V) := match H[a]? with
  | some (.list xs) => some xs
  | _ => none

theorem listOf_some {H : Hp} {a : Nat} {xs : List V} (h : listOf? H a = some xs) : H[a]? = some (.list xs) := by
  unfold listOf? at h
  split at h
  · rename_i e; cases h; exact e
  · cases h
theorem listOf_eq {H : Hp} {a : Nat} {xs : List V} (h : H[a]? = some (.list xs)) : listOf? H a = some xs := by unfold listOf?; rw [h]

noncomputable def readD : Nat → Hp → V → Option PyData
  | _, _, .none => some .none
  | _, _, .bool b => some (.bool b)
  | _, _, .int i => some (.int i)
  | _, _, .str s => some (.str s)
  | 0, _, .ref _ => none
  | n + 1, H, .ref a => match H[a]? with
    | some (.list xs) => (xs.mapM (readD n H)).map .list
    | some (.frozen xs) => (xs.mapM (readD n H)).map .list
    | some (.tuple xs) => (xs.mapM (readD n H)).map .tuple
    | _ => none

noncomputable def asInt : V → Option Int
  | .int i => some i
  | _ => none
noncomputable def asBool : V → Option Bool
  | .bool b => some b
  | _ => none
noncomputable def eqD (H : Hp) (a b : V) : Option Bool := match readD 8 H a, readD 8 H b with
  | some x, some y => if x.canLay0 && y.canLay0 then some (PyData.eqv x y) else none
  | _, _ => none

noncomputable def inD (H : Hp) (x : V) (xs : List V) : Option Bool := match readD 8 H x, xs.mapM (readD 8 H) with
  | some d, some ds => if d.canLay0 && PyData.canLayAll0 ds then some (ds.any fun y => PyData.eqv y d) else none
  | _, _ => none

noncomputable def memO (H : Hp) (x : V) : O → Option Bool
  | .list xs => inD H x xs
  | .frozen xs => inD H x xs
  | .tuple xs => inD H x xs
  | .dict es => match x with
    | .int k => some (es.any fun e => e.1 == k)
    | _ => none
  | _ => none
noncomputable def mem (H : Hp) (x c : V) : Option Bool := match c with
  | .ref a => H[a]?.bind (memO H x)
  | _ => none
theorem mem_ref {H : Hp} {x : V} {a : Nat} {o : O} (h : H[a]? = some o) : mem H x (.ref a) = memO H x o := by
  show H[a]?.bind (memO H x) = _
  rw [h]; rfl

noncomputable def lessV (H : Hp) (a b : V) : Option Bool := match a, b with
  | .int i, .int j => some (decide (i < j))
  | _, _ => none

noncomputable def isSame (a b : V) : Option Bool := match b with
  | .none => some (decide (a = .none))
  | .bool true => some (decide (a = .bool true))
  | _ => none

noncomputable def cmpV (o : Cmp) (a b : V) (H : Hp) : Option Bool := match o with
  | .eq => eqD H a b
  | .ne => (eqD H a b).map (!·)
  | .lt => lessV H a b
  | .le => match a, b with | .int i, .int j => some (decide (i ≤ j)) | _, _ => none
  | .gt => match a, b with | .int i, .int j => some (decide (j < i)) | _, _ => none
  | .ge => match a, b with | .int i, .int j => some (decide (j ≤ i)) | _, _ => none
  | .is_ => isSame a b
  | .isNot => (isSame a b).map (!·)
  | .in_ => mem H a b
  | .notIn => (mem H a b).map (!·)

noncomputable def putNew (H : Hp) (o : O) : Option (V × Hp) := some (.ref H.length, H ++ [o])

noncomputable def addV (a b : V) (H : Hp) : Option (V × Hp) := match a, b with
  | .int i, .int j => some (.int (i + j), H)
  | .str x, .str y => if x.cps.size + y.cps.size ≤ lim then some (.str (x ++ y), H) else none
  | .ref a, .ref b => (listOf? H a).bind fun xs => (listOf? H b).bind fun ys => if xs.length + ys.length ≤ lim then putNew H (.list (xs ++ ys)) else none
  | _, _ => none

noncomputable def mulV (a b : V) (H : Hp) : Option (V × Hp) := match a, b with
  | .int i, .int j => if i.natAbs < 2 ^ 30 && j.natAbs < 2 ^ 30 then some (.int (i * j), H) else none
  | .ref a, .int n => (listOf? H a).bind fun xs => match xs with
    | [x] => if n.natAbs ≤ lim then putNew H (.list (List.replicate n.toNat x)) else none
    | _ => none
  | _, _ => none

noncomputable def binV (o : Bin) (a b : V) (H : Hp) : Option (V × Hp) := match o with
  | .add => addV a b H
  | .sub => match a, b with | .int i, .int j => some (.int (i - j), H) | _, _ => none
  | .mul => mulV a b H
  | .mod => match a, b with | .int i, .int j => if j = 0 then none else some (.int (i.fmod j), H) | _, _ => none
  | .fdiv => match a, b with | .int i, .int j => if j = 0 ∨ 2 ^ 30 ≤ j.natAbs then none else some (.int (i.fdiv j), H) | _, _ => none

noncomputable def lenV (v : V) (H : Hp) : Option Int := match v with
  | .str s => if s.cps.size ≤ lim then some s.cps.size else none
  | .ref a => (seqOf H a).map fun xs => (xs.length : Int)
  | _ => none

/-- an exception class and the classes above it -/
noncomputable def supers : String → List String
  | "BadWishes" => ["BadWishes", "BedError", "ValueError"]
  | "BadGuest" => ["BadGuest", "BedError", "ValueError"]
  | "BadMates" => ["BadMates", "BedError", "ValueError"]
  | "BadParties" => ["BadParties", "BedError", "ValueError"]
  | "NoNote" => ["NoNote", "BedError", "ValueError"]
  | _ => []

noncomputable def typesOf (v : V) (H : Hp) : List String := match v with
  | .none => []
  | .bool _ => ["bool", "int"]
  | .int _ => ["int"]
  | .str _ => ["str"]
  | .ref a => match H[a]? with
    | some (.list _) | some (.frozen _) => ["list"]
    | some (.tuple _) => ["tuple"]
    | some (.exc c) => supers c
    | _ => []

noncomputable def isInst (v : V) (ts : List String) (H : Hp) : Bool := ts.any fun t => (typesOf v H).contains t

noncomputable def normIdx (i : Int) (n : Nat) : Option Nat :=
  let j := if i < 0 then i + n else i
  if 0 ≤ j ∧ j < n then some j.toNat else none

noncomputable def itemV (v i : V) (H : Hp) : Option V := match i with
  | .int i => match v with
    | .ref a => (seqOf H a).bind fun xs => (normIdx i xs.length).bind fun k => xs[k]?
    | _ => none
  | _ => none

noncomputable def clampIdx (n : Nat) (i : Int) : Nat := (max 0 (min (if i < 0 then i + n else i) n)).toNat

noncomputable def cut {α : Type} (xs : List α) (lo hi : Option Int) : List α :=
  (xs.drop (lo.elim 0 (clampIdx xs.length))).take (hi.elim xs.length (clampIdx xs.length) - lo.elim 0 (clampIdx xs.length))

noncomputable def lsOf : O → Option (List V)
  | .list xs => some xs
  | .frozen xs => some xs
  | _ => none
noncomputable def sliceV (v : V) (lo hi : Option Int) (H : Hp) : Option (V × Hp) := match v with
  | .ref a => (H[a]?.bind lsOf).bind fun xs => putNew H (.list (cut xs lo hi))
  | _ => none

noncomputable def rangeI (a b c : Int) : List Int := (List.range (if a < b then (b - a - 1) / c + 1 else 0).toNat).map fun k : Nat => a + (k : Int) * c

noncomputable def rangeOf (vs : List V) : Option (List Int) := match vs with
  | [.int b] => if b.natAbs ≤ lim then some (rangeI 0 b 1) else none
  | [.int a, .int b] => if 0 ≤ a ∧ a.natAbs ≤ lim ∧ b.natAbs ≤ lim then some (rangeI a b 1) else none
  | [.int a, .int b, .int c] => if 0 ≤ a ∧ a.natAbs ≤ lim ∧ b.natAbs ≤ lim ∧ 0 < c ∧ c.natAbs ≤ lim then some (rangeI a b c) else none
  | _ => none

noncomputable def setAtV (xs : List V) (i : Int) (v : V) : Option (List V) := if 0 ≤ i ∧ i < xs.length then some (xs.set i.toNat v) else none

noncomputable def dictPut (es : List (Int × V)) (k : Int) (v : V) : List (Int × V) :=
  if es.any (fun e => e.1 == k) then es.map fun e => if e.1 == k then (k, v) else e else es ++ [(k, v)]

noncomputable def setV (o i v : V) (H : Hp) : Option Hp := match o, i with
  | .ref a, .int i => match H[a]? with
    | some (.list xs) => (setAtV xs i v).map fun ys => H.set a (.list ys)
    | some (.dict es) => if es.length < lim then some (H.set a (.dict (dictPut es i v))) else none
    | _ => none
  | _, _ => none

noncomputable def appendV (vs : List V) (H : Hp) : Option (V × Hp) := match vs with
  | [.ref a, v] => (listOf? H a).bind fun xs => if xs.length < lim then some (.none, H.set a (.list (xs ++ [v]))) else none
  | _ => none
noncomputable def popV (vs : List V) (H : Hp) : Option (V × Hp) := match vs with
  | [.ref a, .int i] => (listOf? H a).bind fun xs => (normIdx i xs.length).bind fun k => xs[k]?.map fun v => (v, H.set a (.list (xs.eraseIdx k)))
  | _ => none
noncomputable def indexV (vs : List V) (H : Hp) : Option (V × Hp) := match vs with
  | [.ref a, .int k] => (listOf? H a).bind fun xs => (xs.mapM asInt).bind fun is => if k ∈ is then some (.int (is.idxOf k : Nat), H) else none
  | _ => none


noncomputable def methV (p : Prim) (vs : List V) (H : Hp) : Option (V × Hp) := match p with
  | .append => appendV vs H
  | .pop => popV vs H
  | .index => indexV vs H
  | _ => none

noncomputable def attrV (n : String) (v : V) (H : Hp) : Option V := match v with
  | .ref a => match H[a]? with
    | some (.inst _ d) => (match H[d]? with
      | some (.fdict fs) => fs.lookup n
      | _ => none)
    | _ => none
  | _ => none

noncomputable def strV (v : V) : Option V := match v with
  | .int i => if i.natAbs < 1000 then some (.str (Str.ofString (toString i))) else none
  | _ => none

noncomputable def intV (v : V) : Option V := match v with
  | .bool b => some (.int (if b then 1 else 0))
  | _ => none

noncomputable def minL : List Int → Option Int
  | [] => none
  | a :: r => some (r.foldl (fun x y => if y < x then y else x) a)

noncomputable def on1 {α : Type} (vs : List V) (g : V → Option α) : Option α := match vs with
  | [v] => g v
  | _ => none
noncomputable def on1r {α : Type} (vs : List V) (g : Nat → Option α) : Option α := match vs with
  | [.ref a] => g a
  | _ => none
noncomputable def prim (p : Prim) (vs : List V) (H : Hp) : Option (V × Hp) := match p with
  | .bin o => match vs with | [a, b] => binV o a b H | _ => none
  | .neg => match vs with | [.int i] => some (.int (-i), H) | _ => none
  | .cmp o => match vs with | [a, b] => (cmpV o a b H).map fun b => (.bool b, H) | _ => none
  | .len => on1 vs fun v => (lenV v H).map fun n => (.int n, H)
  | .isinst ts => on1 vs fun v => some (.bool (isInst v ts H), H)
  | .list => on1r vs fun a => (seqOf H a).bind fun xs => putNew H (.list xs)
  | .tuple => on1r vs fun a => (seqOf H a).bind fun xs => putNew H (.tuple xs)
  | .str => on1 vs fun v => (strV v).map fun x => (x, H)
  | .int => on1 vs fun v => (intV v).map fun x => (x, H)
  | .min1 => on1r vs fun a => (listOf? H a).bind fun xs => (xs.mapM asInt).bind fun is => (minL is).map fun i => (.int i, H)
  | .min2 => match vs with | [.int i, .int j] => some (.int (if j < i then j else i), H) | _ => none
  | .max2 => match vs with | [.int i, .int j] => some (.int (if i < j then j else i), H) | _ => none
  | .any => on1r vs fun a => (listOf? H a).bind fun xs => (xs.mapM asBool).map fun bs => (.bool (bs.any id), H)
  | .all => on1r vs fun a => (seqOf H a).bind fun xs => (xs.mapM asBool).map fun bs => (.bool (bs.all id), H)
  | .sum => on1r vs fun a => (listOf? H a).bind fun xs => (xs.mapM asInt).bind fun is => if is.all (fun i => decide (i.natAbs ≤ lim)) then some (.int is.sum, H) else none
  | .item => match vs with | [v, i] => (itemV v i H).map fun x => (x, H) | _ => none
  | .slice lo hi => match lo, hi, vs with
    | false, false, [v] => sliceV v none none H
    | true, false, [v, .int i] => sliceV v (some i) none H
    | false, true, [v, .int j] => sliceV v none (some j) H
    | true, true, [v, .int i, .int j] => sliceV v (some i) (some j) H
    | _, _, _ => none
  | .rev => on1r vs fun a => (listOf? H a).bind fun xs => putNew H (.list xs.reverse)
  | .mkList => if vs.length ≤ lim then putNew H (.list vs) else none
  | .mkTuple => if vs.length ≤ lim then putNew H (.tuple vs) else none
  | .mkDict => match vs with | [] => putNew H (.dict []) | _ => none
  | .attr n => on1 vs fun v => (attrV n v H).map fun x => (x, H)
  | .listRange => (rangeOf vs).bind fun is => if is.length ≤ lim then putNew H (.list (is.map .int)) else none
  | .append => methV .append vs H
  | .pop => methV .pop vs H
  | .index => methV .index vs H
  | .join => methV .join vs H
  | .split => methV .split vs H
  | .startswith => methV .startswith vs H

noncomputable def oE {α : Type} (o : Option α) (f : α → Prop) : Prop := match o with
  | some a => f a
  | none => False
theorem oE_some {α : Type} {a : α} {f : α → Prop} : oE (some a) f = f a := rfl
theorem oE_ex {α : Type} {o : Option α} {f : α → Prop} (h : oE o f) : ∃ a, o = some a ∧ f a := match o, h with
  | some a, h => ⟨a, rfl, h⟩
noncomputable def kS (r : Option V) (a : Prop) (b : V → Prop) : Prop := match r with
  | none => a
  | some v => b v
theorem kS_none {a : Prop} {b : V → Prop} : kS none a b = a := rfl
theorem kS_some {v : V} {a : Prop} {b : V → Prop} : kS (some v) a b = b v := rfl
noncomputable def oSeq (v : V) (H : Hp) : Option (Nat × List V) := match v with
  | .ref a => (seqOf H a).map fun xs => (a, xs)
  | _ => none
theorem os_ref {a : Nat} {H : Hp} : oSeq (.ref a) H = (seqOf H a).map fun xs => (a, xs) := rfl
noncomputable def oInst (v : V) (H : Hp) : Option (Nat × String) := match v with
  | .ref a => H[a]?.bind fun o => match o with
    | .inst c _ => some (a, c)
    | _ => none
  | _ => none


abbrev Post := V → Hp → Prop
abbrev XP := String → Hp → Prop
abbrev SPost := Option V → Env → Hp → Prop
abbrev SXP := XP

noncomputable def noX : XP := fun _ _ => False

structure Ctx where
  ok : Bool
  call : String → List V → Hp → Post → XP → Prop
  glob : String → Option V

noncomputable def wP (p : Prim) (vs : List V) (H : Hp) (Q : Post) : Prop := oE (prim p vs H) fun r => Q r.1 r.2

/-- what a built-in method's receiver must be -/
noncomputable def recvOk (p : Prim) (v : V) (H : Hp) : Bool := match p with
  | .append | .pop | .index => (match v with
    | .ref a => (match H[a]? with | some (.list _) => true | _ => false)
    | _ => false)
  | .join | .split | .startswith => (match v with | .str _ => true | _ => false)
  | _ => false

noncomputable def wB (v : V) (k : Bool → Prop) : Prop := match v with
  | .bool b => k b
  | _ => False

noncomputable def wIf (b : Bool) (p q : Prop) : Prop := (b = true → p) ∧ (b = false → q)

noncomputable def wLoop (G : Hp → Prop) (step : V → Hp → (Option V → Hp → Prop) → Prop) : List V → List V → Hp → (List V → Hp → Prop) → Prop
  | [], acc, H, k => G H ∧ k acc H
  | v :: vs, acc, H, k => G H ∧ step v H (fun o H' => wLoop G step vs (o.elim acc fun u => acc ++ [u]) H' k)

noncomputable def wFor (G : Hp → Prop) (step : V → Env → Hp → SPost → Prop) : List V → Env → Hp → SPost → Prop
  | [], ρ, H, k => G H ∧ k none ρ H
  | v :: vs, ρ, H, k => G H ∧ step v ρ H (fun r ρ' H' => kS r (wFor G step vs ρ' H' k) fun v => k (some v) ρ' H')

noncomputable def wWhile (test : Env → Hp → (Bool → Hp → Prop) → Prop) (body : Env → Hp → SPost → Prop) : Nat → Env → Hp → SPost → Prop
  | 0, _, _, _ => False
  | n + 1, ρ, H, k => test ρ H fun b H1 => wIf b (body ρ H1 fun r ρ' H' => kS r (wWhile test body n ρ' H' k) fun v => k (some v) ρ' H') (k none ρ H1)

noncomputable def bindT (t : Tgt) (v : V) (ρ : Env) (H : Hp) : Option Env := match t with
  | .one x => some (ρ.set x v)
  | .two x y => match v with
    | .ref a => (match H[a]? with
      | some (.tuple [u, w]) => some ((ρ.set x u).set y w)
      | _ => none)
    | _ => none

mutual
noncomputable def wE (C : Ctx) : E → Env → Hp → Post → XP → Prop
  | .none, _, H, Q, _ => Q .none H
  | .bool b, _, H, Q, _ => Q (.bool b) H
  | .int i, _, H, Q, _ => Q (.int i) H
  | .str s, _, H, Q, _ => Q (.str (Str.ofString s)) H
  | .var x, ρ, H, Q, _ => oE (ρ x) fun v => Q v H
  | .glob x, _, H, Q, _ => oE (C.glob x) fun v => Q v H
  | .op p args, ρ, H, Q, X => wEs C args ρ H (fun vs H1 => wP p vs H1 Q) X
  | .mcall p o args, ρ, H, Q, X => wE C o ρ H (fun v H1 => recvOk p v H1 = true ∧ wEs C args ρ H1 (fun vs H2 => wP p (v :: vs) H2 Q) X) X
  | .and_ es, ρ, H, Q, X => wAnd C es ρ H (fun b H1 => Q (.bool b) H1) X
  | .or_ es, ρ, H, Q, X => wOr C es ρ H (fun b H1 => Q (.bool b) H1) X
  | .not_ e, ρ, H, Q, X => wE C e ρ H (fun v H1 => wB v fun b => Q (.bool (!b)) H1) X
  | .ife c a b, ρ, H, Q, X => wE C c ρ H (fun v H1 => wB v fun t => wIf t (wE C a ρ H1 Q X) (wE C b ρ H1 Q X)) X
  | .chain a o b o' c, ρ, H, Q, X => wE C a ρ H (fun va H1 => wE C b ρ H1 (fun vb H2 => wP (.cmp o) [va, vb] H2 fun r H3 => wB r fun t => wIf t
      (wE C c ρ H3 (fun vc H4 => wP (.cmp o') [vb, vc] H4 Q) X)
      (Q (.bool false) H3)) X) X
  | .call f args, ρ, H, Q, X => wEs C args ρ H (fun vs H1 => C.call f vs H1 Q X) X
  | .meth m o args, ρ, H, Q, X => wE C o ρ H (fun v H1 => oE (oInst v H1) fun p => wEs C args ρ H1 (fun vs H2 => C.call (p.2 ++ "." ++ m) (.ref p.1 :: vs) H2 Q X) X) X
  | .new c args, ρ, H, Q, X => wEs C args ρ H (fun vs H1 => C.call (c ++ ".__init__") (.ref (H1.length + 1) :: vs) (H1 ++ [.fdict [], .inst c H1.length]) (fun _ H2 => Q (.ref (H1.length + 1)) H2) X) X
  | .compR elt x args conds, ρ, H, Q, X => wEs C args ρ H (fun vs H1 => oE (rangeOf vs) fun is => wLoop (fun _ => True) (fun v H2 k => wAnd C conds (ρ.set x v) H2 (fun b H3 => wIf b
          (wE C elt (ρ.set x v) H3 (fun u H4 => k (some u) H4) noX)
          (k none H3)) noX) (is.map .int) [] H1 (fun acc H5 => Q (.ref H5.length) (H5 ++ [.list acc]))) X
  | .compS elt t src conds, ρ, H, Q, X => wE C src ρ H (fun vs H1 => oE (oSeq vs H1) fun p => wLoop (fun H' => H'[p.1]? = H1[p.1]?) (fun v H2 k => oE (bindT t v ρ H2) fun ρ' => wAnd C conds ρ' H2 (fun b H3 => wIf b
              (wE C elt ρ' H3 (fun u H4 => k (some u) H4) noX)
              (k none H3)) noX) p.2 [] H1 (fun acc H5 => Q (.ref H5.length) (H5 ++ [.list acc]))) X
noncomputable def wEs (C : Ctx) : List E → Env → Hp → (List V → Hp → Prop) → XP → Prop
  | [], _, H, Q, _ => Q [] H
  | e :: es, ρ, H, Q, X => wE C e ρ H (fun v H1 => wEs C es ρ H1 (fun vs H2 => Q (v :: vs) H2) X) X
noncomputable def wAnd (C : Ctx) : List E → Env → Hp → (Bool → Hp → Prop) → XP → Prop
  | [], _, H, Q, _ => Q true H
  | e :: es, ρ, H, Q, X => wE C e ρ H (fun v H1 => wB v fun b => wIf b
      (wAnd C es ρ H1 Q X)
      (Q false H1)) X
noncomputable def wOr (C : Ctx) : List E → Env → Hp → (Bool → Hp → Prop) → XP → Prop
  | [], _, H, Q, _ => Q false H
  | e :: es, ρ, H, Q, X => wE C e ρ H (fun v H1 => wB v fun b => wIf b
      (Q true H1)
      (wOr C es ρ H1 Q X)) X
end

section
variable {C : Ctx} {ρ : Env} {H : Hp} {Q : Post} {X : XP}
theorem e_none : wE C .none ρ H Q X = Q .none H := rfl
theorem e_bool {b : Bool} : wE C (.bool b) ρ H Q X = Q (.bool b) H := rfl
theorem e_int {i : Int} : wE C (.int i) ρ H Q X = Q (.int i) H := rfl
theorem e_str {s : String} : wE C (.str s) ρ H Q X = Q (.str (Str.ofString s)) H := rfl
theorem e_var {x : String} : wE C (.var x) ρ H Q X = oE (ρ x) fun v => Q v H := rfl
theorem e_glob {x : String} : wE C (.glob x) ρ H Q X = oE (C.glob x) fun v => Q v H := rfl
theorem e_op {p : Prim} {args : List E} : wE C (.op p args) ρ H Q X = wEs C args ρ H (fun vs H1 => wP p vs H1 Q) X := rfl
theorem e_mcall {p : Prim} {o : E} {args : List E} : wE C (.mcall p o args) ρ H Q X = wE C o ρ H (fun v H1 => recvOk p v H1 = true ∧ wEs C args ρ H1 (fun vs H2 => wP p (v :: vs) H2 Q) X) X := rfl
theorem e_and {es : List E} : wE C (.and_ es) ρ H Q X = wAnd C es ρ H (fun b H1 => Q (.bool b) H1) X := rfl
theorem e_or {es : List E} : wE C (.or_ es) ρ H Q X = wOr C es ρ H (fun b H1 => Q (.bool b) H1) X := rfl
theorem e_not {e : E} : wE C (.not_ e) ρ H Q X = wE C e ρ H (fun v H1 => wB v fun b => Q (.bool (!b)) H1) X := rfl
theorem e_ife {c a b : E} : wE C (.ife c a b) ρ H Q X = wE C c ρ H (fun v H1 => wB v fun t => wIf t (wE C a ρ H1 Q X) (wE C b ρ H1 Q X)) X := rfl
theorem e_chain {a b c : E} {o o' : Cmp} : wE C (.chain a o b o' c) ρ H Q X = wE C a ρ H (fun va H1 => wE C b ρ H1 (fun vb H2 => wP (.cmp o) [va, vb] H2 fun r H3 => wB r fun t => wIf t
      (wE C c ρ H3 (fun vc H4 => wP (.cmp o') [vb, vc] H4 Q) X)
      (Q (.bool false) H3)) X) X := rfl
theorem e_call {f : String} {args : List E} : wE C (.call f args) ρ H Q X = wEs C args ρ H (fun vs H1 => C.call f vs H1 Q X) X := rfl
theorem e_compR {elt : E} {x : String} {args conds : List E} : wE C (.compR elt x args conds) ρ H Q X = wEs C args ρ H (fun vs H1 => oE (rangeOf vs) fun is => wLoop (fun _ => True) (fun v H2 k => wAnd C conds (ρ.set x v) H2 (fun b H3 => wIf b
          (wE C elt (ρ.set x v) H3 (fun u H4 => k (some u) H4) noX)
          (k none H3)) noX) (is.map .int) [] H1 (fun acc H5 => Q (.ref H5.length) (H5 ++ [.list acc]))) X := rfl
theorem e_compS {elt : E} {t : Tgt} {src : E} {conds : List E} : wE C (.compS elt t src conds) ρ H Q X = wE C src ρ H (fun vs H1 => oE (oSeq vs H1) fun p => wLoop (fun H' => H'[p.1]? = H1[p.1]?) (fun v H2 k => oE (bindT t v ρ H2) fun ρ' => wAnd C conds ρ' H2 (fun b H3 => wIf b
              (wE C elt ρ' H3 (fun u H4 => k (some u) H4) noX)
              (k none H3)) noX) p.2 [] H1 (fun acc H5 => Q (.ref H5.length) (H5 ++ [.list acc]))) X := rfl
theorem es_nil {Q : List V → Hp → Prop} : wEs C [] ρ H Q X = Q [] H := rfl
theorem es_cons {e : E} {es : List E} {Q : List V → Hp → Prop} : wEs C (e :: es) ρ H Q X = wE C e ρ H (fun v H1 => wEs C es ρ H1 (fun vs H2 => Q (v :: vs) H2) X) X := rfl
theorem and_nil {Q : Bool → Hp → Prop} : wAnd C [] ρ H Q X = Q true H := rfl
theorem and_cons {e : E} {es : List E} {Q : Bool → Hp → Prop} : wAnd C (e :: es) ρ H Q X = wE C e ρ H (fun v H1 => wB v fun b => wIf b (wAnd C es ρ H1 Q X) (Q false H1)) X := rfl
theorem or_nil {Q : Bool → Hp → Prop} : wOr C [] ρ H Q X = Q false H := rfl
theorem or_cons {e : E} {es : List E} {Q : Bool → Hp → Prop} : wOr C (e :: es) ρ H Q X = wE C e ρ H (fun v H1 => wB v fun b => wIf b (Q true H1) (wOr C es ρ H1 Q X)) X := rfl
theorem b_bool {b : Bool} {k : Bool → Prop} : wB (.bool b) k = k b := rfl
theorem p_bin {o : Bin} {a b : V} : prim (.bin o) [a, b] H = binV o a b H := rfl
theorem p_negI {i : Int} : prim .neg [.int i] H = some (.int (-i), H) := rfl
theorem p_cmpP {o : Cmp} {a b : V} : prim (.cmp o) [a, b] H = (cmpV o a b H).map fun b => (.bool b, H) := rfl
theorem p_len {v : V} : prim .len [v] H = (lenV v H).map fun n => (.int n, H) := rfl
theorem p_inst {ts : List String} {v : V} : prim (.isinst ts) [v] H = some (.bool (isInst v ts H), H) := rfl
theorem p_listP {a : Nat} : prim .list [.ref a] H = (seqOf H a).bind fun xs => putNew H (.list xs) := rfl
theorem p_min1P {a : Nat} : prim .min1 [.ref a] H = (listOf? H a).bind fun xs => (xs.mapM asInt).bind fun is => (minL is).map fun i => (.int i, H) := rfl
theorem p_anyP {a : Nat} : prim .any [.ref a] H = (listOf? H a).bind fun xs => (xs.mapM asBool).map fun bs => (.bool (bs.any id), H) := rfl
theorem p_itemP {v i : V} : prim .item [v, i] H = (itemV v i H).map fun x => (x, H) := rfl
theorem p_slTo {v : V} {j : Int} : prim (.slice false true) [v, .int j] H = sliceV v none (some j) H := rfl
theorem p_slFrom {v : V} {i : Int} : prim (.slice true false) [v, .int i] H = sliceV v (some i) none H := rfl
theorem p_mkL {vs : List V} : prim .mkList vs H = if vs.length ≤ lim then putNew H (.list vs) else none := rfl
theorem p_mkT {vs : List V} : prim .mkTuple vs H = if vs.length ≤ lim then putNew H (.tuple vs) else none := rfl
theorem p_mkD : prim .mkDict [] H = putNew H (.dict []) := rfl
theorem p_lr {vs : List V} : prim .listRange vs H = (rangeOf vs).bind fun is => if is.length ≤ lim then putNew H (.list (is.map .int)) else none := rfl
theorem p_app {vs : List V} : prim .append vs H = methV .append vs H := rfl
theorem p_popP {vs : List V} : prim .pop vs H = methV .pop vs H := rfl
theorem p_idx {vs : List V} : prim .index vs H = methV .index vs H := rfl
theorem m_app {a : Nat} {v : V} : methV .append [.ref a, v] H = (listOf? H a).bind fun xs => if xs.length < lim then some (.none, H.set a (.list (xs ++ [v]))) else none := rfl
theorem m_pop {a : Nat} {i : Int} : methV .pop [.ref a, .int i] H = (listOf? H a).bind fun xs => (normIdx i xs.length).bind fun k => xs[k]?.map fun v => (v, H.set a (.list (xs.eraseIdx k))) := rfl
theorem m_idx {a : Nat} {k : Int} : methV .index [.ref a, .int k] H = (listOf? H a).bind fun xs => (xs.mapM asInt).bind fun is => if k ∈ is then some (.int (is.idxOf k : Nat), H) else none := rfl
theorem sl_ref {a : Nat} {lo hi : Option Int} {xs : List V} (h : H[a]? = some (.list xs)) : sliceV (.ref a) lo hi H = some (.ref H.length, H ++ [.list (cut xs lo hi)]) := by
  show (H[a]?.bind lsOf).bind _ = _
  rw [h]; rfl
theorem add_at {a b : Nat} {xs ys : List V} (h : H[a]? = some (.list xs)) (h' : H[b]? = some (.list ys)) (hl : xs.length + ys.length ≤ lim) : addV (.ref a) (.ref b) H = some (.ref H.length, H ++ [.list (xs ++ ys)]) := by
  show (listOf? H a).bind _ = _
  rw [listOf_eq h]
  show (listOf? H b).bind _ = _
  rw [listOf_eq h']
  exact if_pos hl
theorem mul_at {a : Nat} {x : V} {n : Nat} (h : H[a]? = some (.list [x])) (hl : n ≤ lim) : mulV (.ref a) (.int (n : Int)) H = some (.ref H.length, H ++ [.list (List.replicate n x)]) := by
  show (listOf? H a).bind _ = _
  rw [listOf_eq h]
  exact if_pos hl
theorem bin_add {a b : V} : binV .add a b H = addV a b H := rfl
theorem bin_sub {i j : Int} : binV .sub (.int i) (.int j) H = some (.int (i - j), H) := rfl
theorem bin_mul {a b : V} : binV .mul a b H = mulV a b H := rfl
theorem bin_mod {i j : Int} : binV .mod (.int i) (.int j) H = if j = 0 then none else some (.int (i.fmod j), H) := rfl
theorem bin_fdiv {i j : Int} : binV .fdiv (.int i) (.int j) H = if j = 0 ∨ 2 ^ 30 ≤ j.natAbs then none else some (.int (i.fdiv j), H) := rfl
theorem cmp_eq {a b : V} : cmpV .eq a b H = eqD H a b := rfl
theorem cmp_ne {a b : V} : cmpV .ne a b H = (eqD H a b).map (!·) := rfl
theorem cmp_lt {a b : V} : cmpV .lt a b H = lessV H a b := rfl
theorem cmp_le {i j : Int} : cmpV .le (.int i) (.int j) H = some (decide (i ≤ j)) := rfl
theorem cmp_gt {i j : Int} : cmpV .gt (.int i) (.int j) H = some (decide (j < i)) := rfl
theorem cmp_ge {i j : Int} : cmpV .ge (.int i) (.int j) H = some (decide (j ≤ i)) := rfl
theorem cmp_is {a b : V} : cmpV .is_ a b H = isSame a b := rfl
theorem cmp_isnt {a b : V} : cmpV .isNot a b H = (isSame a b).map (!·) := rfl
theorem cmp_in {a b : V} : cmpV .in_ a b H = mem H a b := rfl
theorem cmp_out {a b : V} : cmpV .notIn a b H = (mem H a b).map (!·) := rfl
theorem t_one {x : String} {v : V} : bindT (.one x) v ρ H = some (ρ.set x v) := rfl
end

noncomputable def setF (fs : List (String × V)) (n : String) (v : V) : List (String × V) :=
  if fs.any (fun f => f.1 == n) then fs.map fun f => if f.1 == n then (n, v) else f else fs ++ [(n, v)]

noncomputable def setAttrV (o : V) (n : String) (v : V) (H : Hp) : Option Hp := match o with
  | .ref a => (match H[a]? with
    | some (.inst _ d) => (match H[d]? with
      | some (.fdict fs) => some (H.set d (.fdict (setF fs n v)))
      | _ => none)
    | _ => none)
  | _ => none

mutual
noncomputable def wS (C : Ctx) : S → Env → Hp → SPost → SXP → Prop
  | .assign x e, ρ, H, k, X => wE C e ρ H (fun v H1 => k none (ρ.set x v) H1) X
  | .setItem o i v, ρ, H, k, X => wE C v ρ H (fun vv H1 => wE C o ρ H1 (fun vo H2 => wE C i ρ H2 (fun vi H3 => oE (setV vo vi vv H3) fun H4 => k none ρ H4) X) X) X
  | .setAttr o n v, ρ, H, k, X => wE C v ρ H (fun vv H1 => wE C o ρ H1 (fun vo H2 => oE (setAttrV vo n vv H2) fun H3 => k none ρ H3) X) X
  | .expr e, ρ, H, k, X => wE C e ρ H (fun _ H1 => k none ρ H1) X
  | .ret e, ρ, H, k, X => wE C e ρ H (fun v H1 => k (some v) ρ H1) X
  | .retN, ρ, H, k, _ => k (some .none) ρ H
  | .ite c a b, ρ, H, k, X => wE C c ρ H (fun v H1 => wB v fun t => wIf t
      (wSs C a ρ H1 k X)
      (wSs C b ρ H1 k X)) X
  | .forR x args body, ρ, H, k, X => wEs C args ρ H (fun vs H1 => oE (rangeOf vs) fun is => wFor (fun _ => True) (fun v ρ' H' k' => wSs C body (ρ'.set x v) H' k' X) (is.map .int) ρ H1 k) X
  | .forS x src body, ρ, H, k, X => wE C src ρ H (fun v H1 => oE (oSeq v H1) fun p => wFor (fun H' => H'[p.1]? = H1[p.1]?) (fun v ρ' H' k' => wSs C body (ρ'.set x v) H' k' X) p.2 ρ H1 k) X
  | .while_ c body, ρ, H, k, X => ∃ n, wWhile (fun ρ' H' k' => wE C c ρ' H' (fun v H1 => wB v fun b => k' b H1) X) (fun ρ' H' k' => wSs C body ρ' H' k' X) n ρ H k
  | .raise c _, _, H, _, X => X c H
  | .try_ _ _, _, _, _, _ => False
noncomputable def wSs (C : Ctx) : List S → Env → Hp → SPost → SXP → Prop
  | [], ρ, H, k, _ => k none ρ H
  | s :: ss, ρ, H, k, X => wS C s ρ H (fun r ρ1 H1 => kS r (wSs C ss ρ1 H1 k X) fun v => k (some v) ρ1 H1) X
end

section
variable {C : Ctx} {ρ : Env} {H : Hp} {k : SPost} {X : SXP}
theorem s_assign {x : String} {e : E} : wS C (.assign x e) ρ H k X = wE C e ρ H (fun v H1 => k none (ρ.set x v) H1) X := rfl
theorem s_setItem {o i v : E} : wS C (.setItem o i v) ρ H k X = wE C v ρ H (fun vv H1 => wE C o ρ H1 (fun vo H2 => wE C i ρ H2 (fun vi H3 => oE (setV vo vi vv H3) fun H4 => k none ρ H4) X) X) X := rfl
theorem s_expr {e : E} : wS C (.expr e) ρ H k X = wE C e ρ H (fun _ H1 => k none ρ H1) X := rfl
theorem s_ret {e : E} : wS C (.ret e) ρ H k X = wE C e ρ H (fun v H1 => k (some v) ρ H1) X := rfl
theorem s_retN : wS C .retN ρ H k X = k (some .none) ρ H := rfl
theorem s_ite {c : E} {a b : List S} : wS C (.ite c a b) ρ H k X = wE C c ρ H (fun v H1 => wB v fun t => wIf t (wSs C a ρ H1 k X) (wSs C b ρ H1 k X)) X := rfl
theorem s_forR {x : String} {args : List E} {body : List S} : wS C (.forR x args body) ρ H k X = wEs C args ρ H (fun vs H1 => oE (rangeOf vs) fun is => wFor (fun _ => True) (fun v ρ' H' k' => wSs C body (ρ'.set x v) H' k' X) (is.map .int) ρ H1 k) X := rfl
theorem s_forS {x : String} {src : E} {body : List S} : wS C (.forS x src body) ρ H k X = wE C src ρ H (fun v H1 => oE (oSeq v H1) fun p => wFor (fun H' => H'[p.1]? = H1[p.1]?) (fun v ρ' H' k' => wSs C body (ρ'.set x v) H' k' X) p.2 ρ H1 k) X := rfl
theorem s_while {c : E} {body : List S} : wS C (.while_ c body) ρ H k X = ∃ n, wWhile (fun ρ' H' k' => wE C c ρ' H' (fun v H1 => wB v fun b => k' b H1) X) (fun ρ' H' k' => wSs C body ρ' H' k' X) n ρ H k := rfl
theorem s_raise {c m : String} : wS C (.raise c m) ρ H k X = X c H := rfl
theorem ss_nil : wSs C [] ρ H k X = k none ρ H := rfl
theorem ss_cons {s : S} {ss : List S} : wSs C (s :: ss) ρ H k X = wS C s ρ H (fun r ρ1 H1 => kS r (wSs C ss ρ1 H1 k X) fun v => k (some v) ρ1 H1) X := rfl
end

noncomputable def bindP : List String → List V → Env
  | x :: xs, v :: vs => (bindP xs vs).set x v
  | _, _ => fun _ => none

theorem bp_cons {x : String} {xs : List String} {v : V} {vs : List V} : bindP (x :: xs) (v :: vs) = (bindP xs vs).set x v := rfl
theorem bp_nil : bindP [] [] = fun _ => none := rfl

structure Prog where
  fn : String → Option Fn
  glob : String → Option V

noncomputable def callN (P : Prog) (ok : Bool) : Nat → String → List V → Hp → Post → XP → Prop
  | 0, _, _, _, _, _ => False
  | n + 1, f, vs, H, Q, X => oE (P.fn f) fun fn => fn.params.length = vs.length ∧ wSs ⟨ok, callN P ok n, P.glob⟩ fn.body (bindP fn.params vs) H (fun r _ H' => Q (r.getD .none) H') X

end Mine

namespace Mine
open PySem

noncomputable def f_is_guest : Fn := ⟨["thing", "many"], [.ret (.and_ [.op (.isinst ["int"]) [.var "thing"], .not_ (.op (.isinst ["bool"]) [.var "thing"]), .chain (.int 0) .le (.var "thing") .lt (.var "many")])]⟩
noncomputable def f_is_row : Fn := ⟨["row", "guest", "many"], [.ite (.not_ (.op (.isinst ["list"]) [.var "row"]))
    [.ret (.bool false)]
    [],
  .forR "at" [.op .len [.var "row"]]
    [.ite (.or_ [.not_ (.call "is_guest" [.op .item [.var "row", .var "at"], .var "many"]), .op (.cmp .eq) [.op .item [.var "row", .var "at"], .var "guest"], .op (.cmp .in_) [.op .item [.var "row", .var "at"], .op (.slice false true) [.var "row", .var "at"]]])
      [.ret (.bool false)]
      []],
  .ret (.bool true)]⟩
noncomputable def f_need_wishes : Fn := ⟨["wishes"], [.ite (.or_ [.not_ (.op (.isinst ["list"]) [.var "wishes"]), .not_ (.chain (.int 1) .le (.op .len [.var "wishes"]) .le (.glob "MOST_GUESTS"))])
    [.raise "BadWishes" "one to six lists are wanted"]
    [],
  .forR "guest" [.op .len [.var "wishes"]]
    [.ite (.not_ (.call "is_row" [.op .item [.var "wishes", .var "guest"], .var "guest", .op .len [.var "wishes"]]))
      [.raise "BadWishes" "a list that a guest can't have"]
      []]]⟩
noncomputable def f_both_wish : Fn := ⟨["wishes", "one", "other"], [.ret (.and_ [.op (.cmp .in_) [.var "other", .op .item [.var "wishes", .var "one"]], .op (.cmp .in_) [.var "one", .op .item [.var "wishes", .var "other"]]])]⟩
noncomputable def f_sooner : Fn := ⟨["wishes", "guest", "one", "other"], [.ite (.or_ [.op (.cmp .eq) [.var "one", .var "other"], .op (.cmp .is_) [.var "one", .none], .not_ (.call "both_wish" [.var "wishes", .var "guest", .var "one"])])
    [.ret (.bool false)]
    [],
  .ite (.or_ [.op (.cmp .is_) [.var "other", .none], .not_ (.call "both_wish" [.var "wishes", .var "guest", .var "other"])])
    [.ret (.bool true)]
    [],
  .ret (.op (.cmp .lt) [.mcall .index (.op .item [.var "wishes", .var "guest"]) [.var "one"], .mcall .index (.op .item [.var "wishes", .var "guest"]) [.var "other"]])]⟩
noncomputable def f__law_cell_at : Fn := ⟨["_law_script", "_law_k"], [.ite (.op (.cmp .lt) [.var "_law_k", .op .len [.var "_law_script"]])
    [.ret (.op .item [.var "_law_script", .var "_law_k"])]
    [],
  .ret (.int 0)]⟩
noncomputable def f__law_row_by : Fn := ⟨["_law_cell", "_law_guest", "_law_many", "_law_full"], [.assign "_law_left" (.compR (.var "_law_one") "_law_one" [.var "_law_many"] [.op (.cmp .ne) [.var "_law_one", .var "_law_guest"]]),
  .assign "_law_row" (.op .mkList []),
  .while_ (.op (.cmp .gt) [.op .len [.var "_law_left"], .int 0])
    [.expr (.mcall .append (.var "_law_row") [.mcall .pop (.var "_law_left") [.op (.bin .mod) [.var "_law_cell", .op .len [.var "_law_left"]]]]),
    .assign "_law_cell" (.op (.bin .fdiv) [.var "_law_cell", .op (.bin .add) [.op .len [.var "_law_left"], .int 1]])],
  .ite (.var "_law_full")
    [.ret (.var "_law_row")]
    [],
  .ret (.op (.slice false true) [.var "_law_row", .op (.bin .mod) [.var "_law_cell", .op (.bin .add) [.op .len [.var "_law_row"], .int 1]]])]⟩
noncomputable def f__law_wishes_by : Fn := ⟨["_law_script", "_law_many"], [.assign "_law_full" (.op (.cmp .gt) [.op (.bin .mod) [.call "_law_cell_at" [.var "_law_script", .int 1], .int 3], .int 0]),
  .ret (.compR (.call "_law_row_by" [.call "_law_cell_at" [.var "_law_script", .op (.bin .add) [.int 3, .var "_law_k"]], .var "_law_k", .var "_law_many", .var "_law_full"]) "_law_k" [.var "_law_many"] [])]⟩
noncomputable def f__law_suits : Fn := ⟨["_law_wishes", "_law_one", "_law_other"], [.ret (.and_ [.op (.cmp .in_) [.var "_law_other", .op .item [.var "_law_wishes", .var "_law_one"]], .op (.cmp .in_) [.var "_law_one", .op .item [.var "_law_wishes", .var "_law_other"]]])]⟩
noncomputable def f__law_rather : Fn := ⟨["_law_wishes", "_law_guest", "_law_one", "_law_other"], [.ite (.or_ [.op (.cmp .is_) [.var "_law_one", .none], .not_ (.call "_law_suits" [.var "_law_wishes", .var "_law_guest", .var "_law_one"])])
    [.ret (.bool false)]
    [],
  .forS "_law_thing" (.op .item [.var "_law_wishes", .var "_law_guest"])
    [.ite (.and_ [.op (.cmp .eq) [.var "_law_thing", .var "_law_other"], .call "_law_suits" [.var "_law_wishes", .var "_law_guest", .var "_law_other"]])
      [.ret (.bool false)]
      [],
    .ite (.op (.cmp .eq) [.var "_law_thing", .var "_law_one"])
      [.ret (.bool true)]
      []],
  .ret (.bool false)]⟩
noncomputable def f_need_parties : Fn := ⟨["after"], [.ite (.or_ [.not_ (.op (.isinst ["list"]) [.var "after"]), .not_ (.chain (.int 1) .le (.op .len [.var "after"]) .le (.glob "MOST_GUESTS"))])
    [.raise "BadParties" "the next one of each guest is wanted"]
    [],
  .forR "at" [.op .len [.var "after"]]
    [.ite (.or_ [.not_ (.call "is_guest" [.op .item [.var "after", .var "at"], .op .len [.var "after"]]), .op (.cmp .in_) [.op .item [.var "after", .var "at"], .op (.slice false true) [.var "after", .var "at"]]])
      [.raise "BadParties" "each guest is next once"]
      []]]⟩
noncomputable def f_rounds : Fn := ⟨["after"], [.assign "found" (.op .mkList []),
  .assign "met" (.op .mkDict []),
  .forR "guest" [.op .len [.var "after"]]
    [.ite (.op (.cmp .notIn) [.var "guest", .var "met"])
      [.assign "ring" (.op .mkList []),
      .assign "here" (.var "guest"),
      .while_ (.op (.cmp .notIn) [.var "here", .var "met"])
        [.setItem (.var "met") (.var "here") (.bool true),
        .expr (.mcall .append (.var "ring") [.var "here"]),
        .assign "here" (.op .item [.var "after", .var "here"])],
      .expr (.mcall .append (.var "found") [.var "ring"])]
      []],
  .ret (.var "found")]⟩
noncomputable def f_ring_holds : Fn := ⟨["wishes", "ring"], [.forR "at" [.op .len [.var "ring"]]
    [.assign "ahead" (.op .item [.var "ring", .op (.bin .sub) [.var "at", .int 1]]),
    .assign "behind" (.op .item [.var "ring", .op (.bin .mod) [.op (.bin .add) [.var "at", .int 1], .op .len [.var "ring"]]]),
    .ite (.and_ [.op (.cmp .gt) [.op .len [.var "ring"], .int 1], .not_ (.call "both_wish" [.var "wishes", .op .item [.var "ring", .var "at"], .var "behind"])])
      [.ret (.bool false)]
      [],
    .ite (.and_ [.op (.cmp .gt) [.op .len [.var "ring"], .int 2], .not_ (.call "sooner" [.var "wishes", .op .item [.var "ring", .var "at"], .var "behind", .var "ahead"])])
      [.ret (.bool false)]
      []],
  .ret (.bool true)]⟩
noncomputable def f_all_hold : Fn := ⟨["wishes", "after"], [.forS "ring" (.call "rounds" [.var "after"])
    [.ite (.not_ (.call "ring_holds" [.var "wishes", .var "ring"]))
      [.ret (.bool false)]
      []],
  .assign "before" (.compR (.mcall .index (.var "after") [.var "guest"]) "guest" [.op .len [.var "after"]] []),
  .forR "one" [.op .len [.var "after"]]
    [.forR "other" [.var "one"]
      [.ite (.and_ [.call "sooner" [.var "wishes", .var "one", .var "other", .op .item [.var "before", .var "one"]], .call "sooner" [.var "wishes", .var "other", .var "one", .op .item [.var "before", .var "other"]]])
        [.ret (.bool false)]
        []]],
  .ret (.bool true)]⟩
noncomputable def f_holds : Fn := ⟨["wishes", "after"], [.expr (.call "need_wishes" [.var "wishes"]),
  .expr (.call "need_parties" [.var "after"]),
  .ite (.op (.cmp .ne) [.op .len [.var "after"], .op .len [.var "wishes"]])
    [.raise "BadParties" "as many guests are wanted"]
    [],
  .ret (.call "all_hold" [.var "wishes", .var "after"])]⟩
noncomputable def f_found_restless : Fn := ⟨["wishes", "mates"], [.assign "pairs" (.op .mkList []),
  .forR "one" [.op .len [.var "wishes"]]
    [.forR "other" [.op (.bin .add) [.var "one", .int 1], .op .len [.var "wishes"]]
      [.ite (.and_ [.call "sooner" [.var "wishes", .var "one", .var "other", .op .item [.var "mates", .var "one"]], .call "sooner" [.var "wishes", .var "other", .var "one", .op .item [.var "mates", .var "other"]]])
        [.expr (.mcall .append (.var "pairs") [.op .mkTuple [.var "one", .var "other"]])]
        []]],
  .ret (.var "pairs")]⟩
noncomputable def f_settled : Fn := ⟨["wishes", "guest", "mates", "met", "found"], [.while_ (.and_ [.op (.cmp .lt) [.var "guest", .op .len [.var "wishes"]], .op .item [.var "met", .var "guest"]])
    [.assign "guest" (.op (.bin .add) [.var "guest", .int 1])],
  .ite (.op (.cmp .eq) [.var "guest", .op .len [.var "wishes"]])
    [.expr (.mcall .append (.var "found") [.op .list [.var "mates"]]),
    .retN]
    [],
  .setItem (.var "met") (.var "guest") (.bool true),
  .expr (.call "settled" [.var "wishes", .op (.bin .add) [.var "guest", .int 1], .var "mates", .var "met", .var "found"]),
  .forR "other" [.op (.bin .add) [.var "guest", .int 1], .op .len [.var "wishes"]]
    [.ite (.and_ [.not_ (.op .item [.var "met", .var "other"]), .call "both_wish" [.var "wishes", .var "guest", .var "other"]])
      [.setItem (.var "met") (.var "other") (.bool true),
      .setItem (.var "mates") (.var "guest") (.var "other"),
      .setItem (.var "mates") (.var "other") (.var "guest"),
      .expr (.call "settled" [.var "wishes", .op (.bin .add) [.var "guest", .int 1], .var "mates", .var "met", .var "found"]),
      .setItem (.var "mates") (.var "guest") .none,
      .setItem (.var "mates") (.var "other") .none,
      .setItem (.var "met") (.var "other") (.bool false)]
      []],
  .setItem (.var "met") (.var "guest") (.bool false)]⟩
noncomputable def f_all_twos : Fn := ⟨["wishes"], [.expr (.call "need_wishes" [.var "wishes"]),
  .assign "found" (.op .mkList []),
  .assign "many" (.op .len [.var "wishes"]),
  .expr (.call "settled" [.var "wishes", .int 0, .op (.bin .mul) [.op .mkList [.none], .var "many"], .op (.bin .mul) [.op .mkList [.bool false], .var "many"], .var "found"]),
  .ret (.var "found")]⟩
noncomputable def f_all_calm : Fn := ⟨["wishes"], [.ret (.compS (.var "mates") (.one "mates") (.call "all_twos" [.var "wishes"]) [.op (.cmp .eq) [.op .len [.call "found_restless" [.var "wishes", .var "mates"]], .int 0]])]⟩
noncomputable def f_orders : Fn := ⟨["many"], [.assign "rows" (.op .mkList [.op .mkList []]),
  .forR "turn" [.var "many"]
    [.assign "longer" (.op .mkList []),
    .forS "row" (.var "rows")
      [.forR "guest" [.var "many"]
        [.ite (.op (.cmp .notIn) [.var "guest", .var "row"])
          [.expr (.mcall .append (.var "longer") [.op (.bin .add) [.var "row", .op .mkList [.var "guest"]]])]
          []]],
    .assign "rows" (.var "longer")],
  .ret (.var "rows")]⟩
noncomputable def f_has_odd : Fn := ⟨["after"], [.ret (.op .any [.compS (.op (.cmp .in_) [.op .len [.var "ring"], .op .mkTuple [.int 3, .int 5]]) (.one "ring") (.call "rounds" [.var "after"]) []])]⟩
noncomputable def f_dealt : Fn := ⟨["wishes"], [.assign "calm_ones" (.call "all_calm" [.var "wishes"]),
  .ite (.op (.cmp .gt) [.op .len [.var "calm_ones"], .int 0])
    [.ret (.op .mkTuple [.str "twos", .op .item [.var "calm_ones", .int 0]])]
    [],
  .assign "found" .none,
  .forS "after" (.call "orders" [.op .len [.var "wishes"]])
    [.ite (.and_ [.op (.cmp .is_) [.var "found", .none], .call "has_odd" [.var "after"], .call "all_hold" [.var "wishes", .var "after"]])
      [.assign "found" (.var "after")]
      []],
  .ret (.op .mkTuple [.str "parties", .var "found"])]⟩
noncomputable def f_rings : Fn := ⟨["after"], [.expr (.call "need_parties" [.var "after"]),
  .ret (.call "rounds" [.var "after"])]⟩
noncomputable def f_paired : Fn := ⟨["after", "ahead"], [.expr (.call "need_parties" [.var "after"]),
  .assign "mates" (.op (.bin .mul) [.op .mkList [.none], .op .len [.var "after"]]),
  .forS "ring" (.call "rounds" [.var "after"])
    [.ite (.and_ [.op (.cmp .gt) [.op .len [.var "ring"], .int 1], .op (.cmp .eq) [.op (.bin .mod) [.op .len [.var "ring"], .int 2], .int 1]])
      [.raise "BadParties" "a party of three or of five"]
      [],
    .ite (.var "ahead")
      [.assign "ring" (.op (.bin .add) [.op (.slice true false) [.var "ring", .int 1], .op (.slice false true) [.var "ring", .int 1]])]
      [],
    .forR "at" [.int 0, .op (.bin .sub) [.op .len [.var "ring"], .int 1], .int 2]
      [.setItem (.var "mates") (.op .item [.var "ring", .var "at"]) (.op .item [.var "ring", .op (.bin .add) [.var "at", .int 1]]),
      .setItem (.var "mates") (.op .item [.var "ring", .op (.bin .add) [.var "at", .int 1]]) (.op .item [.var "ring", .var "at"])]],
  .ret (.var "mates")]⟩
noncomputable def f__law_whole : Fn := ⟨["_law_found"], [.ret (.and_ [.op (.isinst ["int"]) [.var "_law_found"], .not_ (.op (.isinst ["bool"]) [.var "_law_found"])])]⟩
noncomputable def f__law_restless_05 : Fn := ⟨["_law_wishes", "_law_mates_here"], [.assign "_law_found" (.op .mkList []),
  .forR "_law_one" [.op .len [.var "_law_wishes"]]
    [.forR "_law_other" [.op (.bin .add) [.var "_law_one", .int 1], .op .len [.var "_law_wishes"]]
      [.ite (.and_ [.call "_law_rather" [.var "_law_wishes", .var "_law_one", .var "_law_other", .op .item [.var "_law_mates_here", .var "_law_one"]], .call "_law_rather" [.var "_law_wishes", .var "_law_other", .var "_law_one", .op .item [.var "_law_mates_here", .var "_law_other"]]])
        [.expr (.mcall .append (.var "_law_found") [.op .mkTuple [.var "_law_one", .var "_law_other"]])]
        []]],
  .ret (.var "_law_found")]⟩
noncomputable def f__law_mates : Fn := ⟨["_law_wishes", "_law_mates_here"], [.ite (.or_ [.not_ (.op (.isinst ["list"]) [.var "_law_mates_here"]), .op (.cmp .ne) [.op .len [.var "_law_mates_here"], .op .len [.var "_law_wishes"]]])
    [.ret (.bool false)]
    [],
  .forR "_law_guest" [.op .len [.var "_law_mates_here"]]
    [.assign "_law_mate" (.op .item [.var "_law_mates_here", .var "_law_guest"]),
    .ite (.op (.cmp .isNot) [.var "_law_mate", .none])
      [.ite (.or_ [.not_ (.call "_law_whole" [.var "_law_mate"]), .op (.cmp .lt) [.var "_law_mate", .int 0], .op (.cmp .ge) [.var "_law_mate", .op .len [.var "_law_mates_here"]], .op (.cmp .ne) [.op .item [.var "_law_mates_here", .var "_law_mate"], .var "_law_guest"]])
        [.ret (.bool false)]
        [],
      .ite (.not_ (.call "_law_suits" [.var "_law_wishes", .var "_law_guest", .var "_law_mate"]))
        [.ret (.bool false)]
        []]
      []],
  .ret (.bool true)]⟩
noncomputable def f__law_rings : Fn := ⟨["_law_after"], [.assign "_law_found" (.op .mkList []),
  .forR "_law_guest" [.op .len [.var "_law_after"]]
    [.assign "_law_ring" (.op .mkList [.var "_law_guest"]),
    .while_ (.op (.cmp .ne) [.op .item [.var "_law_after", .op .item [.var "_law_ring", .op .neg [.int 1]]], .var "_law_guest"])
      [.expr (.mcall .append (.var "_law_ring") [.op .item [.var "_law_after", .op .item [.var "_law_ring", .op .neg [.int 1]]]])],
    .ite (.op (.cmp .eq) [.op .min1 [.var "_law_ring"], .var "_law_guest"])
      [.expr (.mcall .append (.var "_law_found") [.var "_law_ring"])]
      []],
  .ret (.var "_law_found")]⟩
noncomputable def f__law_afters : Fn := ⟨["_law_cell", "_law_many"], [.assign "_law_left" (.op .listRange [.var "_law_many"]),
  .assign "_law_after" (.op .mkList []),
  .while_ (.op (.cmp .gt) [.op .len [.var "_law_left"], .int 0])
    [.expr (.mcall .append (.var "_law_after") [.mcall .pop (.var "_law_left") [.op (.bin .mod) [.var "_law_cell", .op .len [.var "_law_left"]]]]),
    .assign "_law_cell" (.op (.bin .fdiv) [.var "_law_cell", .op (.bin .add) [.op .len [.var "_law_left"], .int 1]])],
  .ret (.var "_law_after")]⟩
noncomputable def f__law_made_08 : Fn := ⟨["_law_script", "_law_after"], [.assign "_law_many" (.op .len [.var "_law_after"]),
  .assign "_law_wishes" (.op .mkList []),
  .forR "_law_guest" [.var "_law_many"]
    [.assign "_law_row" (.op .mkList []),
    .ite (.op (.cmp .ne) [.op .item [.var "_law_after", .var "_law_guest"], .var "_law_guest"])
      [.assign "_law_row" (.op .mkList [.op .item [.var "_law_after", .var "_law_guest"]])]
      [],
    .forR "_law_one" [.var "_law_many"]
      [.ite (.and_ [.op (.cmp .eq) [.op .item [.var "_law_after", .var "_law_one"], .var "_law_guest"], .op (.cmp .notIn) [.var "_law_one", .var "_law_row"], .op (.cmp .ne) [.var "_law_one", .var "_law_guest"]])
        [.expr (.mcall .append (.var "_law_row") [.var "_law_one"])]
        []],
    .forS "_law_one" (.call "_law_row_by" [.call "_law_cell_at" [.var "_law_script", .op (.bin .add) [.int 3, .var "_law_guest"]], .var "_law_guest", .var "_law_many", .bool false])
      [.assign "_law_alone" (.and_ [.op (.cmp .eq) [.op .item [.var "_law_after", .var "_law_guest"], .var "_law_guest"], .op (.cmp .eq) [.op .item [.var "_law_after", .var "_law_one"], .var "_law_one"]]),
      .ite (.and_ [.op (.cmp .notIn) [.var "_law_one", .var "_law_row"], .not_ (.var "_law_alone")])
        [.expr (.mcall .append (.var "_law_row") [.var "_law_one"])]
        []],
    .expr (.mcall .append (.var "_law_wishes") [.var "_law_row"])],
  .ret (.var "_law_wishes")]⟩
noncomputable def f__law_odd : Fn := ⟨["_law_parties"], [.ret (.op (.cmp .gt) [.op .len [.compS (.var "_law_ring") (.one "_law_ring") (.var "_law_parties") [.and_ [.op (.cmp .gt) [.op .len [.var "_law_ring"], .int 1], .op (.cmp .eq) [.op (.bin .mod) [.op .len [.var "_law_ring"], .int 2], .int 1]]]], .int 0])]⟩
noncomputable def f__law_calm : Fn := ⟨["_law_wishes", "_law_mates_here", "_law_some"], [.ite (.or_ [.not_ (.call "_law_mates" [.var "_law_wishes", .var "_law_mates_here"]), .op (.cmp .ne) [.call "_law_restless" [.var "_law_wishes", .var "_law_mates_here"], .op .mkList []]])
    [.ret (.bool false)]
    [],
  .ret (.op (.cmp .in_) [.var "_law_mates_here", .var "_law_some"])]⟩
noncomputable def f_law_08 : Fn := ⟨["_law_script"], [.assign "_law_many" (.op (.bin .add) [.int 1, .op (.bin .mod) [.call "_law_cell_at" [.var "_law_script", .int 0], .int 6]]),
  .ite (.and_ [.op (.cmp .eq) [.var "_law_many", .int 6], .op (.cmp .gt) [.op (.bin .mod) [.op (.bin .fdiv) [.call "_law_cell_at" [.var "_law_script", .int 0], .int 6], .int 3], .int 0]])
    [.assign "_law_many" (.int 4)]
    [],
  .assign "_law_after" (.call "_law_afters" [.call "_law_cell_at" [.var "_law_script", .int 2], .var "_law_many"]),
  .assign "_law_wishes" (.call "_law_made" [.var "_law_script", .var "_law_after"]),
  .assign "_law_parties" (.call "_law_rings" [.var "_law_after"]),
  .ite (.op (.cmp .isNot) [.call "holds" [.compS (.op .list [.var "_law_row"]) (.one "_law_row") (.var "_law_wishes") [], .op .list [.var "_law_after"]], .bool true])
    [.ret (.bool false)]
    [],
  .assign "_law_some" (.call "all_calm" [.compS (.op .list [.var "_law_row"]) (.one "_law_row") (.var "_law_wishes") []]),
  .assign "_law_found" (.call "dealt" [.compS (.op .list [.var "_law_row"]) (.one "_law_row") (.var "_law_wishes") []]),
  .ite (.or_ [.not_ (.op (.isinst ["list"]) [.var "_law_some"]), .not_ (.op (.isinst ["tuple"]) [.var "_law_found"]), .op (.cmp .ne) [.op .len [.var "_law_found"], .int 2]])
    [.ret (.bool false)]
    [],
  .ite (.call "_law_odd" [.var "_law_parties"])
    [.ite (.or_ [.op (.cmp .ne) [.var "_law_some", .op .mkList []], .op (.cmp .ne) [.op .item [.var "_law_found", .int 0], .str "parties"], .not_ (.op (.isinst ["list"]) [.op .item [.var "_law_found", .int 1]])])
      [.ret (.bool false)]
      [],
    .ret (.and_ [.op (.cmp .is_) [.call "holds" [.var "_law_wishes", .op .item [.var "_law_found", .int 1]], .bool true], .call "_law_odd" [.call "rings" [.op .item [.var "_law_found", .int 1]]]])]
    [],
  .ite (.or_ [.op (.cmp .ne) [.op .item [.var "_law_found", .int 0], .str "twos"], .not_ (.call "_law_calm" [.var "_law_wishes", .op .item [.var "_law_found", .int 1], .var "_law_some"])])
    [.ret (.bool false)]
    [],
  .forS "_law_ahead" (.op .mkTuple [.bool false, .bool true])
    [.assign "_law_mates_here" (.call "paired" [.op .list [.var "_law_after"], .var "_law_ahead"]),
    .ite (.not_ (.call "_law_calm" [.var "_law_wishes", .var "_law_mates_here", .var "_law_some"]))
      [.ret (.bool false)]
      [],
    .forR "_law_guest" [.var "_law_many"]
      [.ite (.op (.cmp .ne) [.op (.cmp .is_) [.op .item [.var "_law_mates_here", .var "_law_guest"], .none], .op (.cmp .is_) [.op .item [.op .item [.var "_law_found", .int 1], .var "_law_guest"], .none]])
        [.ret (.bool false)]
        []]],
  .ret (.bool true)]⟩
noncomputable def prog08 : Prog where
  fn := fun f => match f with
    | "is_guest" => some f_is_guest
    | "is_row" => some f_is_row
    | "need_wishes" => some f_need_wishes
    | "both_wish" => some f_both_wish
    | "sooner" => some f_sooner
    | "need_parties" => some f_need_parties
    | "rounds" => some f_rounds
    | "rings" => some f_rings
    | "ring_holds" => some f_ring_holds
    | "all_hold" => some f_all_hold
    | "holds" => some f_holds
    | "paired" => some f_paired
    | "found_restless" => some f_found_restless
    | "settled" => some f_settled
    | "all_twos" => some f_all_twos
    | "all_calm" => some f_all_calm
    | "orders" => some f_orders
    | "has_odd" => some f_has_odd
    | "dealt" => some f_dealt
    | "_law_cell_at" => some f__law_cell_at
    | "_law_row_by" => some f__law_row_by
    | "_law_wishes_by" => some f__law_wishes_by
    | "_law_whole" => some f__law_whole
    | "_law_suits" => some f__law_suits
    | "_law_rather" => some f__law_rather
    | "_law_restless" => some f__law_restless_05
    | "_law_mates" => some f__law_mates
    | "_law_rings" => some f__law_rings
    | "_law_afters" => some f__law_afters
    | "_law_made" => some f__law_made_08
    | "_law_odd" => some f__law_odd
    | "_law_calm" => some f__law_calm
    | "law" => some f_law_08
    | _ => none
  glob := fun x => match x with
    | "MOST_GUESTS" => some (.int 6)
    | _ => none

end Mine

namespace Mine
open PySem

theorem no_ns {α : Type} {x : α} {p : Prop} (h : (none : Option α) = some x) : p := nomatch h
theorem clash {α : Type} {o : Option α} {x : α} {p : Prop} (h : o = some x) (h' : o = none) : p := no_ns (h'.symm.trans h)

theorem ofString_inj {a b : String} (h : Str.ofString a = Str.ofString b) : a = b := by
  rw [Str.ofString_eq_toList, Str.ofString_eq_toList] at h
  have h1 : a.toList.map Char.toNat = b.toList.map Char.toNat := by
    have := congrArg (fun s : Str => s.cps.toList) h
    simpa using this
  have h2 : a.toList = b.toList := by
    refine List.map_inj_right ?_ |>.mp h1
    intro x y e
    exact Char.ext (UInt32.toNat_inj.mp e)
  exact String.toList_inj.mp h2

theorem ofString_ne {a b : String} (h : a ≠ b) : Str.ofString a ≠ Str.ofString b := fun e => h (ofString_inj e)

inductive All2 {α β : Type} (R : α → β → Prop) : List α → List β → Prop where
  | nil : All2 R [] []
  | cons {a b as bs} : R a b → All2 R as bs → All2 R (a :: as) (b :: bs)

namespace All2
variable {α β : Type} {R S : α → β → Prop}
theorem length {as : List α} {bs : List β} (h : All2 R as bs) : as.length = bs.length := by
  induction h with
  | nil => rfl
  | cons _ _ ih => simp [ih]
theorem mono (hRS : ∀ a b, R a b → S a b) {as : List α} {bs : List β} (h : All2 R as bs) : All2 S as bs := by
  induction h with
  | nil => exact .nil
  | cons h _ ih => exact .cons (hRS _ _ h) ih
theorem append {as as' : List α} {bs bs' : List β} (h : All2 R as bs) (h' : All2 R as' bs') : All2 R (as ++ as') (bs ++ bs') := by
  induction h with
  | nil => exact h'
  | cons h _ ih => exact .cons h ih
theorem get {as : List α} {bs : List β} (h : All2 R as bs) {i : Nat} {a : α} (e : as[i]? = some a) : ∃ b, bs[i]? = some b ∧ R a b := by
  induction h generalizing i with
  | nil => simp at e
  | cons h _ ih =>
    cases i with
    | zero => simp at e; subst e; exact ⟨_, rfl, h⟩
    | succ i => simpa using ih (by simpa using e)
theorem get' {as : List α} {bs : List β} (h : All2 R as bs) {i : Nat} {b : β} (e : bs[i]? = some b) : ∃ a, as[i]? = some a ∧ R a b := by
  induction h generalizing i with
  | nil => simp at e
  | cons h _ ih =>
    cases i with
    | zero => simp at e; subst e; exact ⟨_, rfl, h⟩
    | succ i => simpa using ih (by simpa using e)
theorem set {as : List α} {bs : List β} (h : All2 R as bs) (i : Nat) {a : α} {b : β} (hab : R a b) : All2 R (as.set i a) (bs.set i b) := by
  induction h generalizing i with
  | nil => exact .nil
  | cons h t ih =>
    cases i with
    | zero => exact .cons hab t
    | succ i => exact .cons h (ih i)
theorem take {as : List α} {bs : List β} (h : All2 R as bs) (i : Nat) : All2 R (as.take i) (bs.take i) := by
  induction h generalizing i with
  | nil => simp; exact .nil
  | cons h t ih =>
    cases i with
    | zero => exact .nil
    | succ i => exact .cons h (ih i)
theorem drop {as : List α} {bs : List β} (h : All2 R as bs) (i : Nat) : All2 R (as.drop i) (bs.drop i) := by
  induction h generalizing i with
  | nil => simp; exact .nil
  | cons h t ih =>
    cases i with
    | zero => exact .cons h t
    | succ i => exact ih i
theorem eraseIdx {as : List α} {bs : List β} (h : All2 R as bs) (i : Nat) : All2 R (as.eraseIdx i) (bs.eraseIdx i) := by
  induction h generalizing i with
  | nil => exact .nil
  | cons h t ih =>
    cases i with
    | zero => exact t
    | succ i => exact .cons h (ih i)
theorem reverse {as : List α} {bs : List β} (h : All2 R as bs) : All2 R as.reverse bs.reverse := by
  induction h with
  | nil => exact .nil
  | cons h t ih => rw [List.reverse_cons, List.reverse_cons]; exact ih.append (.cons h .nil)
theorem replicate {a : α} {b : β} (h : R a b) (n : Nat) : All2 R (List.replicate n a) (List.replicate n b) := by
  induction n with
  | zero => exact .nil
  | succ n ih => exact .cons h ih
theorem mem' {as : List α} {bs : List β} (h : All2 R as bs) {b : β} (hb : b ∈ bs) : ∃ a ∈ as, R a b := by
  induction h with
  | nil => simp at hb
  | cons h t ih =>
    rcases List.mem_cons.mp hb with rfl | hb
    · exact ⟨_, List.mem_cons_self, h⟩
    · obtain ⟨a, ha, hr⟩ := ih hb; exact ⟨a, List.mem_cons_of_mem _ ha, hr⟩
end All2

inductive VR (β : List Addr) : V → Value → Prop where
  | none : VR β .none .none
  | bool (b : Bool) : VR β (.bool b) (.bool b)
  | int (i : Int) (t : Tok) : VR β (.int i) (.int i t)
  | str (s : Str) (t : Tok) : VR β (.str s) (.str s t)
  | ref {a : Nat} {r : Addr} : β[a]? = some r → VR β (.ref a) (.ref r)

abbrev VRs (β : List Addr) := All2 (VR β)

theorem VR.mono {β β' : List Addr} (hp : β <+: β') {v : V} {u : Value} (h : VR β v u) : VR β' v u := by
  cases h with
  | none => exact .none
  | bool b => exact .bool b
  | int i t => exact .int i t
  | str s t => exact .str s t
  | ref e =>
    obtain ⟨t, rfl⟩ := hp
    refine .ref ?_
    rw [List.getElem?_append_left (List.getElem?_eq_some_iff.mp e).1]; exact e
theorem VRs.mono {β β' : List Addr} (hp : β <+: β') {v : List V} {u : List Value} (h : VRs β v u) : VRs β' v u := All2.mono (fun _ _ => VR.mono hp) h

/-- an object of the mini heap and the model's object -/
inductive OR (β : List Addr) : O → Obj → Prop where
  | list {xs : List V} {us : List Value} {n : Nat} : VRs β xs us → xs.length ≤ lim → OR β (.list xs) { cls := .type "list", data := .seq us.toArray n }
  | tuple {xs : List V} {us : List Value} {n : Nat} : VRs β xs us → xs.length ≤ lim → OR β (.tuple xs) { cls := .type "tuple", data := .seq us.toArray n }

theorem OR.mono {β β' : List Addr} (hp : β <+: β') {o : O} {ob : Obj} (h : OR β o ob) : OR β' o ob := by
  cases h with
  | list h l => exact .list (VRs.mono hp h) l
  | tuple h l => exact .tuple (VRs.mono hp h) l

inductive Slot1 (h₀ h : Heap) (β : List Addr) : O → Addr → Prop where
  | frozen {xs : List V} {us : List Value} {r : Addr} {ob : Obj} {n : Nat} : h₀.get? r = some ob → ob.cls = .type "list" → ob.data = .seq us.toArray n → VRs β xs us → xs.length ≤ lim → Slot1 h₀ h β (.frozen xs) r
  | own {o : O} {r : Addr} {ob : Obj} : h₀.get? r = Option.none → h.get? r = some ob → OR β o ob → Slot1 h₀ h β o r
  | dict {es : List (Int × V)} {r : Addr} {ob : Obj} {kvs : List (Int × Value)} : (r == sysModules) = false → h₀.get? r = Option.none → h.get? r = some ob → (∀ prog w, ob.IsDictOf (intKind prog w) kvs) → All2 (fun e kv => e.1 = kv.1 ∧ VR β e.2 kv.2) es kvs → es.length ≤ lim → Slot1 h₀ h β (.dict es) r

theorem Slot1.at {h₀ h h' : Heap} {β : List Addr} {o : O} {r : Addr} (x : Slot1 h₀ h β o r) (hk : ∀ ob, h.get? r = some ob → h'.get? r = some ob) : Slot1 h₀ h' β o r := by
  cases x with
  | frozen a b c d e => exact .frozen a b c d e
  | own a b c => exact .own a (hk _ b) c
  | dict a b c d e f => exact .dict a b (hk _ c) d e f

/-- a shared state bears a mini heap, above a base heap -/
structure SR (h₀ : Heap) (β : List Addr) (H : Hp) (h : Heap) : Prop where
  kept : ∀ b o, h₀.get? b = some o → h.get? b = some o
  nodup : β.Nodup
  objs : All2 (Slot1 h₀ h β) H β

/-- an object as it was, or a table of names with other slots -/
noncomputable def KS (o o' : Obj) : Prop := o' = o ∨ ((∃ es ep, o.data = .dict es ep) ∧ ∃ sl, o' = { o with slots := sl })
theorem KS.refl (o : Obj) : KS o o := .inl rfl
theorem KS.data {o o' : Obj} (h : KS o o') : o'.data = o.data := by
  rcases h with rfl | ⟨_, sl, rfl⟩ <;> rfl
theorem KS.trans {a b c : Obj} (h : KS a b) (h' : KS b c) : KS a c := by
  rcases h with rfl | ⟨hd, sl, rfl⟩
  · exact h'
  · rcases h' with rfl | ⟨_, sl', rfl⟩
    · exact .inr ⟨hd, sl, rfl⟩
    · exact .inr ⟨hd, sl', rfl⟩
theorem KS.exact {o o' : Obj} (h : KS o o') (hd : ∀ es ep, o.data ≠ .dict es ep) : o' = o := by
  rcases h with rfl | ⟨⟨es, ep, e⟩, _⟩
  · rfl
  · exact absurd e (hd es ep)
/-- what stood at b stands there still -/
noncomputable def KAt (h h' : Heap) (b : Addr) : Prop := ∀ o, h.get? b = some o → ∃ o', h'.get? b = some o' ∧ KS o o'
theorem KAt.of {h h' : Heap} {b : Addr} (k : ∀ o, h.get? b = some o → h'.get? b = some o) : KAt h h' b := fun o e => ⟨o, k o e, KS.refl o⟩
theorem KAt.trans {h h' h'' : Heap} {b : Addr} (x : KAt h h' b) (y : KAt h' h'' b) : KAt h h'' b := fun o e =>
  let ⟨o1, e1, k1⟩ := x o e; let ⟨o2, e2, k2⟩ := y o1 e1; ⟨o2, e2, k1.trans k2⟩
theorem KAt.exact {h h' : Heap} {b : Addr} (x : KAt h h' b) {o : Obj} (e : h.get? b = some o) (hd : ∀ es ep, o.data ≠ .dict es ep) : h'.get? b = some o := by
  obtain ⟨o', e', k⟩ := x o e
  rw [e', k.exact hd]
theorem KAt.live {h h' : Heap} {b : Addr} (x : KAt h h' b) (e : ∃ o, h.get? b = some o) : ∃ o, h'.get? b = some o :=
  let ⟨o, e⟩ := e; let ⟨o', e', _⟩ := x o e; ⟨o', e'⟩

structure Step (β : List Addr) (s : Shared) (β' : List Addr) (s' : Shared) : Prop where
  same : ∃ h tk, s' = { s with heap := h, toks := tk }
  grow : β <+: β'
  keep : ∀ b, b ∉ β → KAt s.heap s'.heap b
  fresh : ∀ b ∈ β', b ∈ β ∨ s.heap.get? b = Option.none

theorem Step.refl (β : List Addr) (s : Shared) : Step β s β s := ⟨⟨s.heap, s.toks, rfl⟩, List.prefix_refl _, fun _ _ => .of fun _ e => e, fun _ hb => .inl hb⟩
theorem Step.toks (β : List Addr) (s : Shared) (t : Nat) : Step β s β { s with toks := t } := ⟨⟨s.heap, t, rfl⟩, List.prefix_refl _, fun _ _ => .of fun _ e => e, fun _ hb => .inl hb⟩
theorem Step.trans {β₁ β₂ β₃ : List Addr} {s₁ s₂ s₃ : Shared} (x : Step β₁ s₁ β₂ s₂) (y : Step β₂ s₂ β₃ s₃) : Step β₁ s₁ β₃ s₃ := by
  obtain ⟨⟨h, t, rfl⟩, g, k, f⟩ := x
  obtain ⟨⟨h', t', rfl⟩, g', k', f'⟩ := y
  refine ⟨⟨h', t', rfl⟩, g.trans g', fun b hb o e => (KAt.trans (k b hb) (k' b fun hm => ?_)) o e, fun b hb => ?_⟩
  · rcases f b hm with q | q
    · exact hb q
    · rw [e] at q; cases q
  · rcases f' b hb with q | q
    · exact f b q
    · by_cases hm : b ∈ β₁
      · exact .inl hm
      · refine .inr ?_
        cases e : s₁.heap.get? b with
        | none => rfl
        | some o => obtain ⟨o', e', _⟩ := k b hm o e; rw [e'] at q; cases q

theorem Step.of_heap {β : List Addr} {s : Shared} {h : Heap} {tk : Nat} (hk : ∀ b o, s.heap.get? b = some o → h.get? b = some o) : Step β s β { s with heap := h, toks := tk } :=
  ⟨⟨h, tk, rfl⟩, List.prefix_refl _, fun b _ => .of fun o e => hk b o e, fun _ hb => .inl hb⟩

/-- the heap only grew beside the objects of the mini heap -/
theorem SR.keeps {h₀ h h' : Heap} {β : List Addr} {H : Hp} (x : SR h₀ β H h) (hk : ∀ b o, h.get? b = some o → h'.get? b = some o) : SR h₀ β H h' :=
  ⟨fun b o e => hk _ _ (x.kept b o e), x.nodup, x.objs.mono fun _ _ hr => hr.at fun _ e => hk _ _ e⟩

theorem SR.mem {h₀ h : Heap} {β : List Addr} {H : Hp} (x : SR h₀ β H h) {b : Addr} (hb : b ∈ β) : ∃ o, h.get? b = some o := by
  obtain ⟨o, _, hr⟩ := x.objs.mem' hb
  cases hr with
  | frozen a _ _ _ _ => exact ⟨_, x.kept _ _ a⟩
  | own _ b _ => exact ⟨_, b⟩
  | dict _ _ c _ _ _ => exact ⟨_, c⟩

theorem Slot1.grow {h₀ h : Heap} {β β' : List Addr} (hp : β <+: β') {o : O} {r : Addr} (x : Slot1 h₀ h β o r) : Slot1 h₀ h β' o r := by
  cases x with
  | frozen a b c d e => exact .frozen a b c (VRs.mono hp d) e
  | own a b c => exact .own a b (c.mono hp)
  | dict a b c d e f => exact .dict a b c d (e.mono fun _ _ q => ⟨q.1, q.2.mono hp⟩) f

/-- a new object -/
theorem SR.pushS {h₀ h h' : Heap} {β : List Addr} {H : Hp} (x : SR h₀ β H h) {r : Addr} {o : O} (hr : h.get? r = Option.none) (hk : ∀ b o, h.get? b = some o → h'.get? b = some o)
    (ho : h₀.get? r = Option.none → Slot1 h₀ h' (β ++ [r]) o r) : SR h₀ (β ++ [r]) (H ++ [o]) h' := by
  have hp : β <+: β ++ [r] := List.prefix_append _ _
  have y := x.keeps hk
  have hrb : r ∉ β := fun hm => by obtain ⟨o, e⟩ := x.mem hm; rw [hr] at e; cases e
  refine ⟨y.kept, ?_, (y.objs.mono fun _ _ => Slot1.grow hp).append (.cons (ho ?_) .nil)⟩
  · rw [List.nodup_append]
    refine ⟨x.nodup, by simp, fun a ha b hb => ?_⟩
    simp at hb; subst hb; rintro rfl; exact hrb ha
  · cases e : h₀.get? r with
    | none => rfl
    | some o => rw [x.kept _ _ e] at hr; cases hr
theorem SR.push {h₀ h h' : Heap} {β : List Addr} {H : Hp} (x : SR h₀ β H h) {r : Addr} {o : O} {ob : Obj} (hr : h.get? r = Option.none) (hk : ∀ b o, h.get? b = some o → h'.get? b = some o) (hg : h'.get? r = some ob)
    (ho : OR (β ++ [r]) o ob) : SR h₀ (β ++ [r]) (H ++ [o]) h' := x.pushS hr hk fun hn => .own hn hg ho

theorem SR.len {h₀ h : Heap} {β : List Addr} {H : Hp} (x : SR h₀ β H h) : H.length = β.length := x.objs.length

/-- an own object changed -/
theorem SR.updS {h₀ h h' : Heap} {β : List Addr} {H : Hp} (x : SR h₀ β H h) {a : Nat} {r : Addr} {o' : O} (hr : β[a]? = some r) (hn : h₀.get? r = Option.none)
    (hk : ∀ b, b ≠ r → h'.get? b = h.get? b) (ho : Slot1 h₀ h' β o' r) : SR h₀ β (H.set a o') h' := by
  refine ⟨fun b q e => ?_, x.nodup, ?_⟩
  · have : b ≠ r := by rintro rfl; rw [hn] at e; cases e
    rw [hk b this]; exact x.kept b q e
  · have key : ∀ (H : Hp) (γ : List Addr), All2 (Slot1 h₀ h β) H γ → γ.Nodup → ∀ a, γ[a]? = some r → All2 (Slot1 h₀ h' β) (H.set a o') γ := by
      intro H γ hA
      induction hA with
      | nil => intro _ a e; simp at e
      | @cons o1 r1 os rs h1 t ih =>
        intro hnd a e
        rw [List.nodup_cons] at hnd
        have other : ∀ {o : O} {b : Addr}, b ≠ r → Slot1 h₀ h β o b → Slot1 h₀ h' β o b := fun hb q => q.at fun _ e => (hk _ hb).trans e
        cases a with
        | zero =>
          simp at e; subst e
          refine .cons ho ?_
          have : ∀ (os : Hp) (rs : List Addr), All2 (Slot1 h₀ h β) os rs → r1 ∉ rs → All2 (Slot1 h₀ h' β) os rs := by
            intro os rs q
            induction q with
            | nil => intro _; exact .nil
            | cons q1 _ ih => intro hm; simp at hm; exact .cons (other (Ne.symm hm.1) q1) (ih hm.2)
          exact this _ _ t hnd.1
        | succ a =>
          have e' : rs[a]? = some r := by simpa using e
          have : r1 ≠ r := by rintro rfl; exact hnd.1 (List.mem_of_getElem? e')
          exact .cons (other this h1) (ih hnd.2 a e')
    exact key H β x.objs x.nodup a hr
theorem SR.upd {h₀ h h' : Heap} {β : List Addr} {H : Hp} (x : SR h₀ β H h) {a : Nat} {r : Addr} {o o' : O} {ob : Obj} (_ha : H[a]? = some o) (hr : β[a]? = some r) (hn : h₀.get? r = Option.none)
    (hk : ∀ b, b ≠ r → h'.get? b = h.get? b) (hg : h'.get? r = some ob) (ho : OR β o' ob) : SR h₀ β (H.set a o') h' := x.updS hr hn hk (.own hn hg ho)

/-- the frame: what the names hold -/
structure ER (env : PySem.Env) (ρ : Env) (β : List Addr) (h : Heap) : Prop where
  kind : env.scope.kind = .function
  glob : env.globals = mainGlobals
  bltn : env.builtins = builtinsNs
  ns : ∃ m, h.Ns env.locals m ∧ ∀ x v, ρ x = some v → env.kindOf (Str.ofString x) = some .local → Str.ofString x ≠ (".0" : Str) → ∃ u, m (Str.ofString x) = some u ∧ VR β v u
  cell : ∀ x c, env.cells.lookup x = some c → ∃ u, h.IsCell c u
  held : ∀ x v, ρ x = some v → env.kindOf (Str.ofString x) = some .cell ∨ env.kindOf (Str.ofString x) = some .free → ∃ c u, env.cells.lookup (Str.ofString x) = some c ∧ h.IsCell c (some u) ∧ VR β v u
  has : ∀ x : Str, env.kindOf x = some .cell ∨ env.kindOf x = some .free → ∃ c, env.cells.lookup x = some c
  apart : ∀ x y c, env.cells.lookup x = some c → env.cells.lookup y = some c → x = y
  locs : env.locals ∉ β
  cells : ∀ x c, env.cells.lookup x = some c → c ∉ β ∧ c ≠ env.locals

theorem Heap_IsCell_at {h h' : Heap} {c : Addr} {v : Option Value} (x : h.IsCell c v) (hk : KAt h h' c) : h'.IsCell c v :=
  let ⟨o, ho, hd⟩ := x; let ⟨o', ho', k⟩ := hk o ho; ⟨o', ho', k.data.trans hd⟩
theorem Heap_Ns_at {h h' : Heap} {c : Addr} {m : Str → Option Value} (x : h.Ns c m) (hk : KAt h h' c) : h'.Ns c m :=
  let ⟨o, es, ep, e, hd, r⟩ := x; let ⟨o', e', k⟩ := hk o e; ⟨o', es, ep, e', k.data.trans hd, r⟩

theorem ER.step {env : PySem.Env} {ρ : Env} {β β' : List Addr} {s s' : Shared} (x : ER env ρ β s.heap) (t : Step β s β' s') : ER env ρ β' s'.heap := by
  obtain ⟨m, hn, hm⟩ := x.ns
  have notin : ∀ b, b ∉ β → (∃ o, s.heap.get? b = some o) → b ∉ β' := fun b hb ⟨o, e⟩ hm => by
    rcases t.fresh b hm with q | q
    · exact hb q
    · rw [e] at q; cases q
  refine ⟨x.kind, x.glob, x.bltn, ⟨m, Heap_Ns_at hn (t.keep _ x.locs), fun y v hv hk hd => ?_⟩, fun y c hc => ?_, fun y v hv hk => ?_, x.has, x.apart, ?_, fun y c hc => ⟨?_, (x.cells y c hc).2⟩⟩
  · obtain ⟨u, hu, hr⟩ := hm y v hv hk hd; exact ⟨u, hu, hr.mono t.grow⟩
  · obtain ⟨u, hu⟩ := x.cell y c hc; exact ⟨u, Heap_IsCell_at hu (t.keep _ (x.cells y c hc).1)⟩
  · obtain ⟨c, u, hc, hu, hr⟩ := x.held y v hv hk; exact ⟨c, u, hc, Heap_IsCell_at hu (t.keep _ (x.cells _ c hc).1), hr.mono t.grow⟩
  · obtain ⟨o, _, _, e, _⟩ := hn; exact notin _ x.locs ⟨o, e⟩
  · obtain ⟨u, o, e, _⟩ := x.cell y c hc; exact notin _ (x.cells y c hc).1 ⟨o, e⟩

theorem minL_spec {is : List Int} {m : Int} (h : minL is = some m) : m ∈ is ∧ ∀ x ∈ is, m ≤ x := by
  cases is with
  | nil => cases h
  | cons a r =>
    simp only [minL, Option.some.injEq] at h
    subst h
    have : ∀ (r : List Int) (a : Int), (r.foldl (fun x y => if y < x then y else x) a = a ∨ r.foldl (fun x y => if y < x then y else x) a ∈ r) ∧ r.foldl (fun x y => if y < x then y else x) a ≤ a ∧ ∀ x ∈ r, r.foldl (fun x y => if y < x then y else x) a ≤ x := by
      intro r
      induction r with
      | nil => intro a; exact ⟨.inl rfl, Int.le_refl _, by simp⟩
      | cons b r ih =>
        intro a
        rw [List.foldl_cons]
        obtain ⟨h1, h2, h3⟩ := ih (if b < a then b else a)
        by_cases q : b < a
        · rw [if_pos q] at h1 h2 h3 ⊢
          refine ⟨.inr ?_, by omega, fun x hx => ?_⟩
          · rcases h1 with e | e
            · rw [e]; exact .head _
            · exact .tail _ e
          · rcases List.mem_cons.mp hx with rfl | hx
            · exact h2
            · exact h3 x hx
        · rw [if_neg q] at h1 h2 h3 ⊢
          refine ⟨h1.imp id fun e => .tail _ e, h2, fun x hx => ?_⟩
          rcases List.mem_cons.mp hx with rfl | hx
          · omega
          · exact h3 x hx
    obtain ⟨h1, h2, h3⟩ := this r a
    refine ⟨?_, fun x hx => ?_⟩
    · rcases h1 with e | e
      · rw [e]; exact .head _
      · exact .tail _ e
    · rcases List.mem_cons.mp hx with rfl | hx
      · exact h2
      · exact h3 x hx

end Mine

namespace Mine
open PySem

section
variable {prog : Program} {w : World} {A : Around} {E : Value → Shared → Prop} {s : Shared} {h₀ : Heap} {β : List Addr} {H H' : Hp} {v : V} {Q : Value → Shared → Prop}

/-- what is known behind a word -/
noncomputable def Cont (h₀ : Heap) (β : List Addr) (s : Shared) (v : V) (H' : Hp) (Q : Value → Shared → Prop) : Prop :=
  ∀ u s' β', Step β s β' s' → SR h₀ β' H' s'.heap → VR β' v u → Q u s'

theorem Cont.same {u : Value} {t : Nat} (k : Cont h₀ β s v H Q) (sr : SR h₀ β H s.heap) (vr : VR β v u) : Q u { s with toks := t } :=
  k u _ β (Step.toks β s t) sr vr
theorem Cont.here {u : Value} (k : Cont h₀ β s v H Q) (sr : SR h₀ β H s.heap) (vr : VR β v u) : Q u s :=
  k u _ β (Step.refl β s) sr vr

/-- a new object -/
theorem Cont.new {o : O} {ob : Obj} {t : Nat} (k : Cont h₀ β s (.ref H.length) (H ++ [o]) Q) (sr : SR h₀ β H s.heap) (ho : OR β o ob) (hf : ob.isFreed = false) :
    Q (.ref s.heap.objs.size) { s with heap := s.heap.push ob, toks := t } := by
  have hn : s.heap.get? s.heap.objs.size = Option.none := by
    cases e : s.heap.get? s.heap.objs.size with
    | none => rfl
    | some o => exact absurd (Heap.lt_size e) (Nat.lt_irrefl _)
  have hp : β <+: β ++ [s.heap.objs.size] := List.prefix_append _ _
  refine k _ _ (β ++ [s.heap.objs.size]) ⟨⟨_, _, rfl⟩, hp, fun b _ => .of fun o e => Heap.get?_push_of_some _ e, fun b hb => ?_⟩
    (sr.push hn (fun b o e => Heap.get?_push_of_some _ e) (Heap.get?_push_size _ hf) (ho.mono hp)) (.ref ?_)
  · rcases List.mem_append.mp hb with q | q
    · exact .inl q
    · simp at q; subst q; exact .inr hn
  · rw [sr.len]; simp

theorem Cont.new0 {o : O} {ob : Obj} (k : Cont h₀ β s (.ref H.length) (H ++ [o]) Q) (sr : SR h₀ β H s.heap) (ho : OR β o ob) (hf : ob.isFreed = false) :
    Q (.ref s.heap.objs.size) { s with heap := s.heap.push ob } := Cont.new (t := s.toks) k sr ho hf

/-- an object of the mini heap, in the model -/
theorem SR.at (x : SR h₀ β H s.heap) {a : Nat} {o : O} (ha : H[a]? = some o) : ∃ r, β[a]? = some r ∧ Slot1 h₀ s.heap β o r := x.objs.get ha

theorem SR.list (x : SR h₀ β H s.heap) {a : Nat} {r : Addr} {xs : List V} (ha : H[a]? = some (.list xs)) (hr : β[a]? = some r) :
    ∃ us n, h₀.get? r = Option.none ∧ s.heap.get? r = some { cls := .type "list", data := .seq us.toArray n } ∧ VRs β xs us ∧ xs.length ≤ lim := by
  obtain ⟨r', e, sl⟩ := x.at ha
  (first | exact clash hr e | exact clash e hr | (rw [hr] at e; cases e))
  cases sl with
  | own a b c => cases c with | list p q => exact ⟨_, _, a, b, p, q⟩

theorem SR.seq (x : SR h₀ β H s.heap) {a : Nat} {r : Addr} {xs : List V} (ha : seqOf H a = some xs) (hr : β[a]? = some r) :
    ∃ us n ob, s.heap.get? r = some ob ∧ (ob.cls = .type "list" ∨ ob.cls = .type "tuple") ∧ ob.data = .seq us.toArray n ∧ VRs β xs us ∧ xs.length ≤ lim := by
  unfold seqOf at ha
  split at ha
  · rename_i ys e; cases ha
    obtain ⟨us, n, _, b, c, d⟩ := x.list e hr
    exact ⟨us, n, _, b, .inl rfl, rfl, c, d⟩
  · rename_i ys e; cases ha
    obtain ⟨r', e', sl⟩ := x.at e
    (first | exact clash hr e' | exact clash e' hr | (rw [hr] at e'; cases e'))
    cases sl with
    | frozen a b c d l => exact ⟨_, _, _, x.kept _ _ a, .inl b, c, d, l⟩
    | own a b c => cases c
  · rename_i ys e; cases ha
    obtain ⟨r', e', sl⟩ := x.at e
    (first | exact clash hr e' | exact clash e' hr | (rw [hr] at e'; cases e'))
    cases sl with
    | own a b c => cases c with | tuple p q => exact ⟨_, _, _, b, .inr rfl, rfl, p, q⟩
  · cases ha

theorem lim_lt (n : Nat) (h : n ≤ lim) : (n : Int) < 2 ^ 63 := by unfold lim at h; omega
theorem lim_line (n : Nat) (h : n ≤ lim) : n ≤ sizeLine := by unfold lim at h; unfold sizeLine; omega

theorem p_sub {a b : Int} {t u : Tok} (k : Cont h₀ β s (.int (a - b)) H Q) (sr : SR h₀ β H s.heap) : wpAny (model prog w) A (binaryOp .Sub (.int a t) (.int b u)) Q E s :=
  P.sub_int (k.same sr (.int _ _))
theorem p_neg {a : Int} {t : Tok} (k : Cont h₀ β s (.int (-a)) H Q) (sr : SR h₀ β H s.heap) : wpAny (model prog w) A (unaryOp .USub (.int a t)) Q E s :=
  P.neg_int (k.same sr (.int _ _))
theorem p_mod {a b : Int} {t u : Tok} (hb : b ≠ 0) (k : Cont h₀ β s (.int (a.fmod b)) H Q) (sr : SR h₀ β H s.heap) : wpAny (model prog w) A (binaryOp .Mod (.int a t) (.int b u)) Q E s :=
  PyProof.Rows.mod_int' hb (k.same sr (.int _ _))
theorem p_fdiv {a b : Int} {t u : Tok} (hb : b ≠ 0) (hs : b.natAbs < 2 ^ 30) (k : Cont h₀ β s (.int (a.fdiv b)) H Q) (sr : SR h₀ β H s.heap) : wpAny (model prog w) A (binaryOp .FloorDiv (.int a t) (.int b u)) Q E s :=
  PyProof.Rows.floordiv_int hb (k.same sr (.int _ _)) (.inl (PyProof.noPylong_small (by omega)))
theorem p_addI {a b : Int} {t u : Tok} (k : Cont h₀ β s (.int (a + b)) H Q) (sr : SR h₀ β H s.heap) : wpAny (model prog w) A (binaryOp .Add (.int a t) (.int b u)) Q E s :=
  P.add_int (k.same sr (.int _ _))


theorem p_mulI {a b : Int} {t u : Tok} (ha : a.natAbs < 2 ^ 30) (k : Cont h₀ β s (.int (a * b)) H Q) (sr : SR h₀ β H s.heap) : wpAny (model prog w) A (binaryOp .Mult (.int a t) (.int b u)) Q E s :=
  P.mul_int (k.same sr (.int _ _)) (.of_left (by
    unfold Builtin.Int.intBits
    split
    · omega
    · have : a.natAbs.log2 < 30 := by
        rcases Nat.eq_zero_or_pos a.natAbs with h | h
        · rw [h]; decide
        · exact (Nat.log2_lt (Nat.pos_iff_ne_zero.mp h)).mpr ha
      omega))

theorem p_addS {x y : Str} {t u : Tok} (hs : x.cps.size + y.cps.size ≤ lim) (k : Cont h₀ β s (.str (x ++ y)) H Q) (sr : SR h₀ β H s.heap) : wpAny (model prog w) A (binaryOp .Add (.str x t) (.str y u)) Q E s :=
  PyProof.Rows.add_str (fun _ _ => k.same sr (.str _ _)) (lim_line _ hs)

theorem p_addL {a b : Nat} {ra rb : Addr} {xs ys : List V} (ha : H[a]? = some (.list xs)) (hb : H[b]? = some (.list ys)) (hra : β[a]? = some ra) (hrb : β[b]? = some rb) (hs : xs.length + ys.length ≤ lim)
    (k : Cont h₀ β s (.ref H.length) (H ++ [.list (xs ++ ys)]) Q) (sr : SR h₀ β H s.heap) : wpAny (model prog w) A (binaryOp .Add (.ref ra) (.ref rb)) Q E s := by
  obtain ⟨us, n, _, ea, va, _⟩ := sr.list ha hra
  obtain ⟨ws, m, _, eb, vb, _⟩ := sr.list hb hrb
  refine P.add_list (items := us.toArray) (items2 := ws.toArray) ea eb ?_ (by rw [List.size_toArray, List.size_toArray, ← va.length, ← vb.length]; exact lim_line _ hs)
  exact k.new0 sr (by rw [List.append_toArray]; exact .list (va.append vb) (by rw [List.length_append]; exact hs)) rfl

theorem foldl_replicate (x : Value) : ∀ n : Nat, List.foldl (fun x1 x2 : Array Value => x1 ++ x2) #[] (List.replicate n #[x]) = (List.replicate n x).toArray := by
  have key : ∀ (n : Nat) (acc : Array Value), List.foldl (fun x1 x2 : Array Value => x1 ++ x2) acc (List.replicate n #[x]) = acc ++ (List.replicate n x).toArray := by
    intro n
    induction n with
    | zero => intro acc; simp
    | succ n ih =>
      intro acc
      rw [List.replicate_succ, List.foldl_cons, ih, Array.append_assoc]
      congr 1
      simp [List.replicate_succ]
  intro n
  rw [key]; simp

theorem p_mulL {a : Nat} {ra : Addr} {x : V} {n : Int} {t : Tok} (ha : H[a]? = some (.list [x])) (hra : β[a]? = some ra) (hs : n.natAbs ≤ lim)
    (k : Cont h₀ β s (.ref H.length) (H ++ [.list (List.replicate n.toNat x)]) Q) (sr : SR h₀ β H s.heap) : wpAny (model prog w) A (binaryOp .Mult (.ref ra) (.int n t)) Q E s := by
  obtain ⟨us, m, _, ea, va, _⟩ := sr.list ha hra
  cases va with
  | cons hx hr =>
    cases hr
    rename_i ux
    have hl : n.natAbs ≤ 100000 := hs
    refine wpAny_binaryOp_repeat_ref (T := "list") (U := "int") (by decide) ⟨_, ea, rfl⟩ (fun s' => typeIs_int s' n t) noFill_list_mul F.fills_int_mul F.slot_int_rmul repeat_list F.slot_int_index.lookup
      (call_meets F.slot_int_rmul (typeIs_int s n t) F.entry_int_rmul (F.args_int_rmul_2 _ _) (int___rmul___int_list n t ra #[ux] m)
        ⟨ea, rfl, ⟨_, ea, rfl⟩, call_meets F.slot_list_mul ⟨_, ea, rfl⟩ F.entry_list_mul (F.args_list_mul_2 _ _)
          (AutoListH.list___mul___list_int_3 ra #[ux] m n t (by simp [Builtin.List.listFitsIndex]; omega) (by simp; omega) (by simp [Builtin.List.listTooLong, sizeLine]; omega))
          ⟨ea, ?_⟩⟩)
    refine k.new0 sr ?_ rfl
    have : (if (#[ux] : Array Value).isEmpty = true then 0 else n.toNat) = n.toNat := by simp
    rw [this, foldl_replicate]
    exact .list (All2.replicate hx _) (by rw [List.length_replicate]; unfold lim; omega)

theorem p_lt {a b : Int} {t u : Tok} (k : Cont h₀ β s (.bool (decide (a < b))) H Q) (sr : SR h₀ β H s.heap) : wpAny (model prog w) A (compareOp .Lt (.int a t) (.int b u)) Q E s := P.lt_int (k.here sr (.bool _))
theorem p_le {a b : Int} {t u : Tok} (k : Cont h₀ β s (.bool (decide (a ≤ b))) H Q) (sr : SR h₀ β H s.heap) : wpAny (model prog w) A (compareOp .LtE (.int a t) (.int b u)) Q E s := P.le_int (k.here sr (.bool _))
theorem p_gt {a b : Int} {t u : Tok} (k : Cont h₀ β s (.bool (decide (b < a))) H Q) (sr : SR h₀ β H s.heap) : wpAny (model prog w) A (compareOp .Gt (.int a t) (.int b u)) Q E s := P.gt_int (k.here sr (.bool _))
theorem p_ge {a b : Int} {t u : Tok} (k : Cont h₀ β s (.bool (decide (b ≤ a))) H Q) (sr : SR h₀ β H s.heap) : wpAny (model prog w) A (compareOp .GtE (.int a t) (.int b u)) Q E s := P.ge_int (k.here sr (.bool _))

theorem p_lenS {x : Str} {t : Tok} (hs : x.cps.size ≤ lim) (k : Cont h₀ β s (.int x.cps.size) H Q) (sr : SR h₀ β H s.heap) : wpAny (model prog w) A (call (.builtin "len") [.str x t]) Q E s :=
  PyProof.Rows.len_str (by have := lim_lt _ hs; unfold Str.length; omega) (k.same sr (.int _ _))

theorem SR.isSeq (x : SR h₀ β H s.heap) {a : Nat} {r : Addr} {xs : List V} (ha : seqOf H a = some xs) (hr : β[a]? = some r) :
    ∃ us, (s.heap.IsList r us.toArray ∨ PyProof.Rows.IsTup s.heap r us.toArray) ∧ VRs β xs us ∧ xs.length ≤ lim := by
  obtain ⟨us, n, ob, e, hc, hd, vr, hl⟩ := x.seq ha hr
  exact ⟨us, hc.imp (fun c => ⟨ob, e, c, n, hd⟩) (fun c => ⟨ob, e, c, n, hd⟩), vr, hl⟩

theorem p_lenL {a : Nat} {r : Addr} {xs : List V} (ha : seqOf H a = some xs) (hr : β[a]? = some r) (k : Cont h₀ β s (.int xs.length) H Q) (sr : SR h₀ β H s.heap) :
    wpAny (model prog w) A (call (.builtin "len") [.ref r]) Q E s := by
  obtain ⟨us, hq, vr, hl⟩ := sr.isSeq ha hr
  have hlen := vr.length
  have hsz : (us.toArray.size : Int) = xs.length := by rw [List.size_toArray, hlen]
  have hfit := lim_lt _ hl
  rcases hq with hq | hq
  · exact Calls.call_len_list hq (by omega) (by rw [hsz]; exact k.same sr (.int _ _))
  · exact PyProof.Rows.len_tuple hq (by omega) (by rw [hsz]; exact k.same sr (.int _ _))

theorem normIdx_some {i : Int} {n k : Nat} (h : normIdx i n = some k) : (0 ≤ i ∧ i < n ∧ k = i.toNat) ∨ (i < 0 ∧ -(n : Int) ≤ i ∧ k = (i + n).toNat) := by
  unfold normIdx at h
  by_cases hi : i < 0
  · simp only [hi, if_true] at h
    split at h
    · have := Option.some.inj h; omega
    · cases h
  · simp only [hi, if_false] at h
    split at h
    · have := Option.some.inj h; omega
    · cases h

theorem seqIndex_norm {i : Int} {n k : Nat} (h : normIdx i n = some k) : seqIndex? i n = some k := by
  rcases normIdx_some h with ⟨h0, h1, rfl⟩ | ⟨h0, h1, rfl⟩
  · exact seqIndex_of h0 h1
  · exact seqIndex_neg h0 h1

theorem normIdx_lt {i : Int} {n k : Nat} (h : normIdx i n = some k) : k < n := by
  rcases normIdx_some h with ⟨h0, h1, rfl⟩ | ⟨h0, h1, rfl⟩ <;> omega

theorem p_itemL {a : Nat} {r : Addr} {xs : List V} {i : Int} {t : Tok} {kk : Nat} (ha : seqOf H a = some xs) (hr : β[a]? = some r) (hk : normIdx i xs.length = some kk) (hv : xs[kk]? = some v)
    (k : Cont h₀ β s v H Q) (sr : SR h₀ β H s.heap) : wpAny (model prog w) A (getItem (.ref r) (.int i t)) Q E s := by
  obtain ⟨us, hq, vr, hl⟩ := sr.isSeq ha hr
  obtain ⟨u, hu, hvu⟩ := vr.get hv
  have hlen := vr.length
  have hfit := lim_lt _ hl
  have hsz : us.toArray.size = xs.length := by rw [List.size_toArray, hlen]
  have hu' : us.toArray[kk]? = some u := by rw [List.getElem?_toArray]; exact hu
  rcases hq with hq | hq
  · rcases normIdx_some hk with ⟨h0, h1, rfl⟩ | ⟨h0, h1, rfl⟩
    · exact wpAny_getItem_list hq h0 (by omega) hu' (k.here sr hvu)
    · exact wpAny_getItem_list_neg hq h0 (by omega) (by omega) (by rw [hsz]; exact hu') (k.here sr hvu)
  · have := normIdx_some hk
    exact PyProof.Rows.getItem_tuple hq (by omega) (by omega) (by rw [hsz]; exact seqIndex_norm hk) hu' (k.here sr hvu)

theorem p_mkList {vs : List V} {us : List Value} (hv : VRs β vs us) (hl : vs.length ≤ lim) (k : Cont h₀ β s (.ref H.length) (H ++ [.list vs]) Q) (sr : SR h₀ β H s.heap) :
    Q (.ref s.heap.objs.size) { s with heap := s.heap.push { cls := .type "list", data := .seq us.toArray } } := k.new0 sr (.list hv hl) rfl
theorem p_mkTuple {vs : List V} {us : List Value} (hv : VRs β vs us) (hl : vs.length ≤ lim) (k : Cont h₀ β s (.ref H.length) (H ++ [.tuple vs]) Q) (sr : SR h₀ β H s.heap) :
    Q (.ref s.heap.objs.size) { s with heap := s.heap.push { cls := .type "tuple", data := .seq us.toArray } } := k.new0 sr (.tuple hv hl) rfl

/-- a change of one own object -/
theorem Cont.upd {a : Nat} {r : Addr} {o o' : O} {ob : Obj} {u : Value} {h' : Heap} (k : Cont h₀ β s v (H.set a o') Q) (sr : SR h₀ β H s.heap) (ha : H[a]? = some o) (hr : β[a]? = some r) (hn : h₀.get? r = Option.none)
    (hk : ∀ b, b ≠ r → h'.get? b = s.heap.get? b) (hg : h'.get? r = some ob) (ho : OR β o' ob) (vr : VR β v u) : Q u { s with heap := h' } := by
  refine k _ _ β ⟨⟨_, _, rfl⟩, List.prefix_refl _, fun b hb => .of fun q e => ?_, fun b hb => .inl hb⟩ (sr.upd ha hr hn hk hg ho) vr
  have : b ≠ r := by rintro rfl; exact hb (List.mem_of_getElem? hr)
  exact (hk b this).trans e

theorem mapSeq_list (us : List Value) (n : Nat) (f : Array Value → Array Value) : ∃ m, Obj.mapSeq f { cls := .type "list", data := .seq us.toArray n } = { cls := .type "list", data := .seq (f us.toArray) m } := ⟨_, rfl⟩

set_option maxRecDepth 100000 in
theorem set_at {l : Addr} {o : Obj} {us : Array Value} {n : Nat} {k : Int} {t : Tok} {v : Value} {Q : Unit → Shared → Prop} (ho : s.heap.get? l = some o) (hc : o.cls = .type "list") (hd : o.data = .seq us n) (h0 : 0 ≤ k) (hk : k < us.size) (hl : k < 2 ^ 63)
    (hQ : Q () { s with heap := s.heap.update l (Obj.mapSeq (·.setIfInBounds k.toNat v)) }) : wpAny (model prog w) A (setItem (.ref l) (.int k t) v) Q E s := by
  have ty : s.heap.IsList l us := ⟨o, ho, hc, n, hd⟩
  have fits := fitsIndex_of h0 hl
  unfold setItem
  refine wpAny_holding (wpAny_bind (wpAny_sequenceKey ty.typeIs (by decide) (wpAny_bind (wpAny_callSpecial?_slot (name := Str.ofString "__setitem__") ty.typeIs slot_list_setitem (wpAny_call_entry slot_list_setitem ty.typeIs entry_list_setitem ?_ (args_list_setitem _ _ _))))))
  show wpAny _ _ (Builtin.List.listSubscript? (.int k t) >>= _) _ _ s
  refine wpAny_bind (wpAny_listSubscript_int fits ?_)
  clear fits hl
  match k, h0, hk, hQ with
  | .ofNat m, _, hk, hQ =>
    have hlt : m < us.size := by have : (m : Int) < us.size := hk; omega
    have hm : us[m]? = some us[m] := Array.getElem?_eq_getElem hlt
    show wpAny _ _ ((seqItemAt l m >>= _) >>= _) _ _ s
    refine wpAny_bind (wpAny_bind (wpAny_seqItemAt (i := m) ho hd (wpAny_pure ?_)))
    rw [hm]
    show wpAny _ _ (setSeqItemAt l m v >>= _) _ _ s
    refine wpAny_bind (wpAny_setSeqItemAt (i := m) (v := v) ho hd ?_)
    exact wpAny_pure ⟨.none, rfl, wpAny_pure hQ⟩

theorem p_setL {a : Nat} {r : Addr} {xs : List V} {i : Int} {t : Tok} {x : V} {u : Value} {Qu : Unit → Shared → Prop} (ha : H[a]? = some (.list xs)) (hr : β[a]? = some r) (h0 : 0 ≤ i) (hi : i < xs.length) (hu : VR β x u)
    (k : Cont h₀ β s .none (H.set a (.list (xs.set i.toNat x))) (fun _ s' => Qu () s')) (sr : SR h₀ β H s.heap) : wpAny (model prog w) A (setItem (.ref r) (.int i t) u) Qu E s := by
  obtain ⟨us, n, hn, e, vr, hl⟩ := sr.list ha hr
  have hfit := lim_lt _ hl
  have hlen := vr.length
  obtain ⟨m, rfl⟩ := Int.eq_ofNat_of_zero_le h0
  refine set_at e rfl rfl h0 (by rw [List.size_toArray, ← hlen]; omega) (by omega) ?_
  rw [Int.toNat_natCast] at k ⊢
  obtain ⟨q, hq⟩ := mapSeq_list us n fun xs => xs.setIfInBounds m u
  refine Cont.upd (u := .none) k sr ha hr hn (fun b hb => Heap.get?_update_other _ _ (Ne.symm hb)) (Heap.get?_update_self _ e (by rw [hq]; rfl)) ?_ .none
  rw [hq]
  have : us.toArray.setIfInBounds m u = (us.set m u).toArray := by simp
  rw [this]
  exact .list (vr.set m hu) (by rw [List.length_set]; exact hl)

theorem p_append {a : Nat} {r : Addr} {xs : List V} {x : V} {u : Value} (ha : H[a]? = some (.list xs)) (hr : β[a]? = some r) (hl : xs.length < lim) (hu : VR β x u)
    (k : Cont h₀ β s .none (H.set a (.list (xs ++ [x]))) Q) (sr : SR h₀ β H s.heap) : wpAny (model prog w) A (call (.builtin "list.append") [.ref r, u]) Q E s := by
  obtain ⟨us, n, hn, e, vr, hle⟩ := sr.list ha hr
  have hlen := vr.length
  refine call_meets F.slot_list_append ⟨_, e, rfl⟩ F.entry_list_append (F.args_list_append_2 _ _) (list_append r us.toArray n u (by rw [List.size_toArray, ← hlen]; exact lim_line _ hle)) ⟨e, ?_⟩
  obtain ⟨m, hm⟩ := mapSeq_list us n fun xs => xs.push u
  refine k.upd sr ha hr hn (fun b hb => Heap.get?_update_other _ _ (Ne.symm hb)) (Heap.get?_update_self _ e (by rw [hm]; rfl)) ?_ .none
  rw [hm, List.push_toArray]
  exact .list (vr.append (.cons hu .nil)) (by rw [List.length_append]; exact hl)

theorem p_pop {a : Nat} {r : Addr} {xs : List V} {i : Int} {t : Tok} {kk : Nat} (ha : H[a]? = some (.list xs)) (hr : β[a]? = some r) (hk : normIdx i xs.length = some kk) (hv : xs[kk]? = some v)
    (k : Cont h₀ β s v (H.set a (.list (xs.eraseIdx kk))) Q) (sr : SR h₀ β H s.heap) : wpAny (model prog w) A (call (.builtin "list.pop") [.ref r, .int i t]) Q E s := by
  obtain ⟨us, n, hn, e, vr, hle⟩ := sr.list ha hr
  have hlen := vr.length
  have hfit := lim_lt _ hle
  obtain ⟨u, hu, hvu⟩ := vr.get hv
  have hsz : us.toArray.size = xs.length := by rw [List.size_toArray, hlen]
  have hlt := normIdx_lt hk
  have hb := normIdx_some hk
  refine call_meets F.slot_list_pop ⟨_, e, rfl⟩ F.entry_list_pop (F.args_list_pop_2 _ _) (MeetsSeq.list_pop_at r us.toArray n i t kk u (by simp [Builtin.List.listFitsIndex]; omega) (by rw [hsz]; exact seqIndex_norm hk)
    (by rw [List.getElem?_toArray]; exact hu) (by rw [hsz]; exact lim_line _ hle)) ⟨e, ?_⟩
  obtain ⟨m, hm⟩ := mapSeq_list us n fun xs => xs.eraseIdxIfInBounds kk
  refine k.upd sr ha hr hn (fun b hb => Heap.get?_update_other _ _ (Ne.symm hb)) (Heap.get?_update_self _ e (by rw [hm]; rfl)) ?_ hvu
  rw [hm]
  have : us.toArray.eraseIdxIfInBounds kk = (us.eraseIdx kk).toArray := by
    rw [Array.eraseIdxIfInBounds, dif_pos (by rw [hsz]; exact hlt)]; simp
  rw [this]
  exact .list (vr.eraseIdx kk) (by have := List.length_eraseIdx_le xs kk; omega)

end
end Mine

namespace Mine
open PySem

section
variable {prog : Program} {w : World} {A : Around} {E : Value → Shared → Prop} {s : Shared} {h₀ : Heap} {β : List Addr} {H H' : Hp} {v : V} {Q : Value → Shared → Prop}

theorem mapM_cons_some {α γ : Type} {f : α → Option γ} {x : α} {xs : List α} {ys : List γ} (h : (x :: xs).mapM f = some ys) : ∃ y r, f x = some y ∧ xs.mapM f = some r ∧ ys = y :: r := by
  rw [List.mapM_cons] at h
  cases hx : f x with
  | none => (first | exact clash hx h | exact clash h hx | (rw [hx] at h; cases h))
  | some y =>
    rw [hx] at h
    cases hr : xs.mapM f with
    | none => (first | exact clash hr h | exact clash h hr | (rw [hr] at h; cases h))
    | some r => (first | exact clash hr h | exact clash h hr | (rw [hr] at h; cases h)); exact ⟨y, r, rfl, rfl, rfl⟩
theorem mapM_nil_some {α γ : Type} {f : α → Option γ} {ys : List γ} (h : ([] : List α).mapM f = some ys) : ys = [] := by
  (first | exact clash List.mapM_nil h | exact clash h List.mapM_nil | (rw [List.mapM_nil] at h; cases h)); rfl

theorem reads_all {n : Nat} (ih : ∀ v u d, readD n H v = some d → VR β v u → ∃ as, Reads s.heap u d as ∧ d.depth ≤ n) :
    ∀ {xs : List V} {us : List Value} {ds : List PyData}, VRs β xs us → xs.mapM (readD n H) = some ds → ∃ as, ReadsAll s.heap us ds as ∧ PyData.depthAll ds ≤ n := by
  intro xs us ds hv
  induction hv generalizing ds with
  | nil => intro h; rw [mapM_nil_some h]; exact ⟨_, .nil, Nat.zero_le _⟩
  | cons h _ ih2 =>
    intro hm
    obtain ⟨y, r, h1, h2, rfl⟩ := mapM_cons_some hm
    obtain ⟨as, ra, da⟩ := ih _ _ _ h1 h
    obtain ⟨bs, rb, db⟩ := ih2 h2
    exact ⟨_, .cons ra rb, by rw [PyData.depthAll]; omega⟩

theorem reads_of (sr : SR h₀ β H s.heap) : ∀ (n : Nat) (v : V) (u : Value) (d : PyData), readD n H v = some d → VR β v u → ∃ as, Reads s.heap u d as ∧ d.depth ≤ n := by
  intro n
  induction n with
  | zero =>
    intro v u d h hv
    cases hv <;> simp only [readD] at h <;> cases h
    · exact ⟨_, .none, Nat.le_refl _⟩
    · exact ⟨_, .bool _, Nat.le_refl _⟩
    · exact ⟨_, .int _ _, Nat.le_refl _⟩
    · exact ⟨_, .str _ _, Nat.le_refl _⟩
  | succ n ih =>
    intro v u d h hv
    cases hv with
    | none => simp only [readD] at h; cases h; exact ⟨_, .none, Nat.zero_le _⟩
    | bool b => simp only [readD] at h; cases h; exact ⟨_, .bool _, Nat.zero_le _⟩
    | int i t => simp only [readD] at h; cases h; exact ⟨_, .int _ _, Nat.zero_le _⟩
    | str x t => simp only [readD] at h; cases h; exact ⟨_, .str _ _, Nat.zero_le _⟩
    | @ref a r hr =>
      simp only [readD] at h
      split at h
      · rename_i xs e
        obtain ⟨ds, hds, rfl⟩ := Option.map_eq_some_iff.mp h
        obtain ⟨us, m, _, eo, vr, _⟩ := sr.list e hr
        obtain ⟨as, ra, da⟩ := reads_all ih vr hds
        exact ⟨_, .list eo rfl rfl (by simpa using ra), by rw [PyData.depth]; omega⟩
      · rename_i xs e
        obtain ⟨ds, hds, rfl⟩ := Option.map_eq_some_iff.mp h
        obtain ⟨r', e', sl⟩ := sr.at e
        (first | exact clash hr e' | exact clash e' hr | (rw [hr] at e'; cases e'))
        cases sl with
        | frozen a b c d l =>
          obtain ⟨as, ra, da⟩ := reads_all ih d hds
          exact ⟨_, .list (sr.kept _ _ a) b c (by simpa using ra), by rw [PyData.depth]; omega⟩
        | own a b c => cases c
      · rename_i xs e
        obtain ⟨ds, hds, rfl⟩ := Option.map_eq_some_iff.mp h
        obtain ⟨r', e', sl⟩ := sr.at e
        (first | exact clash hr e' | exact clash e' hr | (rw [hr] at e'; cases e'))
        cases sl with
        | own a b c =>
          cases c with
          | tuple vr l =>
            obtain ⟨as, ra, da⟩ := reads_all ih vr hds
            exact ⟨_, .tuple b rfl rfl (by simpa using ra), by rw [PyData.depth]; omega⟩
      · cases h

theorem eqD_some {a b : V} {r : Bool} (h : eqD H a b = some r) : ∃ x y, readD 8 H a = some x ∧ readD 8 H b = some y ∧ x.canLay0 = true ∧ y.canLay0 = true ∧ r = PyData.eqv x y := by
  unfold eqD at h
  split at h
  · rename_i x y ha hb
    split at h
    · rename_i hc
      rw [Bool.and_eq_true] at hc
      exact ⟨x, y, ha, hb, hc.1, hc.2, (Option.some.inj h).symm⟩
    · cases h
  · cases h

theorem shaped_of {d : PyData} (hc : d.canLay0 = true) (hd : d.depth ≤ 8) : SeqAt.shaped d = true := by
  unfold SeqAt.shaped; rw [hc]; simp; omega

theorem p_eq {a b : V} {ua ub : Value} {r : Bool} (ha : VR β a ua) (hb : VR β b ub) (h : eqD H a b = some r) (hu : A.units + 100 < cLine) (k : Cont h₀ β s (.bool r) H Q) (sr : SR h₀ β H s.heap) :
    wpAny (model prog w) A (compareOp .Eq ua ub) Q E s := by
  obtain ⟨x, y, rx, ry, cx, cy, rfl⟩ := eqD_some h
  obtain ⟨as, ra, da⟩ := reads_of sr _ _ _ _ rx ha
  obtain ⟨bs, rb, db⟩ := reads_of sr _ _ _ _ ry hb
  exact SeqAt.compareEq_shaped ra rb (shaped_of cx da) (shaped_of cy db) (by omega) (k.here sr (.bool _))

theorem p_ne {a b : V} {ua ub : Value} {r : Bool} (ha : VR β a ua) (hb : VR β b ub) (h : eqD H a b = some r) (hu : A.units + 100 < cLine) (k : Cont h₀ β s (.bool (!r)) H Q) (sr : SR h₀ β H s.heap) :
    wpAny (model prog w) A (compareOp .NotEq ua ub) Q E s := by
  obtain ⟨x, y, rx, ry, cx, cy, rfl⟩ := eqD_some h
  obtain ⟨as, ra, da⟩ := reads_of sr _ _ _ _ rx ha
  obtain ⟨bs, rb, db⟩ := reads_of sr _ _ _ _ ry hb
  exact SeqAt.compareNe_shaped ra rb (shaped_of cx da) (shaped_of cy db) (by omega) (k.here sr (.bool _))

theorem inD_some {x : V} {xs : List V} {r : Bool} (h : inD H x xs = some r) : ∃ d ds, readD 8 H x = some d ∧ xs.mapM (readD 8 H) = some ds ∧ d.canLay0 = true ∧ PyData.canLayAll0 ds = true ∧ r = ds.any fun y => PyData.eqv y d := by
  unfold inD at h
  split at h
  · rename_i d ds hd hds
    split at h
    · rename_i hc
      rw [Bool.and_eq_true] at hc
      exact ⟨d, ds, hd, hds, hc.1, hc.2, (Option.some.inj h).symm⟩
    · cases h
  · cases h

/-- a list or a tuple read as data -/
theorem readsSeq (sr : SR h₀ β H s.heap) {a : Nat} {r : Addr} {xs : List V} {ds : List PyData} (ha : seqOf H a = some xs) (hr : β[a]? = some r) (hds : xs.mapM (readD 8 H) = some ds) :
    ∃ as, (Reads s.heap (.ref r) (.list ds) as ∨ Reads s.heap (.ref r) (.tuple ds) as) ∧ PyData.depthAll ds ≤ 8 := by
  obtain ⟨us, n, ob, e, hc, hd, vr, _⟩ := sr.seq ha hr
  obtain ⟨as, ra, da⟩ := reads_all (reads_of sr 8) vr hds
  rcases hc with hc | hc
  · exact ⟨_, .inl (.list e hc hd (by simpa using ra)), da⟩
  · exact ⟨as, .inr (.tuple e hc hd (by simpa using ra)), da⟩

theorem p_in {x : V} {ux : Value} {a : Nat} {r : Addr} {xs : List V} {b : Bool} (hx : VR β x ux) (ha : seqOf H a = some xs) (hr : β[a]? = some r) (h : inD H x xs = some b) (hu : A.units + 100 < cLine)
    (k : Cont h₀ β s (.bool b) H Q) (sr : SR h₀ β H s.heap) : wpAny (model prog w) A (compareOp .In ux (.ref r)) Q E s := by
  obtain ⟨d, ds, hd, hds, c1, c2, rfl⟩ := inD_some h
  obtain ⟨bs, rx, dx⟩ := reads_of sr _ _ _ _ hd hx
  obtain ⟨as, rs, dd⟩ := readsSeq sr ha hr hds
  have hu' : A.units + 1 + min (PyData.depthAll ds) d.depth < cLine := by omega
  rcases rs with rs | rs
  · exact SeqAt.in_list_reads rs rx c2 c1 hu' (k.here sr (.bool _))
  · exact SeqAt.in_tuple_reads rs rx c2 c1 hu' (k.here sr (.bool _))
theorem p_notIn {x : V} {ux : Value} {a : Nat} {r : Addr} {xs : List V} {b : Bool} (hx : VR β x ux) (ha : seqOf H a = some xs) (hr : β[a]? = some r) (h : inD H x xs = some b) (hu : A.units + 100 < cLine)
    (k : Cont h₀ β s (.bool (!b)) H Q) (sr : SR h₀ β H s.heap) : wpAny (model prog w) A (compareOp .NotIn ux (.ref r)) Q E s := by
  obtain ⟨d, ds, hd, hds, c1, c2, rfl⟩ := inD_some h
  obtain ⟨bs, rx, dx⟩ := reads_of sr _ _ _ _ hd hx
  obtain ⟨as, rs, dd⟩ := readsSeq sr ha hr hds
  have hu' : A.units + 1 + min (PyData.depthAll ds) d.depth < cLine := by omega
  rcases rs with rs | rs
  · exact SeqAt.notIn_list_reads rs rx c2 c1 hu' (k.here sr (.bool _))
  · exact SeqAt.notIn_tuple_reads rs rx c2 c1 hu' (k.here sr (.bool _))

theorem p_isNone {v : V} {u : Value} (hv : VR β v u) (k : Cont h₀ β s (.bool (decide (v = .none))) H Q) (sr : SR h₀ β H s.heap) : wpAny (model prog w) A (compareOp .Is u .none) Q E s := by
  refine is_none ?_
  have : (u == Value.none) = decide (v = .none) := by cases hv <;> simp
  rw [this]; exact k.here sr (.bool _)
theorem p_isNotNone {v : V} {u : Value} (hv : VR β v u) (k : Cont h₀ β s (.bool (!decide (v = .none))) H Q) (sr : SR h₀ β H s.heap) : wpAny (model prog w) A (compareOp .IsNot u .none) Q E s := by
  refine isNot_none ?_
  have : (u == Value.none) = decide (v = .none) := by cases hv <;> simp
  rw [this]; exact k.here sr (.bool _)
theorem isSame_true {v : V} {u : Value} (hv : VR β v u) : PySem.isSame u (.bool true) = pure (u == .bool true) := by cases hv <;> rfl
theorem isSame_dec {v : V} {u : Value} (hv : VR β v u) : (u == Value.bool true) = decide (v = .bool true) := by
  cases hv with
  | bool b => cases b <;> rfl
  | _ => simp
theorem p_isTrue {v : V} {u : Value} (hv : VR β v u) (k : Cont h₀ β s (.bool (decide (v = .bool true))) H Q) (sr : SR h₀ β H s.heap) : wpAny (model prog w) A (compareOp .Is u (.bool true)) Q E s := by
  show wpAny (model prog w) A (do return .bool (← PySem.isSame u (.bool true))) Q E s
  rw [isSame_true hv, isSame_dec hv]; exact wpAny_bind (wpAny_pure (wpAny_pure (k.here sr (.bool _))))
theorem p_isNotTrue {v : V} {u : Value} (hv : VR β v u) (k : Cont h₀ β s (.bool (!decide (v = .bool true))) H Q) (sr : SR h₀ β H s.heap) : wpAny (model prog w) A (compareOp .IsNot u (.bool true)) Q E s := by
  show wpAny (model prog w) A (do return .bool (!(← PySem.isSame u (.bool true)))) Q E s
  rw [isSame_true hv, isSame_dec hv]; exact wpAny_bind (wpAny_pure (wpAny_pure (k.here sr (.bool _))))

/-- the built-in types that the texts name -/
noncomputable def plainTypes : List String := ["int", "bool", "list", "tuple", "str"]

theorem pl5 {P : String → Prop} (h1 : P "int") (h2 : P "bool") (h3 : P "list") (h4 : P "tuple") (h5 : P "str") {t : String} (ht : t ∈ plainTypes) : P t := by
  simp only [plainTypes, List.mem_cons, List.not_mem_nil, or_false] at ht
  rcases ht with rfl | rfl | rfl | rfl | rfl
  · exact h1
  · exact h2
  · exact h3
  · exact h4
  · exact h5
/-- what isinstance is asked of v, for a type t -/
noncomputable def AskI (prog : Program) (w : World) (A : Around) (E : Value → Shared → Prop) (s : Shared) (Q : Value → Shared → Prop) (ts : List String) (u : Value) (t : String) : Prop :=
  (ts.contains t = true → Q (.bool true) s) → (ts.contains t = false → Q (.bool false) { s with toks := s.toks + 1 }) → wpAny (model prog w) A (call (.builtin "isinstance") [u, .type t]) Q E s
theorem isInst_one {v : V} {t : String} {H : Hp} : isInst v [t] H = (typesOf v H).contains t := by unfold isInst; rw [List.any_cons, List.any_nil, Bool.or_false]
theorem ask_list {r : Addr} {ob : Obj} (e : s.heap.get? r = some ob) (c : ob.cls = .type "list") {t : String} (ht : t ∈ plainTypes) : AskI prog w A E s Q ["list"] (.ref r) t :=
  pl5 (fun _ n => IsiPair.list_int e c (n rfl)) (fun _ n => IsiPair.list_bool e c (n rfl)) (fun y _ => IsiPair.list_list e c (y rfl)) (fun _ n => IsiPair.list_tuple e c (n rfl)) (fun _ n => IsiPair.list_str e c (n rfl)) ht
theorem ask_tuple {r : Addr} {ob : Obj} (e : s.heap.get? r = some ob) (c : ob.cls = .type "tuple") {t : String} (ht : t ∈ plainTypes) : AskI prog w A E s Q ["tuple"] (.ref r) t :=
  pl5 (fun _ n => IsiPair.tuple_int e c (n rfl)) (fun _ n => IsiPair.tuple_bool e c (n rfl)) (fun _ n => IsiPair.tuple_list e c (n rfl)) (fun y _ => IsiPair.tuple_tuple e c (y rfl)) (fun _ n => IsiPair.tuple_str e c (n rfl)) ht
theorem ask_dict {r : Addr} {ob : Obj} (e : s.heap.get? r = some ob) (c : ob.cls = .type "dict") {t : String} (ht : t ∈ plainTypes) : AskI prog w A E s Q [] (.ref r) t :=
  pl5 (fun _ n => IsiPair.dict_int e c (n rfl)) (fun _ n => IsiPair.dict_bool e c (n rfl)) (fun _ n => IsiPair.dict_list e c (n rfl)) (fun _ n => IsiPair.dict_tuple e c (n rfl)) (fun _ n => IsiPair.dict_str e c (n rfl)) ht
theorem p_isinst {v : V} {u : Value} {t : String} (hv : VR β v u) (ht : t ∈ plainTypes) (k : Cont h₀ β s (.bool (isInst v [t] H)) H Q) (sr : SR h₀ β H s.heap) :
    wpAny (model prog w) A (call (.builtin "isinstance") [u, .type t]) Q E s := by
  rw [isInst_one] at k
  have fin : ∀ ts, typesOf v H = ts → AskI prog w A E s Q ts u t → wpAny (model prog w) A (call (.builtin "isinstance") [u, .type t]) Q E s := fun ts e a => by
    rw [e] at k
    exact a (fun q => by have := k.here sr (.bool _); rw [q] at this; exact this) (fun q => by have := k.same (t := s.toks + 1) sr (.bool _); rw [q] at this; exact this)
  cases hv with
  | none => exact fin _ rfl (pl5 (P := AskI prog w A E s Q [] .none) (fun _ n => IsiPair.NoneType_int (n rfl)) (fun _ n => IsiPair.NoneType_bool (n rfl)) (fun _ n => IsiPair.NoneType_list (n rfl)) (fun _ n => IsiPair.NoneType_tuple (n rfl)) (fun _ n => IsiPair.NoneType_str (n rfl)) ht)
  | bool b => exact fin _ rfl (pl5 (P := AskI prog w A E s Q ["bool", "int"] (.bool b)) (fun y _ => IsiPair.bool_int (y rfl)) (fun y _ => IsiPair.bool_bool (y rfl)) (fun _ n => IsiPair.bool_list (n rfl)) (fun _ n => IsiPair.bool_tuple (n rfl)) (fun _ n => IsiPair.bool_str (n rfl)) ht)
  | int i tk => exact fin _ rfl (pl5 (P := AskI prog w A E s Q ["int"] (.int i tk)) (fun y _ => IsiPair.int_int (y rfl)) (fun _ n => IsiPair.int_bool (n rfl)) (fun _ n => IsiPair.int_list (n rfl)) (fun _ n => IsiPair.int_tuple (n rfl)) (fun _ n => IsiPair.int_str (n rfl)) ht)
  | str x tk => exact fin _ rfl (pl5 (P := AskI prog w A E s Q ["str"] (.str x tk)) (fun _ n => IsiPair.str_int (n rfl)) (fun _ n => IsiPair.str_bool (n rfl)) (fun _ n => IsiPair.str_list (n rfl)) (fun _ n => IsiPair.str_tuple (n rfl)) (fun y _ => IsiPair.str_str (y rfl)) ht)
  | @ref a r hr =>
    have hlt : a < H.length := by rw [sr.len]; exact (List.getElem?_eq_some_iff.mp hr).1
    obtain ⟨o, ho⟩ : ∃ o, H[a]? = some o := ⟨_, List.getElem?_eq_getElem hlt⟩
    obtain ⟨r', e', sl⟩ := sr.at ho
    rw [hr] at e'; cases e'
    cases sl with
    | frozen f0 b c d l => exact fin _ (by unfold typesOf; dsimp only; rw [ho]) (ask_list (sr.kept _ _ f0) b ht)
    | dict f0 f1 b d _ _ =>
      obtain ⟨_, _, hx, _⟩ := d prog w
      exact fin _ (by unfold typesOf; dsimp only; rw [ho]) (ask_dict b hx.1 ht)
    | own f0 b c =>
      cases c with
      | list p q => exact fin _ (by unfold typesOf; dsimp only; rw [ho]) (ask_list b rfl ht)
      | tuple p q => exact fin _ (by unfold typesOf; dsimp only; rw [ho]) (ask_tuple b rfl ht)

theorem Cont.newAt {o : O} {ob : Obj} {t : Nat} {h' : Heap} {r : Addr} (k : Cont h₀ β s (.ref H.length) (H ++ [o]) Q) (sr : SR h₀ β H s.heap) (hn : s.heap.get? r = Option.none) (hk : ∀ b o, s.heap.get? b = some o → h'.get? b = some o)
    (hg : h'.get? r = some ob) (ho : OR β o ob) : Q (.ref r) { s with heap := h', toks := t } := by
  have hp : β <+: β ++ [r] := List.prefix_append _ _
  refine k _ _ (β ++ [r]) ⟨⟨_, _, rfl⟩, hp, fun b _ => .of fun o e => hk b o e, fun b hb => ?_⟩ (sr.push hn hk hg (ho.mono hp)) (.ref ?_)
  · rcases List.mem_append.mp hb with q | q
    · exact .inl q
    · simp at q; subst q; exact .inr hn
  · rw [sr.len]; simp

theorem get_none_of_le {h : Heap} {a : Addr} (ha : h.objs.size ≤ a) : h.get? a = Option.none := by
  cases e : h.get? a with
  | none => rfl
  | some o => exact absurd (Heap.lt_size e) (Nat.not_lt.mpr ha)

theorem p_list {a : Nat} {r : Addr} {xs : List V} (ha : seqOf H a = some xs) (hr : β[a]? = some r) (k : Cont h₀ β s (.ref H.length) (H ++ [.list xs]) Q) (sr : SR h₀ β H s.heap) :
    wpAny (model prog w) A (call (.type "list") [.ref r]) Q E s := by
  obtain ⟨us, n, ob, e, hc, hd, vr, hl⟩ := sr.seq ha hr
  have hlen := vr.length
  have fin : ∀ h' c', (∀ b o', s.heap.get? b = some o' → h'.get? b = some o') → h'.get? s.heap.objs.size = some { cls := .type "list", dict := none, data := .seq us.toArray c', slots := #[] } → Q (.ref s.heap.objs.size) { s with heap := h' } :=
    fun h' c' hk hg => Cont.newAt (t := s.toks) k sr (get_none_of_le (Nat.le_refl _)) hk hg (.list vr hl)
  have hsz : us.toArray.size ≤ sizeLine := by rw [List.size_toArray, ← hlen]; exact lim_line _ hl
  rcases hc with hc | hc
  · exact call_list_seq r (T := "list") (.inl rfl) e hc hd fin hsz
  · exact call_list_seq r (T := "tuple") (.inr rfl) e hc hd fin hsz

theorem p_index {a : Nat} {r : Addr} {xs : List V} {is : List Int} {i : Int} {t : Tok} (ha : H[a]? = some (.list xs)) (hr : β[a]? = some r) (hi : xs.mapM asInt = some is) (hm : i ∈ is)
    (k : Cont h₀ β s (.int (is.idxOf i : Nat)) H Q) (sr : SR h₀ β H s.heap) : wpAny (model prog w) A (call (.builtin "list.index") [.ref r, .int i t]) Q E s := by
  obtain ⟨us, n, hn, e, vr, hl⟩ := sr.list ha hr
  have hints : ∀ {xs : List V} {us : List Value} {is : List Int}, VRs β xs us → xs.mapM asInt = some is → All2 (fun i u => ∃ t, u = Value.int i t) is us := by
    intro xs us is hv
    induction hv generalizing is with
    | nil => intro h; rw [mapM_nil_some h]; exact .nil
    | cons h _ ih =>
      intro hm
      obtain ⟨y, q, h1, h2, rfl⟩ := mapM_cons_some hm
      cases h with
      | int j tk => simp [asInt] at h1; subst h1; exact .cons ⟨tk, rfl⟩ (ih h2)
      | _ => simp [asInt] at h1
  have hI := hints vr hi
  have hlen := vr.length
  have hlenI := hI.length
  have hidx : is.idxOf i < is.length := List.idxOf_lt_length_of_mem hm
  have hfit := lim_lt _ hl
  let eq : Value → Bool := fun y => match y with | .int j _ => j == i | _ => false
  have at_ : ∀ m (hm : m < us.toArray.size), ∃ tk, us.toArray[m] = .int (is[m]'(by rw [hlenI]; simpa using hm)) tk := by
    intro m hm
    have hm' : m < us.length := by simpa using hm
    obtain ⟨q, hq, tk, hu⟩ := hI.get' (List.getElem?_eq_getElem hm')
    have : is[m]'(by rw [hlenI]; exact hm') = q := by
      have := List.getElem?_eq_getElem (l := is) (i := m) (by rw [hlenI]; exact hm')
      rw [hq] at this; exact (Option.some.inj this).symm
    exact ⟨tk, by simp [this, hu]⟩
  refine call_meets F.slot_list_index ⟨_, e, rfl⟩ F.entry_list_index (F.args_list_index_2 _ _) (MeetsSeq.list_index r us.toArray n (.int i t) eq (fun y hy => ?_) (is.idxOf i) (by simp; omega) (by omega) ?_ ?_) ⟨e, k.same sr (.int _ _)⟩
  · obtain ⟨m, hm, rfl⟩ := Array.mem_iff_getElem.mp hy
    obtain ⟨tk, hu⟩ := at_ m hm
    rw [hu]; exact MeetsSeq.EqGives.int _ _ _ _
  · obtain ⟨tk, hu⟩ := at_ (is.idxOf i) (by simp; omega)
    rw [hu]; simp [eq]
  · intro m hm hlt
    obtain ⟨tk, hu⟩ := at_ m hm
    rw [hu]
    have : is[m]'(by rw [hlenI]; simpa using hm) ≠ i := fun q => by
      have := List.not_of_lt_findIdx (p := (· == i)) (xs := is) (i := m) hlt
      simp [q] at this
    simpa [eq] using this

end
end Mine

namespace Mine
open PySem

noncomputable def cmpOf : Cmp → CmpOp
  | .eq => .Eq | .ne => .NotEq | .lt => .Lt | .le => .LtE | .gt => .Gt | .ge => .GtE | .is_ => .Is | .isNot => .IsNot | .in_ => .In | .notIn => .NotIn
noncomputable def binOf : Bin → Operator
  | .add => .Add | .sub => .Sub | .mul => .Mult | .mod => .Mod | .fdiv => .FloorDiv

noncomputable def isVar (sc : Scope) (x : Str) : Bool := match sc.names.lookup x with
  | some .local | some .cell | some .free => x != (".0" : Str) && x != ("__debug__" : Str) && x != ("__classdict__" : Str)
  | _ => false
noncomputable def isGlb (sc : Scope) (x : Str) : Bool := match sc.names.lookup x with
  | some .globalImplicit => x != ("__debug__" : Str)
  | _ => false
noncomputable def methName : Prim → Option String
  | .append => some "append" | .pop => some "pop" | .index => some "index"
  | _ => none

noncomputable def isSlice : Expr → Bool
  | .Slice .. => true
  | _ => false

/-- the operands of a word of the text -/
inductive OpA (sc : Scope) : Prim → Expr → List Expr → Prop where
  | bin (o : Bin) {l r : Expr} {p : Pos} : OpA sc (.bin o) (.BinOp l (binOf o) r p) [l, r]
  | neg {x : Expr} {p : Pos} : OpA sc .neg (.UnaryOp .USub x p) [x]
  | cmp (o : Cmp) {l r : Expr} {p : Pos} : behindInMarks (cmpOf o) r = false → OpA sc (.cmp o) (.Compare l [cmpOf o] [r] p) [l, r]
  | len {xs : List Expr} {p pos : Pos} : isGlb sc (Str.ofString "len") = true → OpA sc .len (.Call (.Name (Str.ofString "len") p) xs [] pos) xs
  | list {xs : List Expr} {p pos : Pos} : isGlb sc (Str.ofString "list") = true → OpA sc .list (.Call (.Name (Str.ofString "list") p) xs [] pos) xs
  | isinst (t : String) {x : Expr} {p p' pos : Pos} : isGlb sc (Str.ofString "isinstance") = true → isGlb sc (Str.ofString t) = true → t ∈ plainTypes → OpA sc (.isinst [t]) (.Call (.Name (Str.ofString "isinstance") p) [x, .Name (Str.ofString t) p'] [] pos) [x]
  | item {v i : Expr} {p : Pos} : isSlice i = false → OpA sc .item (.Subscript v i p) [v, i]
  | sliceTo {v u : Expr} {p pos : Pos} : OpA sc (.slice false true) (.Subscript v (.Slice none (some u) none p) pos) [v, u]
  | sliceFrom {v u : Expr} {p pos : Pos} : OpA sc (.slice true false) (.Subscript v (.Slice (some u) none none p) pos) [v, u]
  | sliceBoth {v l u : Expr} {p pos : Pos} : OpA sc (.slice true true) (.Subscript v (.Slice (some l) (some u) none p) pos) [v, l, u]
  | mkList {xs : List Expr} {p : Pos} : OpA sc .mkList (.List xs p) xs
  | mkTuple {xs : List Expr} {b : Nat} {p : Pos} : OpA sc .mkTuple (.Tuple xs b p) xs
  | listRange {xs : List Expr} {p p' cp pos : Pos} : isGlb sc (Str.ofString "list") = true → isGlb sc (Str.ofString "range") = true → OpA sc .listRange (.Call (.Name (Str.ofString "list") p) [.Call (.Name (Str.ofString "range") p') xs [] cp] [] pos) xs
  | mkDict {p : Pos} : OpA sc .mkDict (.Dict [] [] p) []
  | min1 {xs : List Expr} {p pos : Pos} : isGlb sc (Str.ofString "min") = true → OpA sc .min1 (.Call (.Name (Str.ofString "min") p) xs [] pos) xs
  | any {xs : List Expr} {p pos : Pos} : isGlb sc (Str.ofString "any") = true → OpA sc .any (.Call (.Name (Str.ofString "any") p) xs [] pos) xs

noncomputable def opA? (sc : Scope) (p : Prim) (x : Expr) : Option { xs : List Expr // OpA sc p x xs } := match p, x with
  | .bin o, .BinOp l op r _ => if h : op = binOf o then some ⟨[l, r], by subst h; exact .bin o⟩ else none
  | .neg, .UnaryOp .USub y _ => some ⟨[y], .neg⟩
  | .cmp o, .Compare l [op] [r] _ => if h : op = cmpOf o ∧ behindInMarks (cmpOf o) r = false then some ⟨[l, r], by obtain ⟨rfl, h⟩ := h; exact .cmp o h⟩ else none
  | .len, .Call (.Name id _) xs [] _ => if h : id = Str.ofString "len" ∧ isGlb sc (Str.ofString "len") = true then some ⟨xs, by obtain ⟨rfl, h⟩ := h; exact .len h⟩ else none
  | .list, .Call (.Name id _) xs [] _ => if h : id = Str.ofString "list" ∧ isGlb sc (Str.ofString "list") = true then some ⟨xs, by obtain ⟨rfl, h⟩ := h; exact .list h⟩ else none
  | .isinst [t], .Call (.Name id _) [y, .Name id' _] [] _ => if h : id = Str.ofString "isinstance" ∧ id' = Str.ofString t ∧ isGlb sc (Str.ofString "isinstance") = true ∧ isGlb sc (Str.ofString t) = true ∧ t ∈ plainTypes then some ⟨[y], by obtain ⟨rfl, rfl, h1, h2, h3⟩ := h; exact .isinst t h1 h2 h3⟩ else none
  | .item, .Subscript v i _ => if h : isSlice i = false then some ⟨[v, i], .item h⟩ else none
  | .slice false true, .Subscript v (.Slice none (some u) none _) _ => some ⟨[v, u], .sliceTo⟩
  | .slice true false, .Subscript v (.Slice (some u) none none _) _ => some ⟨[v, u], .sliceFrom⟩
  | .slice true true, .Subscript v (.Slice (some l) (some u) none _) _ => some ⟨[v, l, u], .sliceBoth⟩
  | .mkList, .List xs _ => some ⟨xs, .mkList⟩
  | .mkTuple, .Tuple xs _ _ => some ⟨xs, .mkTuple⟩
  | .listRange, .Call (.Name id _) [.Call (.Name id' _) xs [] _] [] _ => if h : (id = Str.ofString "list" ∧ id' = Str.ofString "range") ∧ isGlb sc (Str.ofString "list") = true ∧ isGlb sc (Str.ofString "range") = true then some ⟨xs, by obtain ⟨⟨rfl, rfl⟩, h, h'⟩ := h; exact .listRange h h'⟩ else none
  | .mkDict, .Dict [] [] _ => some ⟨[], .mkDict⟩
  | .min1, .Call (.Name id _) xs [] _ => if h : id = Str.ofString "min" ∧ isGlb sc (Str.ofString "min") = true then some ⟨xs, by obtain ⟨rfl, h⟩ := h; exact .min1 h⟩ else none
  | .any, .Call (.Name id _) xs [] _ => if h : id = Str.ofString "any" ∧ isGlb sc (Str.ofString "any") = true then some ⟨xs, by obtain ⟨rfl, h⟩ := h; exact .any h⟩ else none
  | _, _ => none

/-- the scope of a comprehension over one name -/
noncomputable def compOk (sc scope : Scope) (x : Str) : Bool :=
  decide (scope.kind = .function) && scope.names.lookup x == some .local && x != (".0" : Str) &&
  scope.names.all fun nk => match nk.2 with
    | .local => (nk.1 == x || nk.1 == (".0" : Str)) && scope.names.lookup nk.1 == some .local
    | .free => (match sc.names.lookup nk.1 with | some .cell | some .free => true | _ => false)
    | .globalImplicit => true
    | _ => false

/-- no call without arguments: the receiver of a method is evaluated as it stands -/
noncomputable def plainBase : Expr → Bool
  | .Call (.Name _ _) [] [] _ => false
  | _ => true

mutual
/-- an expression of the text is a mini expression -/
inductive ME (fs : Tab) : Scope → E → Expr → Prop where
  | none {sc : Scope} {k : Nat} {p : Pos} : ME fs sc .none (.Constant .none k p)
  | bool {sc : Scope} {b : Bool} {k : Nat} {p : Pos} : ME fs sc (.bool b) (.Constant (.bool b) k p)
  | int {sc : Scope} {i : Int} {k : Nat} {p : Pos} : ME fs sc (.int i) (.Constant (.int i) k p)
  | str {sc : Scope} {x : String} {k : Nat} {p : Pos} : ME fs sc (.str x) (.Constant (.str (Str.ofString x)) k p)
  | var {sc : Scope} {x : String} {p : Pos} : isVar sc (Str.ofString x) = true → ME fs sc (.var x) (.Name (Str.ofString x) p)
  | glob {sc : Scope} {x : String} {p : Pos} : isGlb sc (Str.ofString x) = true → ME fs sc (.glob x) (.Name (Str.ofString x) p)
  | op {sc : Scope} {p : Prim} {args : List E} {x : Expr} {xs : List Expr} : OpA sc p x xs → MEs fs sc args xs → ME fs sc (.op p args) x
  | mcall {sc : Scope} {p : Prim} {m : String} {o : E} {o' x1 : Expr} {args : List E} {apos pos : Pos} : methName p = some m → (apos.endLine == pos.line) = true → plainBase o' = true → ME fs sc o o' → MEs fs sc args [x1] →
      ME fs sc (.mcall p o args) (.Call (.Attribute o' (Str.ofString m) apos) [x1] [] pos)
  | and_ {sc : Scope} {es : List E} {x : Expr} {xs : List Expr} {p : Pos} : MEs fs sc es (x :: xs) → ME fs sc (.and_ es) (.BoolOp .And (x :: xs) p)
  | or_ {sc : Scope} {es : List E} {x : Expr} {xs : List Expr} {p : Pos} : MEs fs sc es (x :: xs) → ME fs sc (.or_ es) (.BoolOp .Or (x :: xs) p)
  | not_ {sc : Scope} {e : E} {x : Expr} {p : Pos} : ME fs sc e x → ME fs sc (.not_ e) (.UnaryOp .Not x p)
  | ife {sc : Scope} {c a b : E} {t x y : Expr} {p : Pos} : ME fs sc c t → ME fs sc a x → ME fs sc b y → ME fs sc (.ife c a b) (.IfExp t x y p)
  | chain {sc : Scope} {a b c : E} {o o' : Cmp} {l r r' : Expr} {p : Pos} : behindInMarks (cmpOf o) r = false → behindInMarks (cmpOf o') r' = false → ME fs sc a l → ME fs sc b r → ME fs sc c r' →
      ME fs sc (.chain a o b o' c) (.Compare l [cmpOf o, cmpOf o'] [r, r'] p)
  | call {sc : Scope} {f : String} {args : List E} {xs : List Expr} {p pos : Pos} : f ∈ fs.fns → isGlb sc (Str.ofString f) = true → MEs fs sc args xs → ME fs sc (.call f args) (.Call (.Name (Str.ofString f) p) xs [] pos)
  | compR {sc scope : Scope} {elt : E} {x : String} {args conds : List E} {el : Expr} {xs ifs : List Expr} {tp gp cp pos : Pos} : isGlb sc (Str.ofString "range") = true → compOk sc scope (Str.ofString x) = true → ifs.length ≤ 1 →
      MEs fs sc args xs → ME fs scope elt el → MEs fs scope conds ifs → ME fs sc (.compR elt x args conds) (.ListComp el [⟨.Name (Str.ofString x) tp, .Call (.Name (Str.ofString "range") gp) xs [] cp, ifs, 0⟩] scope pos)
  | compS {sc scope : Scope} {elt src : E} {x : String} {conds : List E} {el it : Expr} {ifs : List Expr} {tp pos : Pos} : compOk sc scope (Str.ofString x) = true → ifs.length ≤ 1 →
      ME fs sc src it → ME fs scope elt el → MEs fs scope conds ifs → ME fs sc (.compS elt (.one x) src conds) (.ListComp el [⟨.Name (Str.ofString x) tp, it, ifs, 0⟩] scope pos)
inductive MEs (fs : Tab) : Scope → List E → List Expr → Prop where
  | nil {sc : Scope} : MEs fs sc [] []
  | cons {sc : Scope} {e : E} {es : List E} {x : Expr} {xs : List Expr} : ME fs sc e x → MEs fs sc es xs → MEs fs sc (e :: es) (x :: xs)
end

abbrev Ok (p : Prop) := Option (PLift p)
noncomputable def o1 {p r : Prop} (a : Ok p) (f : p → r) : Ok r := a.map fun h => ⟨f h.down⟩
noncomputable def o2 {p q r : Prop} (a : Ok p) (b : Ok q) (f : p → q → r) : Ok r := a.bind fun h => b.map fun k => ⟨f h.down k.down⟩
noncomputable def o3 {p q t r : Prop} (a : Ok p) (b : Ok q) (c : Ok t) (f : p → q → t → r) : Ok r := a.bind fun h => b.bind fun k => c.map fun l => ⟨f h.down k.down l.down⟩
noncomputable def oif {r : Prop} (c : Prop) [Decidable c] (f : c → Ok r) : Ok r := if h : c then f h else none

mutual
noncomputable def chkE (fs : Tab) (sc : Scope) : (e : E) → (x : Expr) → Ok (ME fs sc e x)
  | .none, .Constant .none _ _ => some ⟨.none⟩
  | .bool b, .Constant (.bool c) _ _ => oif (b = c) fun h => some ⟨by subst h; exact .bool⟩
  | .int b, .Constant (.int c) _ _ => oif (b = c) fun h => some ⟨by subst h; exact .int⟩
  | .str b, .Constant (.str c) _ _ => oif (c = Str.ofString b) fun h => some ⟨by subst h; exact .str⟩
  | .var x, .Name id _ => oif (id = Str.ofString x ∧ isVar sc (Str.ofString x) = true) fun h => some ⟨by obtain ⟨rfl, h⟩ := h; exact .var h⟩
  | .glob x, .Name id _ => oif (id = Str.ofString x ∧ isGlb sc (Str.ofString x) = true) fun h => some ⟨by obtain ⟨rfl, h⟩ := h; exact .glob h⟩
  | .op p args, x => (opA? sc p x).bind fun xs => o1 (chkEs fs sc args xs.1) fun h => .op xs.2 h
  | .mcall p o args, .Call (.Attribute o' name apos) [x1] [] pos => (match hm : methName p with
    | some m => oif (name = Str.ofString m ∧ (apos.endLine == pos.line) = true ∧ plainBase o' = true) fun h => o2 (chkE fs sc o o') (chkEs fs sc args [x1]) fun h1 h2 => by obtain ⟨rfl, a, b⟩ := h; exact .mcall hm a b h1 h2
    | none => none)
  | .and_ es, .BoolOp .And (x :: xs) _ => o1 (chkEs fs sc es (x :: xs)) .and_
  | .or_ es, .BoolOp .Or (x :: xs) _ => o1 (chkEs fs sc es (x :: xs)) .or_
  | .not_ e, .UnaryOp .Not x _ => o1 (chkE fs sc e x) .not_
  | .ife c a b, .IfExp t x y _ => o3 (chkE fs sc c t) (chkE fs sc a x) (chkE fs sc b y) .ife
  | .chain a o b o' c, .Compare l [p, p'] [r, r'] _ => oif ((p = cmpOf o ∧ p' = cmpOf o') ∧ behindInMarks (cmpOf o) r = false ∧ behindInMarks (cmpOf o') r' = false) fun h => o3 (chkE fs sc a l) (chkE fs sc b r) (chkE fs sc c r') fun h1 h2 h3 => by
      obtain ⟨⟨rfl, rfl⟩, h, h'⟩ := h; exact .chain h h' h1 h2 h3
  | .call f args, .Call (.Name id _) xs [] _ => oif ((id = Str.ofString f ∧ f ∈ fs.fns) ∧ isGlb sc (Str.ofString f) = true) fun h => o1 (chkEs fs sc args xs) fun h1 => by obtain ⟨⟨rfl, h⟩, h'⟩ := h; exact .call h h' h1
  | .compR elt x args conds, .ListComp el [⟨.Name t _, .Call (.Name g _) xs [] _, ifs, 0⟩] scope _ => oif ((t = Str.ofString x ∧ g = Str.ofString "range") ∧ isGlb sc (Str.ofString "range") = true ∧ compOk sc scope (Str.ofString x) = true ∧ ifs.length ≤ 1) fun h =>
      o3 (chkEs fs sc args xs) (chkE fs scope elt el) (chkEs fs scope conds ifs) fun h1 h2 h3 => by obtain ⟨⟨rfl, rfl⟩, a, b, c⟩ := h; exact .compR a b c h1 h2 h3
  | .compS elt (.one x) src conds, .ListComp el [⟨.Name t _, it, ifs, 0⟩] scope _ => oif (t = Str.ofString x ∧ compOk sc scope (Str.ofString x) = true ∧ ifs.length ≤ 1) fun h =>
      o3 (chkE fs sc src it) (chkE fs scope elt el) (chkEs fs scope conds ifs) fun h1 h2 h3 => by obtain ⟨rfl, b, c⟩ := h; exact .compS b c h1 h2 h3
  | _, _ => none
noncomputable def chkEs (fs : Tab) (sc : Scope) : (es : List E) → (xs : List Expr) → Ok (MEs fs sc es xs)
  | [], [] => some ⟨.nil⟩
  | e :: es, x :: xs => o2 (chkE fs sc e x) (chkEs fs sc es xs) .cons
  | _, _ => none
end

/-- a name's kind, as the mini programs see it -/
noncomputable def kcls : Option NameKind → Nat
  | some .local => 1
  | some .cell | some .free => 2
  | some .globalImplicit => 3
  | _ => 0

noncomputable def ScR (sc : Scope) (env : PySem.Env) : Prop := ∀ x : Str, kcls (env.kindOf x) = kcls (sc.names.lookup x)

structure Amb (n : Nat) (A : Around) : Prop where
  handled : A.handled = none
  depth : A.depth + n < 900
  units : A.units + 5 * n < 9000

/-- the names of the top, as the mini programs use them -/
noncomputable def bltn : String → Option Value
  | "len" => some (.builtin "len")
  | "isinstance" => some (.builtin "isinstance")
  | "list" => some (.type "list")
  | "tuple" => some (.type "tuple")
  | "range" => some (.type "range")
  | "int" => some (.type "int")
  | "bool" => some (.type "bool")
  | "str" => some (.type "str")
  | "min" => some (.builtin "min")
  | "any" => some (.builtin "any")
  | "sum" => some (.builtin "sum")
  | _ => none

/-- what stands behind an exception class in its order of bases -/
noncomputable def excBm : List Value := [.type "ValueError", .type "Exception", .type "BaseException", .type "object"]

structure Names (P : Prog) (fs : Tab) (mg mb : Str → Option Value) (h : Heap) : Prop where
  g : h.Ns mainGlobals mg
  b : h.Ns builtinsNs mb
  nolimit : h.NoLimit
  blt : ∀ x v, bltn x = some v → mg (Str.ofString x) = none ∧ mb (Str.ofString x) = some v
  glob : ∀ x v, P.glob x = some v → ∃ u, mg (Str.ofString x) = some u ∧ VR [] v u
  fn : ∀ f ∈ fs.fns, ∃ r ob fd, mg (Str.ofString f) = some (.ref r) ∧ h.get? r = some ob ∧ ob.data = .func fd
  cls : ∀ c ∈ fs.excs, ∃ C, PyProof.Rows.OwnClsQ (Str.ofString c) C excBm "ValueError.__new__" mg h

theorem Names.keeps {P : Prog} {fs : Tab} {mg mb : Str → Option Value} {h h' : Heap} (x : Names P fs mg mb h) (hk : ∀ b o, h.get? b = some o → h'.get? b = some o) : Names P fs mg mb h' :=
  ⟨x.g.keeps hk, x.b.keeps hk, x.nolimit.keeps hk, x.blt, x.glob, fun f hf => let ⟨r, ob, fd, a, b, c⟩ := x.fn f hf; ⟨r, ob, fd, a, hk _ _ b, c⟩, fun c hc => let ⟨C, o⟩ := x.cls c hc; ⟨C, o.keeps hk⟩⟩

section
variable {prog : Program} {w : World} {A : Around} {E : Value → Shared → Prop} {s : Shared} {env : PySem.Env} {Q : Value → Shared → Prop}

noncomputable def wpList (prog : Program) (w : World) (A : Around) (env : PySem.Env) : List Expr → (List Value → Shared → Prop) → (Value → Shared → Prop) → Shared → Prop
  | [], Q, _, s => Q [] s
  | x :: xs, Q, E, s => wpAny (model prog w) A (eval x env) (fun u s1 => wpList prog w A env xs (fun us s2 => Q (u :: us) s2) E s1) E s

theorem wpList_mono {xs : List Expr} {Q Q' : List Value → Shared → Prop} {s : Shared} (h : wpList prog w A env xs Q E s) (hQ : ∀ us s, Q us s → Q' us s) : wpList prog w A env xs Q' E s := by
  induction xs generalizing Q Q' s with
  | nil => exact hQ _ _ h
  | cons x xs ih => exact wpAny_mono h (fun u s1 h1 => ih h1 fun us s2 h2 => hQ _ _ h2) fun _ _ e => e

/-- no star -/
noncomputable def plainE : Expr → Bool
  | .Starred .. => false
  | _ => true
theorem starEach_plain {e : Expr} {rest : List Expr} (h : plainE e = true) : starEach (e :: rest) env = (false, eval e env) :: starEach rest env := by
  cases e <;> first | rfl | cases h

theorem wpList_spliced {pos : Pos} {xs : List Expr} {Q : List Value → Shared → Prop} {s : Shared} (hp : xs.all plainE = true) (h : wpList prog w A env xs Q E s) : wpAny (model prog w) A (spliced (backTo pos (starEach xs env))) Q E s := by
  induction xs generalizing Q s with
  | nil => exact wpAny_items_nil h
  | cons x xs ih =>
    rw [List.all_cons, Bool.and_eq_true] at hp
    exact wpAny_items_cons (wpAny_mono h (fun u s1 h1 => ih hp.2 h1) fun _ _ e => e) (starEach_plain hp.1)

theorem backTo_any {pos : Pos} {xs : List Expr} (hp : xs.all plainE = true) : (backTo pos (starEach xs env)).any (·.1) = false := by
  induction xs with
  | nil => rfl
  | cons x xs ih =>
    rw [List.all_cons, Bool.and_eq_true] at hp
    rw [starEach_plain hp.1]
    show (false || (backTo pos (starEach xs env)).any (·.1)) = false
    rw [ih hp.2]; rfl

theorem wpList_args {f : Value} {pos : Pos} {xs : List Expr} {Q : Args → Shared → Prop} (hp : xs.all plainE = true) (h : wpList prog w A env xs (fun us s1 => Q ⟨us, []⟩ s1) E s) :
    wpAny (model prog w) A (evalArgs f true (backTo pos (starEach xs env)) []) Q E s := by
  cases xs with
  | nil => exact evalArgs_none h
  | cons x xs =>
    have hp' := hp
    rw [List.all_cons, Bool.and_eq_true] at hp
    have := wpList_spliced (pos := pos) hp' h
    rw [starEach_plain hp.1] at this ⊢
    exact Calls.evalArgs_plain this

theorem call_builtinE {id : String} {pos : Pos} {xs : List Expr} (hp : xs.all plainE = true) (h : wpList prog w A env xs (fun us s1 => wpAny (model prog w) A (call (.builtin id) us) Q E s1) E s) :
    wpAny (model prog w) A (callWith pos (.builtin id) [] (backTo pos (starEach xs env)) []) Q E s :=
  Calls.callWith_builtin (backTo_any hp) (wpList_args hp h)
theorem call_typeE {T : String} {pos : Pos} {xs : List Expr} (hp : xs.all plainE = true) (h : wpList prog w A env xs (fun us s1 => wpAny (model prog w) A (call (.type T) us) Q E s1) E s) :
    wpAny (model prog w) A (callWith pos (.type T) [] (backTo pos (starEach xs env)) []) Q E s :=
  callWith_type (backTo_any hp) (wpList_args hp h)

theorem name_global {id : Str} {pos : Pos} {mg : Str → Option Value} {u : Value} (hk : env.scope.kind = .function) (hg : env.globals = mainGlobals) (hn : s.heap.Ns mainGlobals mg) (hx : env.kindOf id = some .globalImplicit)
    (hd : (id == ("__debug__" : Str)) = false) (hv : mg id = some u) (h : Q u s) : wpAny (model prog w) A (eval (.Name id pos) env) Q E s :=
  Calls.Name_function_global hk hx (Calls.loadGlobal_global (hg ▸ hn) hv h) hd
theorem name_builtin {id : Str} {pos : Pos} {mg mb : Str → Option Value} {u : Value} (hk : env.scope.kind = .function) (hg : env.globals = mainGlobals) (hb : env.builtins = builtinsNs) (hn : s.heap.Ns mainGlobals mg) (hm : s.heap.Ns builtinsNs mb)
    (hx : env.kindOf id = some .globalImplicit) (hd : (id == ("__debug__" : Str)) = false) (h0 : mg id = none) (hv : mb id = some u) (h : Q u s) : wpAny (model prog w) A (eval (.Name id pos) env) Q E s :=
  Calls.Name_function_global hk hx (Calls.loadGlobal_builtin (hg ▸ hn) h0 (hb ▸ hm) hv h) hd
end
end Mine

namespace Mine
open PySem

section
variable {prog : Program} {w : World} {A : Around} {E : Value → Shared → Prop} {s : Shared} {env : PySem.Env} {Q : Value → Shared → Prop}

theorem isGlb_kind {sc : Scope} {id : Str} (h : isGlb sc id = true) (hs : ScR sc env) : env.kindOf id = some .globalImplicit ∧ (id == ("__debug__" : Str)) = false := by
  unfold isGlb at h
  split at h
  · rename_i e
    have := hs id
    rw [e] at this
    refine ⟨?_, by simpa using h⟩
    cases hk : env.kindOf id with
    | none => (first | exact clash hk this | exact clash this hk | (rw [hk] at this; cases this))
    | some k => rw [hk] at this; cases k <;> first | rfl | cases this
  · cases h

structure Frm (P : Prog) (fs : Tab) (mg mb : Str → Option Value) (sc : Scope) (env : PySem.Env) (h : Heap) : Prop where
  names : Names P fs mg mb h
  kind : env.scope.kind = .function
  glob : env.globals = mainGlobals
  bltn : env.builtins = builtinsNs
  sc : ScR sc env

variable {P : Prog} {fs : Tab} {mg mb : Str → Option Value} {sc : Scope}

theorem Frm.keeps {h h' : Heap} (f : Frm P fs mg mb sc env h) (hk : ∀ b o, h.get? b = some o → h'.get? b = some o) : Frm P fs mg mb sc env h' := ⟨f.names.keeps hk, f.kind, f.glob, f.bltn, f.sc⟩

theorem Frm.builtin (f : Frm P fs mg mb sc env s.heap) {x : String} {v : Value} {pos : Pos} (hg : isGlb sc (Str.ofString x) = true) (hv : Mine.bltn x = some v) (h : Q v s) :
    wpAny (model prog w) A (eval (.Name (Str.ofString x) pos) env) Q E s := by
  obtain ⟨hk, hd⟩ := isGlb_kind hg f.sc
  obtain ⟨h0, h1⟩ := f.names.blt x v hv
  exact name_builtin f.kind f.glob f.bltn f.names.g f.names.b hk hd h0 h1 h

/-- a built-in function called by its name -/
theorem Frm.callB (f : Frm P fs mg mb sc env s.heap) {x id : String} {xs : List Expr} {p pos : Pos} (hg : isGlb sc (Str.ofString x) = true) (hv : Mine.bltn x = some (.builtin id)) (hp : xs.all plainE = true)
    (h : wpList prog w A env xs (fun us s1 => wpAny (model prog w) A (call (.builtin id) us) Q E s1) E s) : wpAny (model prog w) A (eval (.Call (.Name (Str.ofString x) p) xs [] pos) env) Q E s :=
  wpAny_Call_Name_kw (f.builtin hg hv (call_builtinE hp h))
theorem Frm.callT (f : Frm P fs mg mb sc env s.heap) {x T : String} {xs : List Expr} {p pos : Pos} (hg : isGlb sc (Str.ofString x) = true) (hv : Mine.bltn x = some (.type T)) (hp : xs.all plainE = true)
    (h : wpList prog w A env xs (fun us s1 => wpAny (model prog w) A (call (.type T) us) Q E s1) E s) : wpAny (model prog w) A (eval (.Call (.Name (Str.ofString x) p) xs [] pos) env) Q E s :=
  wpAny_Call_Name_kw (f.builtin hg hv (call_typeE hp h))

theorem sub_any {value slice : Expr} {pos : Pos} (hs : isSlice slice = false)
    (h : wpAny (model prog w) A (eval value env) (fun o s₁ => wpAny (model prog w) A (eval slice env) (fun i s₂ => SubscriptOn (model prog w) A o i Q E s₂) E s₁) E s) :
    wpAny (model prog w) A (eval (.Subscript value slice pos) env) Q E s := by
  rw [eval_Subscript]
  refine wpAny_bind (wpAny_mono h (fun o s₁ h₁ => wpAny_bind (wpAny_holding (wpAny_mono h₁ (fun i s₂ h₂ => wpAny_bind (wpAny_standAt ?_)) fun _ _ x => x))) fun _ _ x => x)
  obtain ⟨T, id, hl, hT, hg⟩ := h₂
  refine wpAny_bind ?_
  rw [getitemInPython_of_ne hT.not_modules]
  refine wpAny_bind (wpAny_specialOf hT hl ?_)
  have hsub : subscripted slice false o i = operate [o, i] (getItem o i) := by
    cases slice <;> first | rfl | cases hs
  refine wpAny_pure (wpAny_bind ?_)
  rw [hsub]
  exact wpAny_operating (wpAny_mono hg (fun r s₃ h₃ => wpAny_bind (wpAny_letTemporaryGo (wpAny_pure h₃))) fun _ _ x => x)

theorem sub_slice {value : Expr} {lower upper : Option Expr} {p pos : Pos}
    (h : wpAny (model prog w) A (eval value env) (fun o s₁ => wpAny (model prog w) A (eval (.Slice lower upper none p) env) (fun i s₂ => SubscriptOn (model prog w) A o i Q E s₂) E s₁) E s) :
    wpAny (model prog w) A (eval (.Subscript value (.Slice lower upper none p) pos) env) Q E s := by
  rw [eval_Subscript]
  refine wpAny_bind (wpAny_mono h (fun o s₁ h₁ => wpAny_bind (wpAny_holding (wpAny_mono h₁ (fun i s₂ h₂ => wpAny_bind (wpAny_standAt ?_)) fun _ _ x => x))) fun _ _ x => x)
  obtain ⟨T, id, hl, hT, hg⟩ := h₂
  refine wpAny_bind ?_
  rw [getitemInPython_of_ne hT.not_modules]
  refine wpAny_bind (wpAny_specialOf hT hl ?_)
  refine wpAny_pure (wpAny_bind ?_)
  show wpAny _ _ (operate [i, o] (getItem o i)) _ _ _
  exact wpAny_operating (wpAny_mono hg (fun r s₃ h₃ => wpAny_bind (wpAny_letTemporaryGo (wpAny_pure h₃))) fun _ _ x => x)

variable {h₀ : Heap} {β : List Addr} {H : Hp}

theorem slicePick_cut (us : List Value) (lo hi : Option Int) : slicePick us.toArray lo hi none = (cut us lo hi).toArray := by
  rw [slicePick_plain]
  simp only [cut, List.size_toArray]
  rfl

theorem All2.cut {α β : Type} {R : α → β → Prop} {as : List α} {bs : List β} (h : All2 R as bs) (lo hi : Option Int) : All2 R (Mine.cut as lo hi) (Mine.cut bs lo hi) := by
  unfold Mine.cut
  rw [h.length]
  exact (h.drop _).take _
theorem cut_length {α : Type} (xs : List α) (lo hi : Option Int) : (cut xs lo hi).length ≤ xs.length := by
  unfold cut
  rw [List.length_take, List.length_drop]; omega

theorem SR.listOf (x : SR h₀ β H s.heap) {a : Nat} {r : Addr} {xs : List V} (ha : H[a]? = some (.list xs) ∨ H[a]? = some (.frozen xs)) (hr : β[a]? = some r) :
    ∃ us, s.heap.IsList r us.toArray ∧ VRs β xs us ∧ xs.length ≤ lim := by
  rcases ha with ha | ha
  · obtain ⟨us, n, _, e, vr, hl⟩ := x.list ha hr
    exact ⟨us, ⟨_, e, rfl, n, rfl⟩, vr, hl⟩
  · obtain ⟨r', e', sl⟩ := x.at ha
    (first | exact clash hr e' | exact clash e' hr | (rw [hr] at e'; cases e'))
    cases sl with
    | frozen a b c d l => exact ⟨_, ⟨_, x.kept _ _ a, b, _, c⟩, d, l⟩
    | own a b c => cases c

/-- a slice of a list: the slice object, then the list -/
theorem p_sliceL {a : Nat} {r : Addr} {xs : List V} {vl vu : Value} {lo hi : Option Int} (ha : H[a]? = some (.list xs) ∨ H[a]? = some (.frozen xs)) (hr : β[a]? = some r) (pl : IsPart vl lo) (pu : IsPart vu hi)
    (k : Cont h₀ β s (.ref H.length) (H ++ [.list (cut xs lo hi)]) Q) (sr : SR h₀ β H s.heap) :
    SubscriptOn (model prog w) A (.ref r) (.ref s.heap.objs.size) Q E { s with heap := s.heap.push { cls := .type "slice", data := .fields #[vl, vu, .none] } } := by
  obtain ⟨us, hl, vr, hle⟩ := sr.listOf ha hr
  have hlen := vr.length
  have hl' := hl.push { cls := .type "slice", data := .fields #[vl, vu, .none] }
  refine ⟨"list", "list.__getitem__", list_getitem_lookup, hl'.typeIs, ?_⟩
  refine wpAny_getItem_list_slice hl' (Heap.IsSliceOf.new _ _ _ _) pl pu .none (by simp) ?_ (by rw [List.size_toArray, ← hlen]; exact lim_line _ hle)
  rw [slicePick_cut]
  dsimp only
  refine Cont.newAt (t := s.toks) k sr (r := (s.heap.push _).objs.size) (get_none_of_le (by rw [Heap.size_push]; omega)) (fun b o e => Heap.get?_push_of_some _ (Heap.get?_push_of_some _ e)) (Heap.get?_push_size _ rfl)
    (.list (vr.cut lo hi) (by have := cut_length xs lo hi; omega))

theorem list_on {a : Nat} {r : Addr} {xs : List V} {i : Value} (sr : SR h₀ β H s.heap) (ha : seqOf H a = some xs) (hr : β[a]? = some r) (hg : wpAny (model prog w) A (getItem (.ref r) i) Q E s) : SubscriptOn (model prog w) A (.ref r) i Q E s := by
  obtain ⟨us, hq, _, _⟩ := sr.isSeq ha hr
  rcases hq with hq | hq
  · exact ⟨"list", "list.__getitem__", list_getitem_lookup, hq.typeIs, hg⟩
  · exact ⟨"tuple", "tuple.__getitem__", PyProof.Rows.slot_tuple_getitem.lookup, hq.typeIs, hg⟩

end
end Mine

namespace Mine
open PySem
open AutoSeq1 (wpAny_loadPart')
open MeetsSeq3 (plain_eq_loop entry_eq_loop)

section
variable {prog : Program} {w : World} {A : Around} {E : Value → Shared → Prop} {s : Shared} {h₀ : Heap} {β : List Addr} {H H' : Hp} {v : V} {Q : Value → Shared → Prop}

end
end Mine

namespace Mine
open PySem

section
variable {prog : Program} {w : World} {A : Around} {E : Value → Shared → Prop} {s : Shared} {env : PySem.Env} {h₀ : Heap} {β : List Addr} {H H' : Hp} {v : V} {Q : Value → Shared → Prop}

theorem rangeI_length (a b c : Int) : (rangeI a b c).length = (if a < b then (b - a - 1) / c + 1 else 0).toNat := by simp [rangeI]
theorem rangeSize_pos {a b c : Int} (hc : 0 < c) : Builtin.Range.rangeSize a b c = ((rangeI a b c).length : Int) := by
  rw [rangeI_length]
  unfold Builtin.Range.rangeSize
  rw [if_pos hc]
  split
  · have : 0 ≤ (b - a - 1) / c := Int.ediv_nonneg (by omega) (by omega)
    omega
  · rfl

theorem size_lim {a b c : Int} (ha : a.natAbs ≤ lim) (hb : b.natAbs ≤ lim) (hc0 : 0 < c) : Builtin.Range.rangeSize a b c ≤ 300000 ∧ 0 ≤ Builtin.Range.rangeSize a b c := by
  unfold lim at ha hb
  unfold Builtin.Range.rangeSize
  rw [if_pos hc0]
  split
  · have h1 : 0 ≤ (b - a - 1) / c := Int.ediv_nonneg (by omega) (by omega)
    have h2 : (b - a - 1) / c ≤ b - a - 1 := Int.ediv_le_self _ (by omega)
    omega
  · omega
theorem fits {i : Int} (h : i.natAbs ≤ 1000000) : Builtin.Range.rangeFitsLong i = true := by
  unfold Builtin.Range.rangeFitsLong
  simp only [Bool.and_eq_true, decide_eq_true_eq]
  omega
theorem small_lim {a b c : Int} (ha : a.natAbs ≤ lim) (hb : b.natAbs ≤ lim) (hc : c.natAbs ≤ lim) (hc0 : 0 < c) : Builtin.Range.small a b c = true := by
  have h1 := size_lim ha hb hc0
  have up {i : Int} (h : i.natAbs ≤ lim) : i.natAbs ≤ 1000000 := Nat.le_trans h (by decide)
  unfold Builtin.Range.small
  rw [fits (up ha), fits (up hb), fits (up hc), fits (i := Builtin.Range.rangeSize a b c) (by omega), if_pos hc0, fits (i := b + (c - 1)) (by unfold lim at hb hc; omega)]
  exact Bool.or_true _

theorem all2_of_get {α γ : Type} {R : α → γ → Prop} : ∀ {as : List α} {bs : List γ}, as.length = bs.length → (∀ (i : Nat) a b, as[i]? = some a → bs[i]? = some b → R a b) → All2 R as bs
  | [], [], _, _ => .nil
  | a :: as, b :: bs, hl, h => .cons (h 0 a b rfl rfl) (all2_of_get (by simpa using hl) fun i a b ha hb => h (i + 1) a b (by simpa using ha) (by simpa using hb))
  | [], _ :: _, hl, _ => by simp at hl
  | _ :: _, [], hl, _ => by simp at hl

theorem p_listRange {vs : List V} {us : List Value} {is : List Int} (hh : A.handled = none) (vr : VRs β vs us) (hr : rangeOf vs = some is) (hl : is.length ≤ lim) (k : Cont h₀ β s (.ref H.length) (H ++ [.list (is.map .int)]) Q) (sr : SR h₀ β H s.heap) :
    wpAny (model prog w) A (call (.type "range") us) (fun x s1 => wpAny (model prog w) A (call (.type "list") [x]) Q E s1) E s := by
  have fin : ∀ (a b c : Int) (t u v : Tok) (tk : Nat), is = rangeI a b c → 0 < c → a.natAbs ≤ lim → b.natAbs ≤ lim → c.natAbs ≤ lim → wpAny (model prog w) A (call (.type "list") [.ref s.heap.objs.size]) Q E
      { s with heap := s.heap.push { cls := .type "range", data := .fields #[.int a t, .int b u, .int c v] }, toks := tk } := by
    intro a b c t u v tk e hc ha hb hcl
    refine call_list_range hh (IsRange.new ..) (small_lim ha hb hcl hc) (rangeSize_pos hc) (Nat.le_trans (e ▸ hl) (by decide)) fun h' tk' acc c' hk hg hacc => ?_
    have hac : acc = acc.toList.toArray := by simp
    rw [hac] at hg
    refine Cont.newAt (s := s) (h' := h') (t := tk') k sr (r := (s.heap.push _).objs.size) (get_none_of_le (by rw [Heap.size_push]; omega)) (fun b o e => hk _ _ (Heap.get?_push_of_some _ e)) hg (.list ?_ (by rw [List.length_map]; exact hl))
    refine all2_of_get (by rw [List.length_map, e]; have := hacc.1; simpa using this.symm) fun i x y hx hy => ?_
    rw [List.getElem?_map] at hx
    obtain ⟨z, hz, rfl⟩ := Option.map_eq_some_iff.mp hx
    obtain ⟨t, ht⟩ := hacc.2 i y (by simpa using hy)
    rw [e, rangeI, List.getElem?_map] at hz
    obtain ⟨j, hj, rfl⟩ := Option.map_eq_some_iff.mp hz
    obtain ⟨hlt, e'⟩ := List.getElem?_eq_some_iff.mp hj
    simp at e'; subst e'
    rw [ht]; exact .int _ _
  unfold rangeOf at hr
  split at hr
  · split at hr
    · rename_i hb; cases hr
      cases vr with | cons va vr => cases vr; cases va with | int _ t => exact call_range_1 (fin 0 _ 1 _ _ _ _ rfl (by omega) (by decide) hb (by decide))
    · cases hr
  · split at hr
    · rename_i hb; cases hr
      cases vr with | cons va vr => cases vr with | cons vb vr => cases vr; cases va with | int _ t => cases vb with | int _ u => exact call_range_2 (fin _ _ 1 _ _ _ _ rfl (by omega) hb.2.1 hb.2.2 (by decide))
    · cases hr
  · split at hr
    · rename_i hb; cases hr
      cases vr with | cons va vr => cases vr with | cons vb vr => cases vr with | cons vc vr => cases vr; cases va with | int _ t => cases vb with | int _ u => cases vc with | int _ v =>
        exact call_range_3 (by omega) (fin _ _ _ _ _ _ _ rfl hb.2.2.2.1 hb.2.1 hb.2.2.1 hb.2.2.2.2) (.inl (PyProof.noPylong_small (by have := hb.2.2.2.2; unfold lim at this; omega)))
    · cases hr
  · cases hr

/-- the heap has grown, and nothing else -/
theorem Cont.junk {u : Value} {t : Nat} {h' : Heap} (k : Cont h₀ β s v H Q) (sr : SR h₀ β H s.heap) (hk : ∀ b o, s.heap.get? b = some o → h'.get? b = some o) (vr : VR β v u) : Q u { s with heap := h', toks := t } :=
  k u _ β (Step.of_heap hk) (sr.keeps hk) vr

theorem All2.rev {α γ : Type} {R : α → γ → Prop} {as : List α} {bs : List γ} (h : All2 R as bs) : All2 R as.reverse bs.reverse := by
  induction h with
  | nil => exact .nil
  | cons hr _ ih => rw [List.reverse_cons, List.reverse_cons]; exact ih.append (.cons hr .nil)

end
end Mine

namespace Mine
open PySem
set_option maxRecDepth 100000

section
variable {prog : Program} {w : World} {A : Around} {E : Value → Shared → Prop} {s : Shared} {h₀ : Heap} {β : List Addr} {H H' : Hp} {v : V} {Q : Value → Shared → Prop}

end
end Mine

namespace Mine
open PySem

section
variable {prog : Program} {w : World} {A : Around} {E : Value → Shared → Prop} {s : Shared} {h₀ : Heap} {β : List Addr} {H H' : Hp} {v : V} {Q : Value → Shared → Prop}

abbrev DP (β : List Addr) (e : Int × V) (kv : Int × Value) : Prop := e.1 = kv.1 ∧ VR β e.2 kv.2

theorem any_key : ∀ {es : List (Int × V)} {kvs : List (Int × Value)} (_ : All2 (DP β) es kvs) (k : Int), (es.any fun e => e.1 == k) = (kvs.any fun kv => decide (kv.1 = k)) := by
  intro es kvs h k
  induction h with
  | nil => rfl
  | cons h _ ih => rw [List.any_cons, List.any_cons, ih, h.1]; congr 1
theorem valueAt_any : ∀ (kvs : List (Int × Value)) (k : Int), (valueAt kvs k).isSome = kvs.any fun kv => decide (kv.1 = k)
  | [], _ => rfl
  | (a, u) :: kvs, k => by
    unfold valueAt
    rw [List.find?_cons, List.any_cons]
    by_cases e : a = k
    · simp [e]
    · have := valueAt_any kvs k
      unfold valueAt at this
      simp only [e, decide_false, Bool.false_or]
      exact this

theorem dictOf {r : Addr} {ob : Obj} {kvs : List (Int × Value)} (c : s.heap.get? r = some ob) (d : ∀ prog w, ob.IsDictOf (intKind prog w) kvs) : s.heap.DictOf (intKind prog w) r kvs := Heap.dictOf_iff.mpr ⟨ob, c, d prog w⟩

theorem p_inD {r : Addr} {ob : Obj} {kvs : List (Int × Value)} {es : List (Int × V)} {i : Int} {t : Tok} (a : (r == sysModules) = false) (c : s.heap.get? r = some ob) (d : ∀ prog w, ob.IsDictOf (intKind prog w) kvs) (e : All2 (DP β) es kvs)
    (k : Cont h₀ β s (.bool (es.any fun e => e.1 == i)) H Q) (sr : SR h₀ β H s.heap) : wpAny (model prog w) A (compareOp .In (.int i t) (.ref r)) Q E s := by
  refine wpAny_in_of (knd := intKind prog w) (k := i) (intKind_is prog w i t) a (dictOf c d).mapOf ?_
  rw [valueAt_any, ← any_key e]
  exact k.same sr (.bool _)
theorem p_notInD {r : Addr} {ob : Obj} {kvs : List (Int × Value)} {es : List (Int × V)} {i : Int} {t : Tok} (a : (r == sysModules) = false) (c : s.heap.get? r = some ob) (d : ∀ prog w, ob.IsDictOf (intKind prog w) kvs) (e : All2 (DP β) es kvs)
    (k : Cont h₀ β s (.bool (!es.any fun e => e.1 == i)) H Q) (sr : SR h₀ β H s.heap) : wpAny (model prog w) A (compareOp .NotIn (.int i t) (.ref r)) Q E s := by
  refine wpAny_notIn_of (knd := intKind prog w) (k := i) (intKind_is prog w i t) a (dictOf c d).mapOf ?_
  rw [valueAt_any, ← any_key e]
  exact k.same sr (.bool _)

theorem p_mkDict (hbig : sysModules < s.heap.objs.size) (k : Cont h₀ β s (.ref H.length) (H ++ [.dict []]) Q) (sr : SR h₀ β H s.heap) {env : PySem.Env} {pos : Pos} : wpAny (model prog w) A (eval (.Dict [] [] pos) env) Q E s := by
  refine wpAny_Dict_empty ?_
  have hn : s.heap.get? s.heap.objs.size = Option.none := get_none_of_le (Nat.le_refl _)
  have hp : β <+: β ++ [s.heap.objs.size] := List.prefix_append _ _
  refine k _ _ (β ++ [s.heap.objs.size]) ⟨⟨_, s.toks, rfl⟩, hp, fun b _ => .of fun o e => Heap.get?_push_of_some _ e, fun b hb => ?_⟩
    (sr.pushS hn (fun b o e => Heap.get?_push_of_some _ e) fun h0 => .dict ?_ h0 (Heap.get?_push_size _ rfl) (fun prog w => ⟨#[], 0, ⟨rfl, rfl, rfl⟩, rfl, ?_, ?_, ?_⟩) .nil (Nat.zero_le _)) (.ref ?_)
  · rcases List.mem_append.mp hb with q | q
    · exact .inl q
    · simp at q; subst q; exact .inr hn
  · exact beq_eq_false_iff_ne.mpr (Nat.ne_of_gt hbig)
  · intro e he; simp at he
  · exact .nil
  · exact List.nodup_nil
  · rw [sr.len]; simp

theorem put_rel {k : Int} {x : V} {u : Value} (hu : VR β x u) : ∀ {es : List (Int × V)} {kvs : List (Int × Value)}, All2 (DP β) es kvs → All2 (DP β) (dictPut es k x) (stored kvs k u) := by
  intro es kvs h
  unfold dictPut stored
  rw [any_key h]
  by_cases e : (kvs.any fun kv => decide (kv.1 = k)) = true
  · rw [if_pos e, if_pos e]
    clear e
    induction h with
    | nil => exact .nil
    | @cons a b as bs h _ ih =>
      refine .cons ?_ ih
      obtain ⟨a1, a2⟩ := a
      obtain ⟨b1, b2⟩ := b
      obtain ⟨h1, h2⟩ := h
      dsimp only at h1 h2 ⊢
      subst h1
      by_cases q : a1 = k
      · subst q; simp; exact ⟨rfl, hu⟩
      · have : (a1 == k) = false := beq_eq_false_iff_ne.mpr q
        simp only [this, q, if_false, Bool.false_eq_true]
        exact ⟨rfl, h2⟩
  · rw [if_neg e, if_neg e]
    exact h.append (.cons ⟨rfl, hu⟩ .nil)

theorem dictPut_len (es : List (Int × V)) (k : Int) (x : V) : (dictPut es k x).length ≤ es.length + 1 := by
  unfold dictPut
  split <;> simp

theorem dict_any {o : Obj} {kvs : List (Int × Value)} {p p' : Program} {w w' : World} (h : o.IsDictOf (intKind p w) kvs) : o.IsDictOf (intKind p' w') kvs := by
  obtain ⟨es, ep, h1, h2, h3, h4, h5⟩ := h
  refine ⟨es, ep, h1, h2, h3, ?_, h5⟩
  have : ∀ {l : List DictEntry} {kvs : List (Int × Value)}, Pairs (intKind p w) l kvs → Pairs (intKind p' w') l kvs := by
    intro l kvs h
    induction h with
    | nil => exact .nil
    | cons a b _ ih => exact .cons a b ih
  exact this h4

theorem p_setD {a : Nat} {r : Addr} {es : List (Int × V)} {ob : Obj} {kvs : List (Int × Value)} {i : Int} {t : Tok} {x : V} {u : Value} {Qu : Unit → Shared → Prop} (hr : β[a]? = some r) (a1 : (r == sysModules) = false) (b : h₀.get? r = Option.none) (c : s.heap.get? r = some ob) (d : ∀ prog w, ob.IsDictOf (intKind prog w) kvs) (e : All2 (DP β) es kvs) (hl : es.length < lim) (hu : VR β x u)
    (k : Cont h₀ β s .none (H.set a (.dict (dictPut es i x))) (fun _ s' => Qu () s')) (sr : SR h₀ β H s.heap) : wpAny (model prog w) A (setItem (.ref r) (.int i t) u) Qu E s := by
  refine wpAny_setItem_pairs (knd := intKind prog w) (k := i) (intKind_is prog w i t) (dictOf c d) (fun h' hd hs => ?_) (lim_line _ (by rw [← e.length]; omega))
  obtain ⟨ob', e', x'⟩ := Heap.dictOf_iff.mp hd
  refine k .none { s with heap := h', toks := s.toks + 1 } β ⟨⟨_, _, rfl⟩, List.prefix_refl _, fun b' hb => .of fun q eq => hs.extBut b' q (by rintro rfl; exact hb (List.mem_of_getElem? hr)) eq, fun _ hb => .inl hb⟩ ?_ .none
  refine sr.updS (h' := h') hr b (fun b' hb => ?_) (.dict a1 b e' (fun _ _ => dict_any x') (put_rel hu e) (Nat.le_trans (dictPut_len _ _ _) hl))
  exact hs.2 b' hb

theorem ints_pairs : ∀ {xs : List V} {us : List Value} {is : List Int}, VRs β xs us → xs.mapM asInt = some is → ∃ l : List (Int × Tok), us = l.map (fun p => Value.int p.1 p.2) ∧ l.map (·.1) = is := by
  intro xs us is hv
  induction hv generalizing is with
  | nil => intro h; rw [mapM_nil_some h]; exact ⟨[], rfl, rfl⟩
  | cons h _ ih =>
    intro hm
    obtain ⟨y, r, h1, h2, rfl⟩ := mapM_cons_some hm
    obtain ⟨l, rfl, e⟩ := ih h2
    cases h <;> simp only [asInt] at h1 <;> cases h1
    exact ⟨(_, _) :: l, rfl, by rw [List.map_cons, e]⟩

theorem p_min1 {a : Nat} {r : Addr} {xs : List V} {is : List Int} {m : Int} (hh : A.handled = none) (ha : H[a]? = some (.list xs)) (hr : β[a]? = some r) (hi : xs.mapM asInt = some is) (hm : minL is = some m)
    (k : Cont h₀ β s (.int m) H Q) (sr : SR h₀ β H s.heap) : wpAny (model prog w) A (call (.builtin "min") [.ref r]) Q E s := by
  obtain ⟨us, n, _, e, vr, _⟩ := sr.list ha hr
  obtain ⟨l, rfl, rfl⟩ := ints_pairs vr hi
  obtain ⟨mm, ml⟩ := minL_spec hm
  have hne : 0 < l.toArray.size := by
    cases l with
    | nil => cases hm
    | cons _ _ => simp
  refine min_intList (xs := l.toArray) hh ⟨_, e, rfl, n, by simp [intItems]⟩ hne fun v h' tk hv hk => ?_
  obtain ⟨t, rfl⟩ := intItems_at hv
  obtain ⟨b1, b2⟩ := argBest_lt (numAt l.toArray) (l.toArray.size - 1)
  have hin : ∀ j, j < l.length → numAt l.toArray j ∈ l.map (·.1) := fun j hj => by
    simp only [numAt, List.getElem?_toArray, List.getElem?_eq_getElem hj, Option.map, Option.getD]
    exact List.mem_map.mpr ⟨_, List.getElem_mem hj, rfl⟩
  have hsz : l.toArray.size = l.length := by simp
  have e1 : numAt l.toArray (argBest (fun i j => decide (numAt l.toArray i < numAt l.toArray j)) (l.toArray.size - 1)) = m := by
    refine Int.le_antisymm ?_ (ml _ (hin _ (by omega)))
    obtain ⟨p, hp, ep⟩ := List.mem_map.mp mm
    obtain ⟨j, hj, ej⟩ := List.mem_iff_getElem.mp hp
    have := b2 j (by omega)
    have e2 : numAt l.toArray j = m := by simp [numAt, hj, ej, ep]
    omega
  rw [e1]
  exact k.junk sr hk (.int _ _)

theorem bools_of : ∀ {xs : List V} {us : List Value} {bs : List Bool}, VRs β xs us → xs.mapM asBool = some bs → us = bs.map Value.bool := by
  intro xs us bs hv
  induction hv generalizing bs with
  | nil => intro h; rw [mapM_nil_some h]; rfl
  | cons h _ ih =>
    intro hm
    obtain ⟨y, r, h1, h2, rfl⟩ := mapM_cons_some hm
    rw [ih h2]
    cases h <;> simp only [asBool] at h1 <;> cases h1
    rfl

theorem p_any {a : Nat} {r : Addr} {xs : List V} {bs : List Bool} (hh : A.handled = none) (ha : H[a]? = some (.list xs)) (hr : β[a]? = some r) (hi : xs.mapM asBool = some bs)
    (k : Cont h₀ β s (.bool (bs.any id)) H Q) (sr : SR h₀ β H s.heap) : wpAny (model prog w) A (call (.builtin "any") [.ref r]) Q E s := by
  obtain ⟨us, n, _, e, vr, _⟩ := sr.list ha hr
  have := bools_of vr hi
  subst this
  have hl : s.heap.IsList r (bs.map Value.bool).toArray := ⟨_, e, rfl, n, rfl⟩
  have hne : r ≠ s.heap.objs.size := Nat.ne_of_lt (Heap.lt_size e)
  refine call_any_walk (wpAny_pyIter_list hl ⟨s.heap.objs.size, _, _, _, _, _, fun i => bs.getD i false, rfl, Walks.list (A := A.in1) hh _ r hne (bs.map Value.bool).toArray, ⟨⟨_, Heap.get?_push_size _ rfl, rfl, rfl⟩, hl.push _⟩, fun i v s' Q' E' hv hQ => ?_, fun h' tk hk => ?_⟩)
  · simp only [List.getElem?_toArray, List.getElem?_map, Option.map_eq_some_iff] at hv
    obtain ⟨b, hb, rfl⟩ := hv
    have : bs.getD i false = b := by rw [List.getD_eq_getElem?_getD, hb]; rfl
    dsimp only at hQ
    rw [this] at hQ
    exact wpAny_truthy_bool hQ
  · have ea : ((List.range (bs.map Value.bool).toArray.size).any fun i => bs.getD i false) = bs.any id := by
      rw [List.size_toArray, List.length_map]
      rw [Bool.eq_iff_iff, List.any_eq_true, List.any_eq_true]
      constructor
      · rintro ⟨i, hi, e⟩
        have hi : i < bs.length := by simpa using hi
        refine ⟨bs[i], List.getElem_mem hi, ?_⟩
        rw [List.getD_eq_getElem?_getD, List.getElem?_eq_getElem hi] at e; exact e
      · rintro ⟨x, hx, e⟩
        obtain ⟨i, hi, rfl⟩ := List.mem_iff_getElem.mp hx
        refine ⟨i, by simpa using hi, ?_⟩
        rw [List.getD_eq_getElem?_getD, List.getElem?_eq_getElem hi]; exact e
    rw [ea]
    refine k.junk sr (fun b o eb => hk b o (fun hm => ?_) (Heap.get?_push_of_some _ eb)) (.bool _)
    simp at hm; subst hm; exact Nat.lt_irrefl _ (Heap.lt_size eb)
end
end Mine

namespace Mine
open PySem

section
variable {prog : Program} {w : World} {A : Around} {E : Value → Shared → Prop} {s : Shared} {env : PySem.Env} {Q : Value → Shared → Prop} {P : Prog} {fs : Tab} {mg mb : Str → Option Value} {sc : Scope} {h₀ : Heap} {β : List Addr} {H : Hp} {n : Nat}

theorem vrs1 {vs : List V} {u : Value} (h : VRs β vs [u]) : ∃ v, vs = [v] ∧ VR β v u := by
  cases h with | cons a b => cases b; exact ⟨_, rfl, a⟩
theorem vrs2 {vs : List V} {u u' : Value} (h : VRs β vs [u, u']) : ∃ v v', vs = [v, v'] ∧ VR β v u ∧ VR β v' u' := by
  cases h with | cons a b => cases b with | cons b c => cases c; exact ⟨_, _, rfl, a, b⟩
theorem vrs3 {vs : List V} {u u' u'' : Value} (h : VRs β vs [u, u', u'']) : ∃ v v' v'', vs = [v, v', v''] ∧ VR β v u ∧ VR β v' u' ∧ VR β v'' u'' := by
  cases h with | cons a b => cases b with | cons b c => cases c with | cons c d => cases d; exact ⟨_, _, _, rfl, a, b, c⟩

theorem add_sound {a b : V} {ua ub : Value} {v : V} {H' : Hp} (h : addV a b H = some (v, H')) (ha : VR β a ua) (hb : VR β b ub) (k : Cont h₀ β s v H' Q) (sr : SR h₀ β H s.heap) :
    wpAny (model prog w) A (binaryOp .Add ua ub) Q E s := by
  cases ha with
  | int i t =>
    cases hb with
    | int j u => cases h; exact p_addI k sr
    | _ => exact no_ns h
  | str x t =>
    cases hb with
    | str y u =>
      change ite _ _ _ = _ at h
      split at h
      · rename_i hl; cases h; exact p_addS hl k sr
      · exact no_ns h
    | _ => exact no_ns h
  | ref ea =>
    cases hb with
    | ref eb =>
      obtain ⟨xs, e1, h⟩ := Option.bind_eq_some_iff.mp h
      obtain ⟨ys, e2, h⟩ := Option.bind_eq_some_iff.mp h
      split at h
      · rename_i hl; cases h
        exact p_addL (listOf_some e1) (listOf_some e2) ea eb hl k sr
      · exact no_ns h
    | _ => exact no_ns h
  | _ => exact no_ns h

theorem mul_sound {a b : V} {ua ub : Value} {v : V} {H' : Hp} (h : mulV a b H = some (v, H')) (ha : VR β a ua) (hb : VR β b ub) (k : Cont h₀ β s v H' Q) (sr : SR h₀ β H s.heap) :
    wpAny (model prog w) A (binaryOp .Mult ua ub) Q E s := by
  cases ha with
  | int i t =>
    cases hb with
    | int j u =>
      change ite _ _ _ = _ at h
      split at h
      · rename_i hl; cases h
        simp only [Bool.and_eq_true, decide_eq_true_eq] at hl
        exact p_mulI hl.1 k sr
      · exact no_ns h
    | _ => exact no_ns h
  | ref ea =>
    cases hb with
    | int j u =>
      obtain ⟨xs, e1, h⟩ := Option.bind_eq_some_iff.mp h
      cases xs with
      | nil => exact no_ns h
      | cons x r =>
        cases r with
        | cons _ _ => exact no_ns h
        | nil =>
          change ite _ _ _ = _ at h
          split at h
          · rename_i hl; cases h
            exact p_mulL (listOf_some e1) ea hl k sr
          · exact no_ns h
    | _ => exact no_ns h
  | _ => exact no_ns h

theorem bin_sound {o : Bin} {a b : V} {ua ub : Value} {v : V} {H' : Hp} (h : binV o a b H = some (v, H')) (ha : VR β a ua) (hb : VR β b ub) (k : Cont h₀ β s v H' Q) (sr : SR h₀ β H s.heap) :
    wpAny (model prog w) A (binaryOp (binOf o) ua ub) Q E s := by
  cases o with
  | add => exact add_sound h ha hb k sr
  | mul => exact mul_sound h ha hb k sr
  | sub =>
    cases ha with
    | int i t =>
      cases hb with
      | int j u => cases h; exact p_sub k sr
      | _ => exact no_ns h
    | _ => exact no_ns h
  | mod =>
    cases ha with
    | int i t =>
      cases hb with
      | int j u =>
        change ite _ _ _ = _ at h
        split at h
        · exact no_ns h
        · rename_i hj; cases h; exact p_mod hj k sr
      | _ => exact no_ns h
    | _ => exact no_ns h
  | fdiv =>
    cases ha with
    | int i t =>
      cases hb with
      | int j u =>
        change ite _ _ _ = _ at h
        split at h
        · exact no_ns h
        · rename_i hj; cases h; exact p_fdiv (by omega) (by omega) k sr
      | _ => exact no_ns h
    | _ => exact no_ns h

theorem mem_sound {x c : V} {ux uc : Value} {b : Bool} (h : mem H x c = some b) (hx : VR β x ux) (hc : VR β c uc) (hu : A.units + 100 < cLine) (sr : SR h₀ β H s.heap) :
    (∀ k : Cont h₀ β s (.bool b) H Q, wpAny (model prog w) A (compareOp .In ux uc) Q E s) ∧ (∀ k : Cont h₀ β s (.bool (!b)) H Q, wpAny (model prog w) A (compareOp .NotIn ux uc) Q E s) := by
  cases hc with
  | @ref a r hr =>
    have key : ∀ xs, seqOf H a = some xs → inD H x xs = some b → (∀ k : Cont h₀ β s (.bool b) H Q, wpAny (model prog w) A (compareOp .In ux (.ref r)) Q E s) ∧ (∀ k : Cont h₀ β s (.bool (!b)) H Q, wpAny (model prog w) A (compareOp .NotIn ux (.ref r)) Q E s) :=
      fun xs e h => ⟨fun k => p_in hx e hr h hu k sr, fun k => p_notIn hx e hr h hu k sr⟩
    obtain ⟨o, e, h⟩ := Option.bind_eq_some_iff.mp h
    cases o with
    | list xs => exact key xs (by unfold seqOf; rw [e]) h
    | frozen xs => exact key xs (by unfold seqOf; rw [e]) h
    | tuple xs => exact key xs (by unfold seqOf; rw [e]) h
    | dict es =>
      obtain ⟨r', e', sl⟩ := sr.at e
      rw [hr] at e'; cases e'
      cases sl with
      | own a b c => cases c
      | dict a b c d e' l =>
        cases hx with
        | int i t => cases h; exact ⟨fun k => p_inD a c d e' k sr, fun k => p_notInD a c d e' k sr⟩
        | _ => exact no_ns h
    | _ => exact no_ns h
  | _ => exact no_ns h

theorem cmp_sound {o : Cmp} {a b : V} {ua ub : Value} {r : Bool} (h : cmpV o a b H = some r) (ha : VR β a ua) (hb : VR β b ub) (hu : A.units + 100 < cLine) (k : Cont h₀ β s (.bool r) H Q) (sr : SR h₀ β H s.heap) :
    wpAny (model prog w) A (compareOp (cmpOf o) ua ub) Q E s := by
  cases o with
  | eq => exact p_eq ha hb h hu k sr
  | ne =>
    obtain ⟨r', e, rfl⟩ := Option.map_eq_some_iff.mp h
    exact p_ne ha hb e hu k sr
  | lt =>
    cases ha with
    | int i t =>
      cases hb with
      | int j u => cases h; exact p_lt k sr
      | _ => exact no_ns h
    | _ => exact no_ns h
  | le =>
    cases ha with
    | int i t =>
      cases hb with
      | int j u => cases h; exact p_le k sr
      | _ => exact no_ns h
    | _ => exact no_ns h
  | gt =>
    cases ha with
    | int i t =>
      cases hb with
      | int j u => cases h; exact p_gt k sr
      | _ => exact no_ns h
    | _ => exact no_ns h
  | ge =>
    cases ha with
    | int i t =>
      cases hb with
      | int j u => cases h; exact p_ge k sr
      | _ => exact no_ns h
    | _ => exact no_ns h
  | is_ =>
    cases hb with
    | none => cases h; exact p_isNone ha k sr
    | bool c =>
      cases c with
      | true => cases h; exact p_isTrue ha k sr
      | false => exact no_ns h
    | _ => exact no_ns h
  | isNot =>
    cases hb with
    | none => cases h; exact p_isNotNone ha k sr
    | bool c =>
      cases c with
      | true => cases h; exact p_isNotTrue ha k sr
      | false => exact no_ns h
    | _ => exact no_ns h
  | in_ => exact (mem_sound h ha hb hu sr).1 k
  | notIn =>
    obtain ⟨r', e, rfl⟩ := Option.map_eq_some_iff.mp h
    exact (mem_sound e ha hb hu sr).2 k

/-- the state behind the operands -/
inductive Ready (h₀ : Heap) (p : Prim) (Q : Value → Shared → Prop) (us : List Value) (s1 : Shared) : Prop
  | mk (β1 : List Addr) (vs : List V) (H1 : Hp) (v : V) (H2 : Hp) : prim p vs H1 = some (v, H2) → VRs β1 vs us → SR h₀ β1 H1 s1.heap → Cont h₀ β1 s1 v H2 Q → Ready h₀ p Q us s1

theorem Amb.room (a : Amb n A) : A.units + 100 < cLine := by have := a.units; unfold cLine; omega

theorem slice_sound {β1 : List Addr} {H1 H2 : Hp} {s : Shared} {v1 v : V} {ua vl vu : Value} {lo hi : Option Int} (hpr : sliceV v1 lo hi H1 = some (v, H2)) (va : VR β1 v1 ua) (pl : IsPart vl lo) (pu : IsPart vu hi) (k : Cont h₀ β1 s v H2 Q) (sr : SR h₀ β1 H1 s.heap) :
    SubscriptOn (model prog w) A ua (.ref s.heap.objs.size) Q E { s with heap := s.heap.push { cls := .type "slice", data := .fields #[vl, vu, .none] } } := by
  cases va with
  | ref ea =>
    obtain ⟨ys, e, hpr⟩ := Option.bind_eq_some_iff.mp hpr
    obtain ⟨o, e, e2⟩ := Option.bind_eq_some_iff.mp e
    cases hpr
    cases o with
    | list xs => cases e2; exact p_sliceL (.inl e) ea pl pu k sr
    | frozen xs => cases e2; exact p_sliceL (.inr e) ea pl pu k sr
    | _ => cases e2
  | _ => exact no_ns hpr

theorem VR.ref_inv {β : List Addr} {a : Nat} {u : Value} (h : VR β (.ref a) u) : ∃ r, u = .ref r ∧ β[a]? = some r := by
  cases h with | ref e => exact ⟨_, rfl, e⟩
theorem VR.int_inv {β : List Addr} {i : Int} {u : Value} (h : VR β (.int i) u) : ∃ t, u = .int i t := by
  cases h with | int _ t => exact ⟨t, rfl⟩
theorem on1_vr {α : Type} {β : List Addr} {vs : List V} {us : List Value} {g : V → Option α} {r : α} (vr : VRs β vs us) (h : on1 vs g = some r) : ∃ v u, us = [u] ∧ VR β v u ∧ g v = some r := by
  match vs, h with
  | [v], h =>
    cases vr with
    | cons a b => cases b; exact ⟨v, _, rfl, a, h⟩
theorem on1r_vr {α : Type} {β : List Addr} {vs : List V} {us : List Value} {g : Nat → Option α} {r : α} (vr : VRs β vs us) (h : on1r vs g = some r) : ∃ a u, us = [.ref u] ∧ β[a]? = some u ∧ g a = some r := by
  match vs, h with
  | [.ref a], h =>
    cases vr with
    | cons x b =>
      cases b
      obtain ⟨u, rfl, e⟩ := x.ref_inv
      exact ⟨a, u, rfl, e, h⟩
theorem sl_inv1 {lo : Bool} {v1 v2 : V} {H : Hp} {r : V × Hp} (h : prim (.slice lo (!lo)) [v1, v2] H = some r) : ∃ j, v2 = .int j ∧ sliceV v1 (if lo then some j else none) (if lo then none else some j) H = some r := by
  cases v2 with
  | int j => cases lo <;> exact ⟨j, rfl, h⟩
  | _ => cases lo <;> exact no_ns h

theorem op_sound {p : Prim} {x : Expr} {xs : List Expr} (ho : OpA sc p x xs) (hp : xs.all plainE = true) (f₀ : Frm P fs mg mb sc env h₀) (hk₀ : ∀ b o, h₀.get? b = some o → s.heap.get? b = some o) (am : Amb n A)
    (h : wpList prog w A env xs (Ready h₀ p Q) E s) : wpAny (model prog w) A (eval x env) Q E s := by
  have f := f₀.keeps hk₀
  cases ho with
  | bin o =>
    refine wpAny_BinOp (wpAny_mono h (fun a s1 h1 => wpAny_mono h1 (fun b s2 h2 => ?_) fun _ _ e => e) fun _ _ e => e)
    obtain ⟨β1, vs, H1, v, H2, hpr, vr, sr, k⟩ := h2
    obtain ⟨v1, v2, rfl, va, vb⟩ := vrs2 vr
    exact bin_sound hpr va vb k sr
  | neg =>
    refine wpAny_UnaryOp (wpAny_mono h (fun a s1 h1 => ?_) fun _ _ e => e)
    obtain ⟨β1, vs, H1, v, H2, hpr, vr, sr, k⟩ := h1
    obtain ⟨v1, rfl, va⟩ := vrs1 vr
    cases va with
    | int i t => cases hpr; exact p_neg k sr
    | _ => exact no_ns hpr
  | cmp o hm =>
    refine wpAny_Compare1 (wpAny_mono h (fun a s1 h1 => wpAny_mono h1 (fun b s2 h2 => ?_) fun _ _ e => e) fun _ _ e => e) hm
    obtain ⟨β1, vs, H1, v, H2, hpr, vr, sr, k⟩ := h2
    obtain ⟨v1, v2, rfl, va, vb⟩ := vrs2 vr
    obtain ⟨r, hr, e⟩ := Option.map_eq_some_iff.mp hpr
    cases e
    exact cmp_sound hr va vb am.room k sr
  | len hg =>
    refine f.callB hg rfl hp (wpList_mono h fun us s1 h1 => ?_)
    obtain ⟨β1, vs, H1, v, H2, hpr, vr, sr, k⟩ := h1
    obtain ⟨v1, u1, rfl, va, hpr⟩ := on1_vr vr hpr
    obtain ⟨m, hm, e⟩ := Option.map_eq_some_iff.mp hpr
    cases e
    cases va with
    | str x t =>
      change ite _ _ _ = _ at hm
      split at hm
      · rename_i hl; cases hm; exact p_lenS hl k sr
      · exact no_ns hm
    | ref e =>
      obtain ⟨ys, hy, rfl⟩ := Option.map_eq_some_iff.mp hm
      exact p_lenL hy e k sr
    | _ => exact no_ns hm
  | isinst t hg hT ht =>
    rename_i x _ _ _
    have hpx : plainE x = true := by simpa using hp
    refine f.callB hg rfl (by simp [hpx]; rfl) ?_
    refine wpAny_mono h (fun u s1 h1 => ?_) fun _ _ e => e
    obtain ⟨β1, vs, H1, v, H2, hpr, vr, sr, k⟩ := h1
    have f1 : Frm P fs mg mb sc env s1.heap := f₀.keeps sr.kept
    have hb : bltn t = some (.type t) := by
      simp only [plainTypes, List.mem_cons, List.not_mem_nil, or_false] at ht
      rcases ht with rfl | rfl | rfl | rfl | rfl <;> rfl
    refine f1.builtin hT hb ?_
    obtain ⟨v1, rfl, va⟩ := vrs1 vr
    cases hpr
    exact p_isinst va ht k sr
  | list hg =>
    refine f.callT hg rfl hp (wpList_mono h fun us s1 h1 => ?_)
    obtain ⟨β1, vs, H1, v, H2, hpr, vr, sr, k⟩ := h1
    obtain ⟨a, r, rfl, e, hpr⟩ := on1r_vr vr hpr
    obtain ⟨ys, hy, hz⟩ := Option.bind_eq_some_iff.mp hpr
    cases hz
    exact p_list hy e k sr
  | item hs =>
    refine sub_any hs (wpAny_mono h (fun a s1 h1 => wpAny_mono h1 (fun b s2 h2 => ?_) fun _ _ e => e) fun _ _ e => e)
    obtain ⟨β1, vs, H1, v, H2, hpr, vr, sr, k⟩ := h2
    obtain ⟨v1, v2, rfl, va, vb⟩ := vrs2 vr
    obtain ⟨y, hy, e⟩ := Option.map_eq_some_iff.mp hpr
    cases e
    cases vb with
    | int i t =>
      cases va with
      | ref ea =>
        obtain ⟨ys, h1, h2⟩ := Option.bind_eq_some_iff.mp hy
        obtain ⟨kk, h3, h4⟩ := Option.bind_eq_some_iff.mp h2
        exact list_on sr h1 ea (p_itemL h1 ea h3 h4 k sr)
      | _ => exact no_ns hy
    | _ => exact no_ns hy
  | listRange hl hg =>
    refine f.callT hl rfl rfl ?_
    refine f.callT hg rfl hp (wpList_mono h fun us s1 h1 => ?_)
    obtain ⟨β1, vs, H1, v, H2, hpr, vr, sr, k⟩ := h1
    obtain ⟨is, hi, hz⟩ := Option.bind_eq_some_iff.mp hpr
    split at hz
    · rename_i hlen; cases hz
      exact p_listRange am.handled vr hi hlen k sr
    · exact no_ns hz
  | mkDict =>
    obtain ⟨β1, vs, H1, v, H2, hpr, vr, sr, k⟩ := (h : Ready h₀ .mkDict Q [] s)
    cases vr
    cases hpr
    exact p_mkDict (PyProof.Rows.modules_low f.names.nolimit) k sr
  | min1 hg =>
    refine f.callB hg rfl hp (wpList_mono h fun us s1 h1 => ?_)
    obtain ⟨β1, vs, H1, v, H2, hpr, vr, sr, k⟩ := h1
    obtain ⟨a, r, rfl, e, hpr⟩ := on1r_vr vr hpr
    obtain ⟨xs, hx, hz⟩ := Option.bind_eq_some_iff.mp hpr
    obtain ⟨is, hi, hz⟩ := Option.bind_eq_some_iff.mp hz
    obtain ⟨m, hm, hz⟩ := Option.map_eq_some_iff.mp hz
    cases hz
    exact p_min1 am.handled (listOf_some hx) e hi hm k sr
  | any hg =>
    refine f.callB hg rfl hp (wpList_mono h fun us s1 h1 => ?_)
    obtain ⟨β1, vs, H1, v, H2, hpr, vr, sr, k⟩ := h1
    obtain ⟨a, r, rfl, e, hpr⟩ := on1r_vr vr hpr
    obtain ⟨xs, hx, hz⟩ := Option.bind_eq_some_iff.mp hpr
    obtain ⟨bs, hi, hz⟩ := Option.map_eq_some_iff.mp hz
    cases hz
    exact p_any am.handled (listOf_some hx) e hi k sr
  | sliceTo =>
    refine sub_slice (wpAny_mono h (fun a s1 h1 => wpAny_Slice (wpAny_pure (wpAny_mono h1 (fun b s2 h2 => wpAny_pure ?_) fun _ _ e => e))) fun _ _ e => e)
    obtain ⟨β1, vs, H1, v, H2, hpr, vr, sr, k⟩ := h2
    obtain ⟨v1, v2, rfl, va, vb⟩ := vrs2 vr
    obtain ⟨j, rfl, hpr⟩ := sl_inv1 (lo := false) hpr
    obtain ⟨t, rfl⟩ := vb.int_inv
    exact slice_sound hpr va .none (.int _ _) k sr
  | sliceFrom =>
    refine sub_slice (wpAny_mono h (fun a s1 h1 => wpAny_Slice (wpAny_mono h1 (fun b s2 h2 => wpAny_pure (wpAny_pure ?_)) fun _ _ e => e)) fun _ _ e => e)
    obtain ⟨β1, vs, H1, v, H2, hpr, vr, sr, k⟩ := h2
    obtain ⟨v1, v2, rfl, va, vb⟩ := vrs2 vr
    obtain ⟨j, rfl, hpr⟩ := sl_inv1 (lo := true) hpr
    obtain ⟨t, rfl⟩ := vb.int_inv
    exact slice_sound hpr va (.int _ _) .none k sr
  | sliceBoth =>
    refine sub_slice (wpAny_mono h (fun a s1 h1 => wpAny_Slice (wpAny_mono h1 (fun b s2 h2 => wpAny_mono h2 (fun c s3 h3 => wpAny_pure ?_) fun _ _ e => e) fun _ _ e => e)) fun _ _ e => e)
    obtain ⟨β1, vs, H1, v, H2, hpr, vr, sr, k⟩ := h3
    obtain ⟨v1, v2, v3, rfl, va, vb, vc⟩ := vrs3 vr
    cases vb with
    | int j tk =>
      cases vc with
      | int j' tk' => exact slice_sound hpr va (.int _ _) (.int _ _) k sr
      | _ => exact no_ns hpr
    | _ => exact no_ns hpr
  | mkList =>
    refine wpAny_List (wpList_spliced hp (wpList_mono h fun us s1 h1 => ?_))
    obtain ⟨β1, vs, H1, v, H2, hpr, vr, sr, k⟩ := h1
    rw [p_mkL] at hpr
    split at hpr
    · rename_i hl
      cases hpr
      exact ⟨by rw [← vr.length]; exact lim_line _ hl, p_mkList vr hl k sr⟩
    · exact no_ns hpr
  | mkTuple =>
    refine wpAny_Tuple (wpList_spliced hp (wpList_mono h fun us s1 h1 => ?_))
    obtain ⟨β1, vs, H1, v, H2, hpr, vr, sr, k⟩ := h1
    rw [p_mkT] at hpr
    split at hpr
    · rename_i hl
      cases hpr
      exact ⟨by rw [← vr.length]; exact lim_line _ hl, p_mkTuple vr hl k sr⟩
    · exact no_ns hpr

end
end Mine

namespace Mine
open PySem

inductive PE (h₀ : Heap) (β : List Addr) (s : Shared) (Q : Post) (u : Value) (s' : Shared) : Prop
  | mk (β' : List Addr) (v : V) (H' : Hp) : Q v H' → Step β s β' s' → SR h₀ β' H' s'.heap → VR β' v u → PE h₀ β s Q u s'
inductive PEs (h₀ : Heap) (β : List Addr) (s : Shared) (Q : List V → Hp → Prop) (us : List Value) (s' : Shared) : Prop
  | mk (β' : List Addr) (vs : List V) (H' : Hp) : Q vs H' → Step β s β' s' → SR h₀ β' H' s'.heap → VRs β' vs us → PEs h₀ β s Q us s'
inductive PB (h₀ : Heap) (β : List Addr) (s : Shared) (k : Bool → Hp → Prop) (b : Bool) (s' : Shared) : Prop
  | mk (β' : List Addr) (H' : Hp) : k b H' → Step β s β' s' → SR h₀ β' H' s'.heap → PB h₀ β s k b s'

theorem PE.after {h₀ : Heap} {β β' : List Addr} {s s' s'' : Shared} {Q : Post} {u : Value} (t : Step β s β' s') (h : PE h₀ β' s' Q u s'') : PE h₀ β s Q u s'' :=
  let ⟨b, v, H, a, c, d, e⟩ := h; ⟨b, v, H, a, t.trans c, d, e⟩
theorem PB.after {h₀ : Heap} {β β' : List Addr} {s s' s'' : Shared} {k : Bool → Hp → Prop} {u : Bool} (t : Step β s β' s') (h : PB h₀ β' s' k u s'') : PB h₀ β s k u s'' :=
  let ⟨b, H, a, c, d⟩ := h; ⟨b, H, a, t.trans c, d⟩
/-- the frame's own objects -/
noncomputable def Own (env : PySem.Env) (b : Addr) : Prop := b = env.locals ∨ ∃ x, env.cells.lookup x = some b

/-- a table of names stays one -/
noncomputable def DAt (h h' : Heap) (b : Addr) : Prop := ∀ o, h.get? b = some o → ∃ o', h'.get? b = some o' ∧ ((∃ es ep, o.data = .dict es ep) → ∃ es ep, o'.data = .dict es ep)
theorem KAt.d {h h' : Heap} {b : Addr} (x : KAt h h' b) : DAt h h' b := fun o e => let ⟨o', e', k⟩ := x o e; ⟨o', e', fun ⟨es, ep, q⟩ => ⟨es, ep, k.data.trans q⟩⟩
theorem DAt.trans {h h' h'' : Heap} {b : Addr} (x : DAt h h' b) (y : DAt h' h'' b) : DAt h h'' b := fun o e =>
  let ⟨o1, e1, k1⟩ := x o e; let ⟨o2, e2, k2⟩ := y o1 e1; ⟨o2, e2, fun q => k2 (k1 q)⟩
theorem DAt.live {h h' : Heap} {b : Addr} (x : DAt h h' b) (e : ∃ o, h.get? b = some o) : ∃ o, h'.get? b = some o :=
  let ⟨o, e⟩ := e; let ⟨o', e', _⟩ := x o e; ⟨o', e'⟩

structure StepF (env : PySem.Env) (β : List Addr) (s : Shared) (β' : List Addr) (s' : Shared) : Prop where
  same : ∃ h tk, s' = { s with heap := h, toks := tk }
  grow : β <+: β'
  keep : ∀ b, b ∉ β → ¬ Own env b → KAt s.heap s'.heap b
  fresh : ∀ b ∈ β', b ∈ β ∨ s.heap.get? b = Option.none
  own : ∀ b, Own env b → DAt s.heap s'.heap b

theorem Step.toF {env : PySem.Env} {β β' : List Addr} {s s' : Shared} (t : Step β s β' s') (hd : ∀ b, Own env b → b ∉ β) : StepF env β s β' s' :=
  ⟨t.same, t.grow, fun b hb _ => t.keep b hb, t.fresh, fun b ho => (t.keep b (hd b ho)).d⟩

theorem StepF.refl (env : PySem.Env) (β : List Addr) (s : Shared) : StepF env β s β s := ⟨⟨s.heap, s.toks, rfl⟩, List.prefix_refl _, fun _ _ _ => .of fun _ e => e, fun _ hb => .inl hb, fun _ _ => (KAt.of fun _ e => e).d⟩

theorem StepF.trans {env : PySem.Env} {β₁ β₂ β₃ : List Addr} {s₁ s₂ s₃ : Shared} (x : StepF env β₁ s₁ β₂ s₂) (y : StepF env β₂ s₂ β₃ s₃) : StepF env β₁ s₁ β₃ s₃ := by
  obtain ⟨⟨h, t, rfl⟩, g, k, f, w⟩ := x
  obtain ⟨⟨h', t', rfl⟩, g', k', f', w'⟩ := y
  refine ⟨⟨h', t', rfl⟩, g.trans g', fun b hb ho o e => KAt.trans (k b hb ho) (k' b (fun hm => ?_) ho) o e, fun b hb => ?_, fun b ho => (w b ho).trans (w' b ho)⟩
  · rcases f b hm with q | q
    · exact hb q
    · (first | exact clash e q | exact clash q e | (rw [e] at q; cases q))
  · rcases f' b hb with q | q
    · exact f b q
    · by_cases hm : b ∈ β₁
      · exact .inl hm
      · refine .inr ?_
        have q : h.get? b = Option.none := q
        cases e : s₁.heap.get? b with
        | none => rfl
        | some o =>
          have : ∃ o', h.get? b = some o' := by
            by_cases ho : Own env b
            · exact (w b ho).live ⟨o, e⟩
            · exact (k b hm ho).live ⟨o, e⟩
          obtain ⟨o', e'⟩ := this; (first | exact clash e' q | exact clash q e' | (rw [e'] at q; cases q))

/-- what stood, stands -/
theorem StepF.live {env : PySem.Env} {h₀ : Heap} {β β' : List Addr} {H' : Hp} {s s' : Shared} (t : StepF env β s β' s') (sr : SR h₀ β' H' s'.heap) {b : Addr} (hx : ∃ o, s.heap.get? b = some o) : ∃ o, s'.heap.get? b = some o := by
  by_cases hm : b ∈ β
  · exact sr.mem (t.grow.subset hm)
  · by_cases ho : Own env b
    · exact (t.own b ho).live hx
    · exact (t.keep b hm ho).live hx

theorem ER.disj {env : PySem.Env} {ρ : Env} {β : List Addr} {h : Heap} (x : ER env ρ β h) : ∀ b, Own env b → b ∉ β := fun b hb => by
  rcases hb with rfl | ⟨y, hy⟩
  · exact x.locs
  · exact (x.cells y b hy).1

/-- the frames on the stack -/
noncomputable def FrOK (_ : Heap) (_ : List PySem.Env) (_ : List Addr) (_ : Heap) : Prop := True
theorem FrOK.step {h₀ : Heap} {l : List PySem.Env} {β β' : List Addr} {s s' : Shared} (_ : FrOK h₀ l β s.heap) (_ : Step β s β' s') : FrOK h₀ l β' s'.heap := trivial
noncomputable def ExcK (_ : Heap) (_ : Str → Option Value) (_ : PySem.Env) (_ : List Addr) (_ : Shared) (X : XP) (_ : Value → Shared → Prop) : Prop := ∀ c H, X c H → False
theorem ExcK.step {h₀ : Heap} {mg : Str → Option Value} {env : PySem.Env} {β β' : List Addr} {s s' : Shared} {X : XP} {E : Value → Shared → Prop} (x : ExcK h₀ mg env β s X E) (_ : StepF env β s β' s') {H' : Hp} (_ : SR h₀ β' H' s'.heap) : ExcK h₀ mg env β' s' X E := x

/-- the calls of the text's own defs -/
noncomputable def CallOK (prog : Program) (w : World) (h₀ : Heap) (fs : Tab) (mg : Str → Option Value) (n : Nat) (call : String → List V → Hp → Post → XP → Prop) : Prop :=
  ∀ f ∈ fs.fns, ∀ r, mg (Str.ofString f) = some (.ref r) → ∀ vs H Q X, call f vs H Q X → ∀ A β s E us, Amb n A → SR h₀ β H s.heap → VRs β vs us →
    (∃ l, A.frames = some l ∧ FrOK h₀ l β s.heap) → (∀ c H', X c H' → False) →
    wpAny (model prog w) A (PySem.call (.ref r) us) (PE h₀ β s Q) E s

section
variable {prog : Program} {w : World} {h₀ : Heap} {P : Prog} {fs : Tab} {mg mb : Str → Option Value} {n : Nat} {C : Ctx}

/-- everything about one evaluation's start -/
structure At (P : Prog) (fs : Tab) (mg mb : Str → Option Value) (h₀ : Heap) (n : Nat) (sc : Scope) (env : PySem.Env) (ρ : Env) (β : List Addr) (H : Hp) (s : Shared) (A : Around) (X : XP) (E' : Value → Shared → Prop) : Prop where
  names : Names P fs mg mb h₀
  amb : Amb n A
  sr : SR h₀ β H s.heap
  er : ER env ρ β s.heap
  sc : ScR sc env
  frs : ∃ l, A.frames = some l ∧ FrOK h₀ l β s.heap
  exc : ExcK h₀ mg env β s X E'

theorem At.frm {sc env ρ β H s A} {X : XP} {E' : Value → Shared → Prop} (x : At P fs mg mb h₀ n sc env ρ β H s A X E') : Frm P fs mg mb sc env h₀ := ⟨x.names, x.er.kind, x.er.glob, x.er.bltn, x.sc⟩
theorem At.step {sc env ρ β H s A β' H' s'} {X : XP} {E' : Value → Shared → Prop} (x : At P fs mg mb h₀ n sc env ρ β H s A X E') (t : Step β s β' s') (sr : SR h₀ β' H' s'.heap) : At P fs mg mb h₀ n sc env ρ β' H' s' A X E' :=
  ⟨x.names, x.amb, sr, x.er.step t, x.sc, let ⟨l, a, b⟩ := x.frs; ⟨l, a, b.step t⟩, x.exc.step (t.toF x.er.disj) sr⟩

noncomputable def SoundE (prog : Program) (w : World) (h₀ : Heap) (P : Prog) (fs : Tab) (mg mb : Str → Option Value) (n : Nat) (C : Ctx) (e : E) (x : Expr) (sc : Scope) : Prop :=
  ∀ env ρ β H s A Q X E', At P fs mg mb h₀ n sc env ρ β H s A X E' → wE C e ρ H Q X → wpAny (model prog w) A (eval x env) (PE h₀ β s Q) E' s
noncomputable def SoundT (prog : Program) (w : World) (h₀ : Heap) (P : Prog) (fs : Tab) (mg mb : Str → Option Value) (n : Nat) (C : Ctx) (e : E) (x : Expr) (sc : Scope) : Prop :=
  ∀ env ρ β H s A k X E', At P fs mg mb h₀ n sc env ρ β H s A X E' → wE C e ρ H (fun v H1 => wB v fun b => k b H1) X → wpAny (model prog w) A (isTrue x env (eval x env)) (PB h₀ β s k) E' s

theorem truthy_of {A : Around} {β β' : List Addr} {s s' : Shared} {v : V} {H : Hp} {u : Value} {k : Bool → Hp → Prop} {E : Value → Shared → Prop} (h : wB v fun b => k b H) (t : Step β s β' s') (sr : SR h₀ β' H s'.heap) (vr : VR β' v u) :
    wpAny (model prog w) A (truthy u) (PB h₀ β s k) E s' := by
  cases vr with
  | bool b => exact wpAny_truthy_bool ⟨β', H, h, t, sr⟩
  | _ => exact h.elim

theorem SoundE.toT {e : E} {x : Expr} {sc : Scope} (h : SoundE prog w h₀ P fs mg mb n C e x sc) (hx : ∀ env, isTrue x env (eval x env) = (do let v ← eval x env; standAt x.pos; holding [v] (truthy v))) :
    SoundT prog w h₀ P fs mg mb n C e x sc := fun env ρ β H s A k X E' a hw =>
  wpAny_isTrue_value (wpAny_mono (h env ρ β H s A _ X E' a hw) (fun u s' h' => by obtain ⟨β', v, H', hb, t, sr, vr⟩ := h'; exact truthy_of hb t sr vr) fun _ _ e => e) (hx env)

theorem op_facts {sc : Scope} {p : Prim} {x : Expr} {xs : List Expr} (ho : OpA sc p x xs) : plainE x = true ∧ (∀ env v, foldedSetIterable x env v = pure v) ∧ ((∀ o, p ≠ .cmp o) → ∀ env, isTrue x env (eval x env) = (do let v ← eval x env; standAt x.pos; holding [v] (truthy v))) := by
  cases ho with
  | cmp o _ => exact ⟨rfl, fun _ _ => rfl, fun h => absurd rfl (h _)⟩
  | _ => exact ⟨rfl, fun _ _ => rfl, fun _ _ => rfl⟩
theorem ME.facts {sc : Scope} {e : E} {x : Expr} (h : ME fs sc e x) : plainE x = true ∧ ∀ env v, foldedSetIterable x env v = pure v := by
  cases h with
  | op ho _ => exact ⟨(op_facts ho).1, (op_facts ho).2.1⟩
  | _ => exact ⟨rfl, fun _ _ => rfl⟩
theorem ME.plain {sc : Scope} {e : E} {x : Expr} (h : ME fs sc e x) : plainE x = true := h.facts.1
theorem MEs.plain {sc : Scope} {es : List E} {xs : List Expr} (h : MEs fs sc es xs) : xs.all plainE = true := by
  induction xs generalizing es with
  | nil => rfl
  | cons x xs ih =>
    cases h with
    | cons h1 h2 => rw [List.all_cons, h1.plain, ih h2]; rfl

theorem isVar_kind {sc : Scope} {env : PySem.Env} {id : Str} (h : isVar sc id = true) (hs : ScR sc env) :
    (env.kindOf id = some .local ∨ env.kindOf id = some .cell ∨ env.kindOf id = some .free) ∧ id ≠ (".0" : Str) ∧ (id == ("__debug__" : Str)) = false ∧ (id == ("__classdict__" : Str)) = false := by
  unfold isVar at h
  have := hs id
  have key : kcls (sc.names.lookup id) = 1 ∨ kcls (sc.names.lookup id) = 2 → (env.kindOf id = some .local ∨ env.kindOf id = some .cell ∨ env.kindOf id = some .free) := by
    intro q
    rw [← this] at q
    cases hk : env.kindOf id with
    | none => rw [hk] at q; simp [kcls] at q
    | some k => rw [hk] at q; cases k <;> simp [kcls] at q ⊢
  split at h
  · rename_i e; simp only [Bool.and_eq_true, bne_iff_ne] at h; exact ⟨key (by rw [e]; simp [kcls]), h.1.1, by simpa using h.1.2, by simpa using h.2⟩
  · rename_i e; simp only [Bool.and_eq_true, bne_iff_ne] at h; exact ⟨key (by rw [e]; simp [kcls]), h.1.1, by simpa using h.1.2, by simpa using h.2⟩
  · rename_i e; simp only [Bool.and_eq_true, bne_iff_ne] at h; exact ⟨key (by rw [e]; simp [kcls]), h.1.1, by simpa using h.1.2, by simpa using h.2⟩
  · cases h

theorem sound_var {sc : Scope} {env : PySem.Env} {ρ : Env} {β : List Addr} {H : Hp} {s : Shared} {A : Around} {x : String} {pos : Pos} {v : V} {Q : Value → Shared → Prop} {E : Value → Shared → Prop} {X : XP} {E' : Value → Shared → Prop} (a : At P fs mg mb h₀ n sc env ρ β H s A X E') (hv : isVar sc (Str.ofString x) = true) (hx : ρ x = some v)
    (h : ∀ u, VR β v u → Q u s) : wpAny (model prog w) A (eval (.Name (Str.ofString x) pos) env) Q E s := by
  obtain ⟨hk, h0, hd, hc⟩ := isVar_kind hv a.sc
  refine wpAny_Name ?_ hd
  rcases hk with hk | hk | hk
  · obtain ⟨m, hn, hm⟩ := a.er.ns
    obtain ⟨u, hu, hr⟩ := hm x v hx hk h0
    exact wpAny_loadName_local a.er.kind hk hn hu (h u hr)
  · obtain ⟨c, u, hcl, hic, hr⟩ := a.er.held x v hx (.inl hk)
    exact wpAny_loadName_cell a.er.kind hk hcl hic (h u hr)
  · obtain ⟨c, u, hcl, hic, hr⟩ := a.er.held x v hx (.inr hk)
    exact wpAny_loadName_free a.er.kind hk hcl hic (h u hr) hc

theorem VR.nil_any {v : V} {u : Value} {β : List Addr} (h : VR [] v u) : VR β v u := h.mono (List.nil_prefix)

theorem plainBase_eq {o : Expr} {name : Str} {env : PySem.Env} (h : plainBase o = true) : attributeBase o name env (eval o env) = eval o env := by
  cases o with
  | Call f args kws pos =>
    cases f with
    | Name id p =>
      cases args with
      | nil => cases kws with
        | nil => cases h
        | cons _ _ => rfl
      | cons _ _ => rfl
    | _ => rfl
  | _ => rfl

theorem recv_list {β1 : List Addr} {v : V} {H1 : Hp} {ov : Value} {s₁ : Shared} (vr : VR β1 v ov) (sr : SR h₀ β1 H1 s₁.heap) (hr : recvOk .append v H1 = true) :
    s₁.TypeIs ov "list" ∧ (∀ a, ov = .ref a → ∃ ob, s₁.heap.get? a = some ob ∧ ob.dict = none) := by
  cases vr with
  | ref e =>
    simp only [recvOk] at hr
    split at hr
    · rename_i xs ha
      obtain ⟨us, m, _, eo, _, _⟩ := sr.list ha e
      exact ⟨⟨_, eo, rfl⟩, fun a ea => by cases ea; exact ⟨_, eo, rfl⟩⟩
    · cases hr
  | _ => cases hr

/-- the receiver of a built-in method -/
theorem meth_sound {env : PySem.Env} {s : Shared} {A : Around} {p : Prim} {m : String} {o x : Expr} {apos pos : Pos} {Q : Value → Shared → Prop} {E : Value → Shared → Prop} (hm : methName p = some m) (hl : (apos.endLine == pos.line) = true) (hpl : plainE x = true)
    (hbase : plainBase o = true)
    (h : wpAny (model prog w) A (eval o env) (fun ov s₁ => (∃ β1 v H1, recvOk p v H1 = true ∧ VR β1 v ov ∧ SR h₀ β1 H1 s₁.heap) ∧
      wpAny (model prog w) A (eval x env) (fun u s2 => Ready h₀ p Q [ov, u] s2) E s₁) E s) :
    wpAny (model prog w) A (eval (.Call (.Attribute o (Str.ofString m) apos) [x] [] pos) env) Q E s := by
  have hstar : starEach [x] env = [(false, eval x env)] := starEach_plain hpl
  have hfew : ((backTo pos (starEach [x] env)).all (fun x => !x.1) && (backToKw pos (keywordEach [] env)).all (fun x => x.1.isSome) && decide ([x].length + ([] : List Keyword).length + (if ([] : List Keyword).isEmpty then 0 else 1) < 30)) = true := by
    rw [hstar]; rfl
  have tail : ∀ {id : String} {ov : Value} {s₁ : Shared}, (∀ u s2, Ready h₀ p Q [ov, u] s2 → wpAny (model prog w) A (call (.builtin id) [ov, u]) Q E s2) → wpAny (model prog w) A (eval x env) (fun u s2 => Ready h₀ p Q [ov, u] s2) E s₁ →
      wpAny (model prog w) A (callWith pos (.builtin id) [ov] (backTo pos (starEach [x] env)) []) Q E s₁ := fun hc hx => by
    refine Calls.callWith_builtin (backTo_any (by simp [hpl])) ?_
    rw [hstar]
    exact Calls.evalArgs_plain (Calls.spliced_cons (wpAny_mono hx (fun u s2 h2 => Calls.spliced_nil (hc u s2 h2)) fun _ _ e => e))
  cases p <;> simp only [methName] at hm <;> (try cases hm)
  · -- append
    refine wpAny_Call_method (T := "list") (id := "list.append") (plainBase_eq hbase) hfew hl F.plainAttrs_list F.slot_list_append F.type_list_append (wpAny_mono h (fun ov s₁ h₁ => ?_) fun _ _ e => e)
    obtain ⟨⟨β1, v, H1, hr, vr, sr⟩, hx⟩ := h₁
    obtain ⟨hT, hd⟩ := recv_list vr sr hr
    refine ⟨hT, hd, tail (fun u s2 h2 => ?_) hx⟩
    obtain ⟨β1, vs, H1, v, H2, hpr, vr, sr, k⟩ := h2
    obtain ⟨v1, v2, rfl, va, vb⟩ := vrs2 vr
    cases va with
    | ref ea =>
      rw [p_app, m_app] at hpr
      obtain ⟨xs, e, hpr⟩ := Option.bind_eq_some_iff.mp hpr
      split at hpr
      · rename_i hlim; cases hpr; exact p_append (listOf_some e) ea hlim vb k sr
      · exact no_ns hpr
    | _ => exact no_ns hpr
  · -- pop
    refine wpAny_Call_method (T := "list") (id := "list.pop") (plainBase_eq hbase) hfew hl F.plainAttrs_list F.slot_list_pop F.type_list_pop (wpAny_mono h (fun ov s₁ h₁ => ?_) fun _ _ e => e)
    obtain ⟨⟨β1, v, H1, hr, vr, sr⟩, hx⟩ := h₁
    obtain ⟨hT, hd⟩ := recv_list vr sr hr
    refine ⟨hT, hd, tail (fun u s2 h2 => ?_) hx⟩
    obtain ⟨β1, vs, H1, v, H2, hpr, vr, sr, k⟩ := h2
    obtain ⟨v1, v2, rfl, va, vb⟩ := vrs2 vr
    cases va with
    | ref ea =>
      cases vb with
      | int i t =>
        rw [p_popP, m_pop] at hpr
        obtain ⟨xs, e, hpr⟩ := Option.bind_eq_some_iff.mp hpr
        obtain ⟨kk, h1, h2⟩ := Option.bind_eq_some_iff.mp hpr
        obtain ⟨y, h3, h4⟩ := Option.map_eq_some_iff.mp h2
        cases h4
        exact p_pop (listOf_some e) ea h1 h3 k sr
      | _ => exact no_ns hpr
    | _ => exact no_ns hpr
  · -- index
    refine wpAny_Call_method (T := "list") (id := "list.index") (plainBase_eq hbase) hfew hl F.plainAttrs_list F.slot_list_index F.type_list_index (wpAny_mono h (fun ov s₁ h₁ => ?_) fun _ _ e => e)
    obtain ⟨⟨β1, v, H1, hr, vr, sr⟩, hx⟩ := h₁
    obtain ⟨hT, hd⟩ := recv_list vr sr hr
    refine ⟨hT, hd, tail (fun u s2 h2 => ?_) hx⟩
    obtain ⟨β1, vs, H1, v, H2, hpr, vr, sr, k⟩ := h2
    obtain ⟨v1, v2, rfl, va, vb⟩ := vrs2 vr
    cases va with
    | ref ea =>
      cases vb with
      | int i t =>
        rw [p_idx, m_idx] at hpr
        obtain ⟨xs, e, hpr⟩ := Option.bind_eq_some_iff.mp hpr
        obtain ⟨is, h1, h2⟩ := Option.bind_eq_some_iff.mp hpr
        split at h2
        · rename_i hmem; cases h2; exact p_index (listOf_some e) ea h1 hmem k sr
        · exact no_ns h2
      | _ => exact no_ns hpr
    | _ => exact no_ns hpr

end
end Mine

namespace Mine
open PySem

structure Itr (prog : Program) (w : World) (A : Around) (h₀ : Heap) (β₀ : List Addr) (I : Addr) (G : Hp → Prop) (items : List V) (St : Nat → Heap → Prop) : Prop where
  frame : ∀ i h h', St i h → (∀ o, h.get? I = some o → h'.get? I = some o) → St i h'
  live : ∀ i h, St i h → ∃ o, h.get? I = some o
  nd : ∀ i h, St i h → ∀ o, h.get? I = some o → ∀ es ep, o.data ≠ .dict es ep
  item : ∀ i v β H (s : Shared) (Q : Option Value → Shared → Prop) E, items[i]? = some v → St i s.heap → β₀ <+: β → SR h₀ β H s.heap → G H → I ∉ β →
    (∀ u h' tk, VR β v u → St (i + 1) h' → (∀ b o, b ≠ I → s.heap.get? b = some o → h'.get? b = some o) → Q (some u) { s with heap := h', toks := tk }) → wpAny (model prog w) A (pyNext (.ref I)) Q E s
  done : ∀ β H (s : Shared) (Q : Option Value → Shared → Prop) E, St items.length s.heap → β₀ <+: β → SR h₀ β H s.heap → G H → I ∉ β →
    (∀ h' tk, (∀ b o, b ≠ I → s.heap.get? b = some o → h'.get? b = some o) → Q none { s with heap := h', toks := tk }) → wpAny (model prog w) A (pyNext (.ref I)) Q E s
  self : ∀ i (s : Shared) (Q : Value → Shared → Prop) E, St i s.heap → Q (.ref I) s → wpAny (model prog w) A (pyIter (.ref I)) Q E s

theorem Itr.stay {prog : Program} {w : World} {A : Around} {h₀ : Heap} {β₀ : List Addr} {I : Addr} {G : Hp → Prop} {items : List V} {St : Nat → Heap → Prop} (x : Itr prog w A h₀ β₀ I G items St) {i : Nat} {h h' : Heap} (st : St i h) (k : KAt h h' I) : St i h' :=
  x.frame _ _ _ st fun o e => k.exact e (x.nd _ _ st o e)

section
variable {prog : Program} {w : World} {A : Around} {h₀ : Heap} {β₀ : List Addr} {I : Addr}

theorem prefix_get {β β' : List Addr} (h : β <+: β') {a : Nat} {r : Addr} (e : β[a]? = some r) : β'[a]? = some r := by
  obtain ⟨t, rfl⟩ := h
  rw [List.getElem?_append_left (List.getElem?_eq_some_iff.mp e).1]; exact e

theorem itr_list (hh : A.handled = none) {a : Nat} {r : Addr} {items : List V} {o : O} (hr : β₀[a]? = some r) (ho : o = .list items ∨ o = .frozen items) :
    Itr prog w A h₀ β₀ I (fun H => H[a]? = some o) items (fun i h => h.IsListIter I r i) where
  frame := fun _ _ _ st hk => let ⟨o, e, x⟩ := st; ⟨o, hk _ e, x⟩
  live := fun _ _ st => let ⟨o, e, _⟩ := st; ⟨o, e⟩
  nd := fun _ _ st o e es ep q => by obtain ⟨o', e', _, d⟩ := st; (first | exact clash e e' | exact clash e' e | (rw [e] at e'; cases e')); (first | exact clash q d | exact clash d q | (rw [q] at d; cases d))
  item := fun i v β H s Q E hv st hp sr hG hI hQ => by
    have hr' := prefix_get hp hr
    obtain ⟨us, hl, vr, _⟩ := sr.listOf (ho.imp (fun e => e ▸ hG) (fun e => e ▸ hG)) hr'
    obtain ⟨u, hu, hvu⟩ := vr.get hv
    exact wpAny_pyNext_list_item st hl (by rw [List.getElem?_toArray]; exact hu) fun h' st' hs' => hQ u h' s.toks hvu st' fun b o hb e => hs'.extBut b o hb e
  done := fun β H s Q E st hp sr hG hI hQ => by
    have hr' := prefix_get hp hr
    obtain ⟨us, hl, vr, _⟩ := sr.listOf (ho.imp (fun e => e ▸ hG) (fun e => e ▸ hG)) hr'
    exact wpAny_pyNext_list_end hh st hl (by rw [List.getElem?_toArray, ← Option.not_isSome_iff_eq_none]; simp [vr.length]) fun h' he => hQ h' s.toks fun b o hb e => he b o hb e
  self := fun i s Q E st hQ => wpAny_pyIter_listiter st hQ

theorem SR.tupleOf {s : Shared} {β : List Addr} {H : Hp} (x : SR h₀ β H s.heap) {a : Nat} {r : Addr} {xs : List V} (ha : H[a]? = some (.tuple xs)) (hr : β[a]? = some r) :
    ∃ us, s.heap.IsTuple r us.toArray ∧ VRs β xs us ∧ xs.length ≤ lim := by
  obtain ⟨r', e', sl⟩ := x.at ha
  (first | exact clash hr e' | exact clash e' hr | (rw [hr] at e'; cases e'))
  cases sl with
  | own a b c => cases c with | tuple p q => exact ⟨_, ⟨_, b, rfl, _, rfl⟩, p, q⟩

theorem itr_tuple (hh : A.handled = none) {a : Nat} {r : Addr} {items : List V} (hr : β₀[a]? = some r) :
    Itr prog w A h₀ β₀ I (fun H => H[a]? = some (.tuple items)) items (fun i h => h.IsTupleIter I r i) where
  frame := fun _ _ _ st hk => let ⟨o, e, x⟩ := st; ⟨o, hk _ e, x⟩
  live := fun _ _ st => let ⟨o, e, _⟩ := st; ⟨o, e⟩
  nd := fun _ _ st o e es ep q => by obtain ⟨o', e', _, d⟩ := st; (first | exact clash e e' | exact clash e' e | (rw [e] at e'; cases e')); (first | exact clash q d | exact clash d q | (rw [q] at d; cases d))
  item := fun i v β H s Q E hv st hp sr hG hI hQ => by
    obtain ⟨us, hl, vr, _⟩ := sr.tupleOf hG (prefix_get hp hr)
    obtain ⟨u, hu, hvu⟩ := vr.get hv
    exact wpAny_pyNext_tuple_item st hl (by rw [List.getElem?_toArray]; exact hu) fun h' st' hs' => hQ u h' s.toks hvu st' fun b o hb e => hs'.extBut b o hb e
  done := fun β H s Q E st hp sr hG hI hQ => by
    obtain ⟨us, hl, vr, _⟩ := sr.tupleOf hG (prefix_get hp hr)
    exact wpAny_pyNext_tuple_end hh st hl (by rw [List.getElem?_toArray, ← Option.not_isSome_iff_eq_none]; simp [vr.length]) fun h' he => hQ h' s.toks fun b o hb e => he b o hb e
  self := fun i s Q E st hQ => wpAny_pyIter_tupleiter st hQ

theorem rangeI_get {a b c : Int} {i : Nat} {v : V} (h : ((rangeI a b c).map V.int)[i]? = some v) : v = .int (a + i * c) ∧ i < (rangeI a b c).length := by
  rw [List.getElem?_map] at h
  obtain ⟨x, hx, rfl⟩ := Option.map_eq_some_iff.mp h
  have hlt := (List.getElem?_eq_some_iff.mp hx).1
  simp only [rangeI, List.getElem?_map] at hx
  obtain ⟨y, hy, rfl⟩ := Option.map_eq_some_iff.mp hx
  rw [List.getElem?_range (by simpa [rangeI] using hlt)] at hy
  cases hy
  exact ⟨rfl, hlt⟩

theorem itr_range (hh : A.handled = none) (a b c : Int) :
    Itr prog w A h₀ β₀ I (fun _ => True) ((rangeI a b c).map .int) (fun i h => IsRangeIter h I (a + (i : Nat) * c) (((rangeI a b c).length : Int) - (i : Nat)) c) where
  frame := fun _ _ _ st hk => hk _ st
  live := fun _ _ st => ⟨_, st⟩
  nd := fun _ _ st o e es ep q => by
    have e' := st
    unfold IsRangeIter at e'
    (first | exact clash e e' | exact clash e' e | (rw [e] at e'; cases e')); cases q
  item := fun i v β H s Q E hv st hp sr hG hI hQ => by
    obtain ⟨rfl, hlt⟩ := rangeI_get hv
    refine wpAny_pyNext_range_item st (by omega) fun h' hit' hs' => ?_
    refine hQ _ h' _ (.int _ _) ?_ fun b o hb e => hs'.extBut b o hb e
    have e1 : a + ((i + 1 : Nat) : Int) * c = a + (i : Int) * c + c := by rw [Int.natCast_add, Int.add_mul]; simp; omega
    have e2 : ((rangeI a b c).length : Int) - ((i + 1 : Nat) : Int) = ((rangeI a b c).length : Int) - (i : Int) - 1 := by omega
    rw [e1, e2]; exact hit'
  done := fun β H s Q E st hp sr hG hI hQ => by
    rw [List.length_map] at st
    exact wpAny_pyNext_range_end hh st (by omega) fun h' he' => hQ h' s.toks fun b o hb e => he' b o hb e
  self := fun _ _ _ _ st hQ => wpAny_pyIter_rangeiter st hQ

/-- an iterator made, at its start -/
inductive Made (prog : Program) (w : World) (A : Around) (h₀ : Heap) (β : List Addr) (s : Shared) (G : Hp → Prop) (items : List V) (it : Value) (s' : Shared) : Prop
  | mk (I : Addr) (St : Nat → Heap → Prop) (h : Heap) (tk : Nat) : it = .ref I → s' = { s with heap := h, toks := tk } → (∀ b o, s.heap.get? b = some o → h.get? b = some o) → s.heap.get? I = Option.none → St 0 h → Itr prog w A h₀ β I G items St → Made prog w A h₀ β s G items it s'

theorem iter_seq {β : List Addr} {H : Hp} {s : Shared} {a : Nat} {r : Addr} {items : List V} {E : Value → Shared → Prop} (hh : A.handled = none) (sr : SR h₀ β H s.heap) (hr : β[a]? = some r) (ha : seqOf H a = some items) :
    wpAny (model prog w) A (pyIter (.ref r)) (Made prog w A h₀ β s (fun H' => H'[a]? = H[a]?) items) E s := by
  have fresh : s.heap.get? s.heap.objs.size = Option.none := get_none_of_le (Nat.le_refl _)
  unfold seqOf at ha
  split at ha
  · rename_i xs e; cases ha
    obtain ⟨us, hl, vr, _⟩ := sr.listOf (.inl e) hr
    refine wpAny_pyIter_list hl ⟨_, fun i h => h.IsListIter s.heap.objs.size r i, _, s.toks, rfl, rfl, fun b o e => Heap.get?_push_of_some _ e, fresh, ⟨_, Heap.get?_push_size _ rfl, rfl, rfl⟩, ?_⟩
    rw [e]; exact itr_list hh hr (.inl rfl)
  · rename_i xs e; cases ha
    obtain ⟨us, hl, vr, _⟩ := sr.listOf (.inr e) hr
    refine wpAny_pyIter_list hl ⟨_, fun i h => h.IsListIter s.heap.objs.size r i, _, s.toks, rfl, rfl, fun b o e => Heap.get?_push_of_some _ e, fresh, ⟨_, Heap.get?_push_size _ rfl, rfl, rfl⟩, ?_⟩
    rw [e]; exact itr_list hh hr (.inr rfl)
  · rename_i xs e; cases ha
    obtain ⟨us, hl, vr, _⟩ := sr.tupleOf e hr
    refine wpAny_pyIter_tuple hl ⟨_, fun i h => h.IsTupleIter s.heap.objs.size r i, _, s.toks, rfl, rfl, fun b o e => Heap.get?_push_of_some _ e, fresh, ⟨_, Heap.get?_push_size _ rfl, rfl, rfl⟩, ?_⟩
    rw [e]; exact itr_tuple hh hr
  · cases ha

/-- range( .. ), then its iterator -/
theorem iter_range {β : List Addr} {s : Shared} {vs : List V} {us : List Value} {is : List Int} {E : Value → Shared → Prop} (hh : A.handled = none) (vr : VRs β vs us) (hr : rangeOf vs = some is) :
    wpAny (model prog w) A (call (.type "range") us) (fun x s1 => wpAny (model prog w) A (pyIter x) (Made prog w A h₀ β s (fun _ => True) (is.map .int)) E s1) E s := by
  have fin : ∀ (a b c : Int) (t u v : Tok) (tk : Nat), 0 < c → a.natAbs ≤ lim → b.natAbs ≤ lim → c.natAbs ≤ lim → wpAny (model prog w) A (pyIter (.ref s.heap.objs.size)) (Made prog w A h₀ β s (fun _ => True) ((rangeI a b c).map .int)) E
      { s with heap := s.heap.push { cls := .type "range", data := .fields #[.int a t, .int b u, .int c v] }, toks := tk } := by
    intro a b c t u v tk hc ha hb hcl
    refine wpAny_pyIter_range (IsRange.new ..) (small_lim ha hb hcl hc) ⟨_, _, _, tk, rfl, rfl, fun b o e => Heap.get?_push_of_some _ (Heap.get?_push_of_some _ e), get_none_of_le (by simp [Heap.size_push]), ?_, itr_range hh a b c⟩
    have e1 : (a + ((0 : Nat) : Int) * c) = a := by simp
    have e2 : (((rangeI a b c).length : Int) - ((0 : Nat) : Int)) = Builtin.Range.rangeSize a b c := by rw [rangeSize_pos hc]; simp
    rw [e1, e2]
    exact Heap.get?_push_size _ rfl
  unfold rangeOf at hr
  split at hr
  · split at hr
    · rename_i hb; cases hr
      cases vr with | cons va vr => cases vr; cases va with | int _ t => exact call_range_1 (fin 0 _ 1 _ _ _ _ (by omega) (by decide) hb (by decide))
    · cases hr
  · split at hr
    · rename_i hb; cases hr
      cases vr with | cons va vr => cases vr with | cons vb vr => cases vr; cases va with | int _ t => cases vb with | int _ u => exact call_range_2 (fin _ _ 1 _ _ _ _ (by omega) hb.2.1 hb.2.2 (by decide))
    · cases hr
  · split at hr
    · rename_i hb; cases hr
      cases vr with | cons va vr => cases vr with | cons vb vr => cases vr with | cons vc vr => cases vr; cases va with | int _ t => cases vb with | int _ u => cases vc with | int _ v =>
        exact call_range_3 (by omega) (fin _ _ _ _ _ _ _ hb.2.2.2.1 hb.2.1 hb.2.2.1 hb.2.2.2.2) (.inl (PyProof.noPylong_small (by have := hb.2.2.2.2; unfold lim at this; omega)))
    · cases hr
  · cases hr

end
end Mine

namespace Mine
open PySem

noncomputable def clFrom (cells : List (Str × Addr)) : List (Str × NameKind) → List (Str × Addr) → List (Str × Addr)
  | [], acc => acc
  | (n, k) :: r, acc => if k == .free then clFrom cells r (match cells.lookup n with | some c => (n, c) :: acc | none => acc) else clFrom cells r acc

theorem closure_eq {scope : Scope} {env : PySem.Env} (h : ∀ n, (n, NameKind.free) ∈ scope.names → ∃ c, env.cells.lookup n = some c) : closureFor scope env = pure (clFrom env.cells scope.names []) := by
  have key : ∀ (names : List (Str × NameKind)) (acc : List (Str × Addr)), (∀ n, (n, NameKind.free) ∈ names → ∃ c, env.cells.lookup n = some c) →
      (forIn (m := Sem) names acc fun (x : Str × NameKind) cs => match x with | (name, kind) => if kind == .free then (do let c ← cellOf env name; pure (.yield ((name, c) :: cs))) else pure (.yield cs)) = pure (clFrom env.cells names acc) := by
    intro names
    induction names with
    | nil => intro acc _; rfl
    | cons x r ih =>
      intro acc hx
      obtain ⟨n, k⟩ := x
      rw [List.forIn_cons]
      have hr : ∀ n, (n, NameKind.free) ∈ r → ∃ c, env.cells.lookup n = some c := fun n hn => hx n (List.mem_cons_of_mem _ hn)
      cases hk : (k == NameKind.free) with
      | true =>
        have : k = .free := beq_iff_eq.mp hk
        subst this
        obtain ⟨c, hc⟩ := hx n List.mem_cons_self
        simp only [hk, if_true, cellOf, hc, clFrom, pure_bind]
        exact ih _ hr
      | false =>
        simp only [hk, Bool.false_eq_true, if_false, clFrom, pure_bind]
        exact ih _ hr
  unfold closureFor
  have := key scope.names [] h
  simp only [bind_pure]
  exact this

theorem clFrom_lookup {cells : List (Str × Addr)} {y : Str} : ∀ {names : List (Str × NameKind)} {acc : List (Str × Addr)} {c : Addr}, (clFrom cells names acc).lookup y = some c →
    acc.lookup y = some c ∨ cells.lookup y = some c := by
  intro names
  induction names with
  | nil => intro acc c h; exact .inl h
  | cons x r ih =>
    intro acc c h
    obtain ⟨n, k⟩ := x
    simp only [clFrom] at h
    split at h
    · rcases ih h with q | q
      · split at q
        · rename_i c' hc
          rw [List.lookup_cons] at q
          split at q
          · rename_i e; cases q; rw [beq_iff_eq.mp e]; exact .inr hc
          · exact .inl q
        · exact .inl q
      · exact .inr q
    · exact ih h

theorem clFrom_has {cells : List (Str × Addr)} {y : Str} {c : Addr} (hc : cells.lookup y = some c) : ∀ {names : List (Str × NameKind)} {acc : List (Str × Addr)}, (y, NameKind.free) ∈ names ∨ acc.lookup y = some c →
    (∀ c', acc.lookup y = some c' → c' = c) → (clFrom cells names acc).lookup y = some c := by
  intro names
  induction names with
  | nil => intro acc h _; exact h.elim (fun q => nomatch q) id
  | cons x r ih =>
    intro acc h hu
    obtain ⟨n, k⟩ := x
    simp only [clFrom]
    split
    · rename_i hk
      split
      · rename_i c' hc'
        have hu' : ∀ c'', List.lookup y ((n, c') :: acc) = some c'' → c'' = c := fun c'' q => by
          rw [List.lookup_cons] at q
          split at q
          · rename_i e; cases q; rw [← beq_iff_eq.mp e, hc] at hc'; cases hc'; rfl
          · exact hu _ q
        refine ih ?_ hu'
        rcases h with h | h
        · rcases List.mem_cons.mp h with q | q
          · cases q
            right; rw [List.lookup_cons]; simp; (first | exact clash hc hc' | exact clash hc' hc | (rw [hc] at hc'; cases hc')); rfl
          · exact .inl q
        · right
          rw [List.lookup_cons]
          split
          · rename_i e; rw [← beq_iff_eq.mp e, hc] at hc'; cases hc'; rfl
          · exact h
      · rename_i hn
        refine ih ?_ hu
        rcases h with h | h
        · rcases List.mem_cons.mp h with q | q
          · cases q; (first | exact clash hc hn | exact clash hn hc | (rw [hc] at hn; cases hn))
          · exact .inl q
        · exact .inr h
    · rename_i hk
      refine ih ?_ hu
      rcases h with h | h
      · rcases List.mem_cons.mp h with q | q
        · cases q; exact absurd rfl hk
        · exact .inl q
      · exact .inr h

theorem lookup_map (g : Str → NameKind → NameKind) {x : Str} : ∀ (names : List (Str × NameKind)), (names.map fun nk => (nk.1, g nk.1 nk.2)).lookup x = (names.lookup x).map (g x)
  | [] => rfl
  | (n, k) :: r => by
    rw [List.map_cons, List.lookup_cons, List.lookup_cons]
    cases hx : x == n with
    | true => rw [beq_iff_eq.mp hx]; rfl
    | false => exact lookup_map g r

theorem lookup_relabel {env : PySem.Env} {x : Str} (names : List (Str × NameKind)) :
    (names.map fun (n, k) => if (k == NameKind.free && env.scope.kind == .function && env.kindOf n == some .cell) then (n, NameKind.cell) else (n, k)).lookup x =
      (names.lookup x).map fun k => if (k == NameKind.free && env.scope.kind == .function && env.kindOf x == some .cell) then NameKind.cell else k := by
  rw [← lookup_map (fun n k => if (k == NameKind.free && env.scope.kind == .function && env.kindOf n == some .cell) then NameKind.cell else k) names]
  congr 2
  funext nk
  obtain ⟨n, k⟩ := nk
  dsimp only
  split <;> rfl

theorem compEnv_kind (scope : Scope) (cl : List (Str × Addr)) (Cf : Addr) (env : PySem.Env) (x : Str) :
    (compEnvC scope cl Cf env).kindOf x = (scope.names.lookup x).map fun k => if (k == NameKind.free && env.scope.kind == .function && env.kindOf x == some .cell) then NameKind.cell else k :=
  lookup_relabel scope.names

theorem comp_scr (scope : Scope) (cl : List (Str × Addr)) (Cf : Addr) (env : PySem.Env) : ScR scope (compEnvC scope cl Cf env) := by
  intro x
  rw [compEnv_kind]
  cases h : scope.names.lookup x with
  | none => rfl
  | some k =>
    show kcls (some (if _ then _ else _)) = _
    split
    · rename_i hc
      simp only [Bool.and_eq_true] at hc
      rw [beq_iff_eq.mp hc.1.1]; rfl
    · rfl

theorem mem_of_lookup' {names : List (Str × NameKind)} {x : Str} {k : NameKind} (h : names.lookup x = some k) : (x, k) ∈ names := mem_of_lookup h

structure CompOk (sc scope : Scope) (x : Str) : Prop where
  kind : scope.kind = .function
  loc : scope.names.lookup x = some .local
  dot : x ≠ (".0" : Str)
  nocell : ∀ y ∈ scope.names, y.2 ≠ .cell
  names : ∀ y ∈ scope.names, y.2 = .local → scope.names.lookup y.1 = some .local
  only : ∀ y, (y, NameKind.local) ∈ scope.names → y = x ∨ y = (".0" : Str)
  free : ∀ y, (y, NameKind.free) ∈ scope.names → kcls (sc.names.lookup y) = 2

theorem compOk_of {sc scope : Scope} {x : Str} (h : compOk sc scope x = true) : CompOk sc scope x := by
  unfold compOk at h
  simp only [Bool.and_eq_true, decide_eq_true_eq, bne_iff_ne, List.all_eq_true] at h
  obtain ⟨⟨⟨h1, h2⟩, h3⟩, h4⟩ := h
  refine ⟨h1, beq_iff_eq.mp h2, h3, fun y hy e => ?_, fun y hy e => ?_, fun y hy => ?_, fun y hy => ?_⟩
  · have := h4 y hy; (first | exact clash e this | exact clash this e | (rw [e] at this; cases this))
  · have := h4 y hy; rw [e] at this; simp only [Bool.and_eq_true] at this; exact beq_iff_eq.mp this.2
  · have := h4 _ hy
    simp only [Bool.and_eq_true, Bool.or_eq_true, beq_iff_eq] at this
    exact this.1
  · have := h4 _ hy
    simp only at this
    split at this
    · rename_i e; rw [e]; rfl
    · rename_i e; rw [e]; rfl
    · cases this

section
variable {prog : Program} {w : World} {h₀ : Heap} {P : Prog} {fs : Tab} {mg mb : Str → Option Value} {n : Nat} {C : Ctx}

theorem comp_er {sc scope : Scope} {env : PySem.Env} {ρ : Env} {β : List Addr} {h : Heap} {x : String} {v : V} {u : Value} {Cf : Addr} {m : Str → Option Value} (er : ER env ρ β h) (hs : ScR sc env) (ok : CompOk sc scope (Str.ofString x))
    (hn : h.Ns Cf m) (hm : m (Str.ofString x) = some u) (hv : VR β v u) (hC : Cf ∉ β) (hcl : ∀ y c, env.cells.lookup y = some c → c ≠ Cf) :
    ER (compEnvC scope (clFrom env.cells scope.names []) Cf env) (ρ.set x v) β h := by
  have lk : ∀ {y c}, (clFrom env.cells scope.names []).lookup y = some c → env.cells.lookup y = some c := fun q => by
    rcases clFrom_lookup q with q | q
    · cases q
    · exact q
  have lk' : ∀ {y c}, env.cells.lookup y = some c → (y, NameKind.free) ∈ scope.names → (clFrom env.cells scope.names []).lookup y = some c := fun hc hf => clFrom_has hc (.inl hf) fun _ q => nomatch q
  have isFree : ∀ {y : Str}, (compEnvC scope (clFrom env.cells scope.names []) Cf env).kindOf y = some .cell ∨ (compEnvC scope (clFrom env.cells scope.names []) Cf env).kindOf y = some .free → (y, NameKind.free) ∈ scope.names := by
    intro y q
    rw [compEnv_kind] at q
    cases hk : scope.names.lookup y with
    | none => rw [hk] at q; simp at q
    | some k =>
      rw [hk] at q
      simp only [Option.map_some] at q
      have hmem := mem_of_lookup' hk
      split at q
      · rename_i hc
        simp only [Bool.and_eq_true] at hc
        rw [beq_iff_eq.mp hc.1.1] at hmem; exact hmem
      · rcases q with q | q
        · cases q; exact absurd rfl (ok.nocell _ hmem)
        · cases q; exact hmem
  have envKind : ∀ {y : Str}, (y, NameKind.free) ∈ scope.names → env.kindOf y = some .cell ∨ env.kindOf y = some .free := by
    intro y hy
    have h1 := ok.free y hy
    rw [← hs y] at h1
    cases hk : env.kindOf y with
    | none => (first | exact clash hk h1 | exact clash h1 hk | (rw [hk] at h1; cases h1))
    | some k => rw [hk] at h1; cases k <;> first | exact .inl rfl | exact .inr rfl | cases h1
  refine ⟨ok.kind, er.glob, er.bltn, ⟨m, hn, fun y v' hy hk hd => ?_⟩, fun y c hc => er.cell y c (lk hc), fun y v' hy hk => ?_, fun y hk => ?_, fun y z c h1 h2 => er.apart y z c (lk h1) (lk h2), hC, fun y c hc => ⟨(er.cells y c (lk hc)).1, hcl y c (lk hc)⟩⟩
  · have hl : (Str.ofString y, NameKind.local) ∈ scope.names := by
      rw [compEnv_kind] at hk
      cases hk' : scope.names.lookup (Str.ofString y) with
      | none => (first | exact clash hk' hk | exact clash hk hk' | (rw [hk'] at hk; cases hk))
      | some k =>
        rw [hk'] at hk
        simp only [Option.map_some, Option.some.injEq] at hk
        split at hk
        · cases hk
        · subst hk; exact mem_of_lookup' hk'
    rcases ok.only _ hl with e | e
    · have := ofString_inj e; subst this
      have : v' = v := by simpa [Env.set] using hy.symm
      subst this; exact ⟨u, hm, hv⟩
    · exact absurd e hd
  · have hf := isFree hk
    by_cases e : y = x
    · subst e
      rw [compEnv_kind, ok.loc] at hk
      simp at hk
    · have hy' : ρ y = some v' := by simpa [Env.set, beq_eq_false_iff_ne.mpr e] using hy
      obtain ⟨c, u', hc, hic, hr⟩ := er.held y v' hy' (envKind hf)
      exact ⟨c, u', lk' hc hf, hic, hr⟩
  · have hf := isFree hk
    obtain ⟨c, hc⟩ := er.has y (envKind hf)
    exact ⟨c, lk' hc hf⟩

end
end Mine

namespace Mine
open PySem

section
variable {prog : Program} {w : World} {h₀ : Heap} {P : Prog} {fs : Tab} {mg mb : Str → Option Value} {n : Nat} {C : Ctx}

/-- an object that stands in the heap is taken into the mini heap -/
theorem SR.adopt {h : Heap} {β : List Addr} {H : Hp} (x : SR h₀ β H h) {r : Addr} {o : O} {ob : Obj} (hr : r ∉ β) (hn : h₀.get? r = Option.none) (hg : h.get? r = some ob) (ho : OR β o ob) : SR h₀ (β ++ [r]) (H ++ [o]) h := by
  have hp : β <+: β ++ [r] := List.prefix_append _ _
  refine ⟨x.kept, ?_, (x.objs.mono fun _ _ => Slot1.grow hp).append (.cons (.own hn hg (ho.mono hp)) .nil)⟩
  rw [List.nodup_append]
  refine ⟨x.nodup, by simp, fun a ha b hb => ?_⟩
  simp at hb; subst hb; rintro rfl; exact hr ha

theorem SR.other {h h' : Heap} {β : List Addr} {H : Hp} (x : SR h₀ β H h) (hk : ∀ b o, h.get? b = some o → (b ∈ β ∨ ∃ o', h₀.get? b = some o') → h'.get? b = some o) : SR h₀ β H h' := by
  refine ⟨fun b o e => hk b o (x.kept b o e) (.inr ⟨o, e⟩), x.nodup, ?_⟩
  have : ∀ (H : Hp) (γ : List Addr), (∀ b ∈ γ, b ∈ β) → All2 (Slot1 h₀ h β) H γ → All2 (Slot1 h₀ h' β) H γ := by
    intro H γ hs hA
    induction hA with
    | nil => exact .nil
    | cons q _ ih =>
      refine .cons ?_ (ih fun b hb => hs b (List.mem_cons_of_mem _ hb))
      exact q.at fun o e => hk _ o e (.inl (hs _ List.mem_cons_self))
  exact this H β (fun _ hb => hb) x.objs

theorem ER.other {env : PySem.Env} {ρ : Env} {β : List Addr} {h h' : Heap} (x : ER env ρ β h) (hl : KAt h h' env.locals) (hc : ∀ y c, env.cells.lookup y = some c → KAt h h' c) : ER env ρ β h' := by
  obtain ⟨m, hn, hm⟩ := x.ns
  refine ⟨x.kind, x.glob, x.bltn, ⟨m, Heap_Ns_at hn hl, hm⟩, fun y c hy => ?_, fun y v hv hk => ?_, x.has, x.apart, x.locs, x.cells⟩
  · obtain ⟨u, hu⟩ := x.cell y c hy; exact ⟨u, Heap_IsCell_at hu (hc y c hy)⟩
  · obtain ⟨c, u, hy, hu, hr⟩ := x.held y v hv hk; exact ⟨c, u, hy, Heap_IsCell_at hu (hc _ c hy), hr⟩

theorem ER.grow {env : PySem.Env} {ρ : Env} {β β' : List Addr} {h : Heap} (x : ER env ρ β h) (hp : β <+: β') (hl : env.locals ∉ β') (hc : ∀ y c, env.cells.lookup y = some c → c ∉ β') : ER env ρ β' h := by
  obtain ⟨m, hn, hm⟩ := x.ns
  refine ⟨x.kind, x.glob, x.bltn, ⟨m, hn, fun y v hv hk hd => ?_⟩, x.cell, fun y v hv hk => ?_, x.has, x.apart, hl, fun y c hy => ⟨hc y c hy, (x.cells y c hy).2⟩⟩
  · obtain ⟨u, hu, hr⟩ := hm y v hv hk hd; exact ⟨u, hu, hr.mono hp⟩
  · obtain ⟨c, u, hy, hu, hr⟩ := x.held y v hv hk; exact ⟨c, u, hy, hu, hr.mono hp⟩

noncomputable def compStep (C : Ctx) (elt : E) (conds : List E) (ρ : Env) (x : String) (X : XP) : V → Hp → (Option V → Hp → Prop) → Prop := fun v H2 k =>
  wAnd C conds (ρ.set x v) H2 (fun b H3 => wIf b (wE C elt (ρ.set x v) H3 (fun u H4 => k (some u) H4) X) (k none H3)) X

/-- the tests of a comprehension -/
noncomputable def SoundIfs (prog : Program) (w : World) (h₀ : Heap) (P : Prog) (fs : Tab) (mg mb : Str → Option Value) (n : Nat) (C : Ctx) (conds : List E) (ifs : List Expr) (sc : Scope) : Prop :=
  ∀ env ρ β H s A k X E', At P fs mg mb h₀ n sc env ρ β H s A X E' → wAnd C conds ρ H k X →
    wpAny (model prog w) A (forIn ifs true fun c r => if r = true then do let ok ← isTrue c env (eval c env); pure (ForInStep.yield ok) else pure (ForInStep.yield r)) (PB h₀ β s k) E' s

/-- what stands between two turns -/
structure CompInv (h₀ : Heap) (β₂ : List Addr) (s₂ : Shared) (I D Cf : Addr) (St : Nat → Heap → Prop) (i : Nat) (β : List Addr) (H : Hp) (acc : List V) (s : Shared) : Prop where
  same : ∃ h tk, s = { s₂ with heap := h, toks := tk }
  st : St i s.heap
  sr : SR h₀ β H s.heap
  grow : β₂ <+: β
  keep : ∀ b, b ∉ β₂ → b ≠ I → KAt s₂.heap s.heap b
  fresh : ∀ b ∈ β, b ∈ β₂ ∨ s₂.heap.get? b = Option.none
  dout : D ∉ β
  cout : Cf ∉ β
  iout : I ∉ β
  list : ∃ us, s.heap.PlainList D us.toArray ∧ VRs β acc us
  len : acc.length ≤ i
  ns : ∃ m, s.heap.Ns Cf m

theorem comp_loop {A : Around} {sc scope : Scope} {env : PySem.Env} {ρ : Env} {β : List Addr} {H : Hp} {s₂ s₄ : Shared} {x : String} {elt : E} {conds : List E} {el iter : Expr} {ifs : List Expr} {px pos : Pos} {X : XP} {E' : Value → Shared → Prop}
    {G : Hp → Prop} {items : List V} {I D Cf : Addr} {St : Nat → Heap → Prop} {kfin : List V → Hp → Prop} {R : Result → Shared → Prop}
    (a : At P fs mg mb h₀ n sc env ρ β H s₂ A X E') (itr : Itr prog w A h₀ β I G items St) (hIn : I ∉ β) (hIL : env.locals ≠ I) (hIc : ∀ y c, env.cells.lookup y = some c → c ≠ I)
    (ok : CompOk sc scope (Str.ofString x)) (hlen : items.length ≤ lim) (hE : SoundE prog w h₀ P fs mg mb n C elt el scope) (hT : SoundIfs prog w h₀ P fs mg mb n C conds ifs scope)
    (hI₀ : h₀.get? I = Option.none) (hD : s₂.heap.get? D = Option.none) (hC : s₂.heap.get? Cf = Option.none) (hDC : D ≠ Cf) (hDI : D ≠ I) (hCI : Cf ≠ I)
    (inv0 : CompInv h₀ β s₂ I D Cf St 0 β H [] s₄)
    (hw : wLoop G (compStep C elt conds ρ x noX) items [] H kfin)
    (hR : ∀ s' β' H' acc, CompInv h₀ β s₂ I D Cf (fun _ _ => True) items.length β' H' acc s' → kfin acc H' → R (.ok .next) s') :
    codeAny (model prog w) A (.compLoop (.ListComp el [⟨.Name (Str.ofString x) px, iter, ifs, 0⟩] scope pos) 0 (.ref I) (.ref D) (compEnvC scope (clFrom env.cells scope.names []) Cf env)) R s₄ := by
  have envO : ∃ o, s₂.heap.get? env.locals = some o := by obtain ⟨m, ⟨o, _, _, e, _⟩, _⟩ := a.er.ns; exact ⟨o, e⟩
  have cellO : ∀ y c, env.cells.lookup y = some c → ∃ o, s₂.heap.get? c = some o := fun y c hc => by obtain ⟨u, o, e, _⟩ := a.er.cell y c hc; exact ⟨o, e⟩
  have hCL : env.locals ≠ Cf := by obtain ⟨o, e⟩ := envO; rintro rfl; (first | exact clash hC e | exact clash e hC | (rw [hC] at e; cases e))
  have hCc : ∀ y c, env.cells.lookup y = some c → c ≠ Cf := fun y c hc => by obtain ⟨o, e⟩ := cellO y c hc; rintro rfl; (first | exact clash hC e | exact clash e hC | (rw [hC] at e; cases e))
  refine codeAny_compLoop_tests (fun k s' => ∃ i β' H' acc, k = items.length + 1 - i ∧ i ≤ items.length ∧ CompInv h₀ β s₂ I D Cf St i β' H' acc s' ∧ wLoop G (compStep C elt conds ρ x noX) (items.drop i) acc H' kfin) ?_ (items.length + 1)
    ⟨0, β, H, [], by omega, by omega, inv0, hw⟩
  rintro k s' ⟨i, β', H', acc, rfl, hi, inv, hwl⟩
  obtain ⟨h', tk', rfl⟩ := inv.same
  by_cases hlt : i < items.length
  · -- one more
    obtain ⟨v, hv⟩ : ∃ v, items[i]? = some v := ⟨_, List.getElem?_eq_getElem hlt⟩
    have hdrop : items.drop i = v :: items.drop (i + 1) := by
      rw [List.drop_eq_getElem_cons hlt]
      congr 1
      rw [List.getElem?_eq_getElem hlt] at hv; exact Option.some.inj hv
    rw [hdrop] at hwl
    obtain ⟨hG, hstep⟩ := hwl
    refine itr.item i v β' H' _ _ _ hv inv.st inv.grow inv.sr hG inv.iout fun u h₁ tk₁ hvu hst₁ hk₁ => ?_
    obtain ⟨m, hns⟩ := inv.ns
    have hns₁ : h₁.Ns Cf m := Heap_Ns_at hns (.of fun o e => hk₁ _ o hCI e)
    have kind : (compEnvC scope (clFrom env.cells scope.names []) Cf env).kindOf (Str.ofString x) = some .local := by rw [compEnv_kind, ok.loc]; simp
    have hp : ((compEnvC scope (clFrom env.cells scope.names []) Cf env).scope.kind == .class || ((compEnvC scope (clFrom env.cells scope.names []) Cf env).scope.kind == .module && (compEnvC scope (clFrom env.cells scope.names []) Cf env).locals != (compEnvC scope (clFrom env.cells scope.names []) Cf env).globals)) = false := by
      show (scope.kind == .class || (scope.kind == .module && _)) = false
      rw [ok.kind]; rfl
    refine wpAny_assign_Name (wpAny_storeName_local (m := m) kind hns₁ (fun h₂ hn₂ hs₂ => ?_) hp)
    -- the state at the element
    have k2 : ∀ b o, b ≠ I → b ≠ Cf → h'.get? b = some o → h₂.get? b = some o := fun b o hb hb' e => hs₂.extBut b o hb' (hk₁ b o hb e)
    have notI : ∀ b ∈ β', b ≠ I := fun b hb e => inv.iout (e ▸ hb)
    have notC : ∀ b ∈ β', b ≠ Cf := fun b hb e => inv.cout (e ▸ hb)
    have hC₀ : h₀.get? Cf = Option.none := by
      cases e : h₀.get? Cf with
      | none => rfl
      | some o => have := a.sr.kept _ _ e; (first | exact clash hC this | exact clash this hC | (rw [hC] at this; cases this))
    have sr₂ : SR h₀ β' H' h₂ := inv.sr.other fun b o e q => by
      refine k2 b o ?_ ?_ e
      · rcases q with q | ⟨o', q⟩
        · exact notI b q
        · rintro rfl; (first | exact clash hI₀ q | exact clash q hI₀ | (rw [hI₀] at q; cases q))
      · rcases q with q | ⟨o', q⟩
        · exact notC b q
        · rintro rfl; (first | exact clash hC₀ q | exact clash q hC₀ | (rw [hC₀] at q; cases q))
    have hDk : h₂.get? D = h'.get? D → True := fun _ => trivial
    obtain ⟨us, hpl, hus⟩ := inv.list
    have hpl₂ : h₂.PlainList D us.toArray := let ⟨q, e⟩ := hpl; ⟨q, k2 D _ hDI hDC e⟩
    have hst₂ : St (i + 1) h₂ := itr.frame _ _ _ hst₁ fun o e => hs₂.extBut I o (Ne.symm hCI) e
    have keep₂ : ∀ b, b ∉ β → b ≠ I → KAt s₂.heap h₂ b := fun b hb hbI o e =>
      (KAt.trans (inv.keep b hb hbI) (.of fun o' e' => k2 b o' hbI (by rintro rfl; (first | exact clash hC e | exact clash e hC | (rw [hC] at e; cases e))) e')) o e
    have er₂ : ER env ρ β' h₂ := by
      have hl' : env.locals ∉ β' := fun hm => by
        rcases inv.fresh _ hm with q | q
        · exact a.er.locs q
        · obtain ⟨o, e⟩ := envO; (first | exact clash e q | exact clash q e | (rw [e] at q; cases q))
      have hc' : ∀ y c, env.cells.lookup y = some c → c ∉ β' := fun y c hy hm => by
        rcases inv.fresh _ hm with q | q
        · exact (a.er.cells y c hy).1 q
        · obtain ⟨o, e⟩ := cellO y c hy; (first | exact clash e q | exact clash q e | (rw [e] at q; cases q))
      exact (a.er.other (keep₂ _ a.er.locs hIL) (fun y c hy => keep₂ c (a.er.cells y c hy).1 (hIc y c hy))).grow inv.grow hl' hc'
    have er' := comp_er (m := fun y => if y = Str.ofString x then some u else m y) er₂ a.sc ok hn₂ (by simp) hvu inv.cout hCc
    have at₂ : ∀ Ex, At P fs mg mb h₀ n scope (compEnvC scope (clFrom env.cells scope.names []) Cf env) (ρ.set x v) β' H' { s₂ with heap := h₂, toks := tk₁ + 1 } A noX Ex := fun Ex =>
      ⟨a.names, a.amb, sr₂, er', comp_scr _ _ _ _, let ⟨l, e1, _⟩ := a.frs; ⟨l, e1, trivial⟩, fun _ _ h => h.elim⟩
    have base₂ : CompInv h₀ β s₂ I D Cf St (i + 1) β' H' acc { s₂ with heap := h₂, toks := tk₁ + 1 } :=
      ⟨⟨_, _, rfl⟩, hst₂, sr₂, inv.grow, keep₂, inv.fresh, inv.dout, inv.cout, inv.iout, ⟨us, hpl₂, hus⟩, Nat.le_succ_of_le inv.len, ⟨_, hn₂⟩⟩
    -- a step of the mini heap keeps the invariant
    have go : ∀ {β₁ β₃ : List Addr} {H₁ H₃ : Hp} {s₁ s₃ : Shared}, CompInv h₀ β s₂ I D Cf St (i + 1) β₁ H₁ acc s₁ → Step β₁ s₁ β₃ s₃ → SR h₀ β₃ H₃ s₃.heap → CompInv h₀ β s₂ I D Cf St (i + 1) β₃ H₃ acc s₃ := by
      intro β₁ β₃ H₁ H₃ s₁ s₃ c t sr₃
      obtain ⟨h1, t1, rfl⟩ := c.same
      obtain ⟨h3, t3, rfl⟩ := t.same
      have out : ∀ b, b ∉ β₁ → (∃ o, h1.get? b = some o) → b ∉ β₃ := fun b hb ⟨o, e⟩ hm => by
        rcases t.fresh b hm with q | q
        · exact hb q
        · have e' : h1.get? b = Option.none := q
          (first | exact clash e e' | exact clash e' e | (rw [e] at e'; cases e'))
      obtain ⟨us, hpl, hus⟩ := c.list
      obtain ⟨m, hn⟩ := c.ns
      refine ⟨⟨_, _, rfl⟩, itr.stay c.st (t.keep I c.iout), sr₃, c.grow.trans t.grow, fun b hb hbI o e => ?_, fun b hb => ?_, out D c.dout ?_, out Cf c.cout ?_, out I c.iout (itr.live _ _ c.st),
        ⟨us, let ⟨q, e⟩ := hpl; ⟨q, (t.keep D c.dout).exact e (fun _ _ q => by cases q)⟩, VRs.mono t.grow hus⟩, c.len, ⟨m, Heap_Ns_at hn (t.keep Cf c.cout)⟩⟩
      · refine KAt.trans (c.keep b hb hbI) (t.keep b fun hm => ?_) o e
        rcases c.fresh b hm with q | q
        · exact hb q
        · (first | exact clash e q | exact clash q e | (rw [e] at q; cases q))
      · rcases t.fresh b hb with q | q
        · exact c.fresh b q
        · by_cases hm : b ∈ β
          · exact .inl hm
          · by_cases hbI : b = I
            · subst hbI; obtain ⟨o, e⟩ := itr.live _ _ c.st; have q' : h1.get? b = Option.none := q; have e' : h1.get? b = some o := e; (first | exact clash e' q' | exact clash q' e' | (rw [e'] at q'; cases q'))
            · refine .inr ?_
              cases e : s₂.heap.get? b with
              | none => rfl
              | some o => obtain ⟨o', this, _⟩ := c.keep b hm hbI o e; have q' : h1.get? b = Option.none := q; have this' : h1.get? b = some o' := this; (first | exact clash this' q' | exact clash q' this' | (rw [this'] at q'; cases q'))
      · obtain ⟨q, e⟩ := hpl; exact ⟨_, e⟩
      · obtain ⟨o, _, _, e, _⟩ := hn; exact ⟨o, e⟩
    refine wpAny_mono (hT _ _ _ _ _ _ _ noX _ (at₂ _) hstep) (fun b s₃ h₃ => ?_) fun _ _ e => e
    obtain ⟨β₃, H₃, hb, t₃, sr₃⟩ := h₃
    have inv₃ := go base₂ t₃ sr₃
    cases b with
    | false =>
      simp only [Bool.false_eq_true, if_false]
      exact ⟨items.length + 1 - (i + 1), by omega, i + 1, β₃, H₃, acc, rfl, by omega, inv₃, hb.2 rfl⟩
    | true =>
      simp only [if_true]
      refine wpAny_mono (hE _ _ _ _ _ _ _ noX _ ((at₂ _).step t₃ sr₃) (hb.1 rfl)) (fun y s₄ h₄ => ?_) fun _ _ e => e
      obtain ⟨β₄, u', H₄, hk₄, t₄, sr₄, vr₄⟩ := h₄
      have inv₄ := go inv₃ t₄ sr₄
      obtain ⟨us₄, hpl₄, hus₄⟩ := inv₄.list
      have hD₀ : h₀.get? D = Option.none := by
        cases e : h₀.get? D with
        | none => rfl
        | some o => have := a.sr.kept _ _ e; (first | exact clash hD this | exact clash this hD | (rw [hD] at this; cases this))
      refine wpAny_list_append_plain hpl₄ (fun h₅ hl₅ hs₅ => ?_) (by rw [List.size_toArray, ← hus₄.length]; have := inv₄.len; unfold sizeLine; unfold lim at hlen; omega)
      obtain ⟨h4, t4, rfl⟩ := inv₄.same
      refine ⟨items.length + 1 - (i + 1), by omega, i + 1, β₄, H₄, acc ++ [u'], rfl, by omega, ?_, hk₄⟩
      obtain ⟨m₄, hn₄⟩ := inv₄.ns
      refine ⟨⟨_, _, rfl⟩, itr.frame _ _ _ inv₄.st fun o e => hs₅.extBut I o (Ne.symm hDI) e, sr₄.other fun b o e q => hs₅.extBut b o ?_ e, inv₄.grow, fun b hb hbI o e => KAt.trans (inv₄.keep b hb hbI) (.of fun o' e' => hs₅.extBut b o' ?_ e') o e, inv₄.fresh, inv₄.dout, inv₄.cout, inv₄.iout,
        ⟨us₄ ++ [y], by rw [List.push_toArray] at hl₅; exact hl₅, hus₄.append (.cons vr₄ .nil)⟩, by rw [List.length_append]; have := inv.len; simp; omega, ⟨m₄, Heap_Ns_at hn₄ (.of fun o e => hs₅.extBut Cf o (Ne.symm hDC) e)⟩⟩
      · rcases q with q | ⟨o', q⟩
        · rintro rfl; exact inv₄.dout q
        · rintro rfl; (first | exact clash hD₀ q | exact clash q hD₀ | (rw [hD₀] at q; cases q))
      · rintro rfl; (first | exact clash hD e | exact clash e hD | (rw [hD] at e; cases e))
  · -- the end
    have hie : i = items.length := by omega
    subst hie
    rw [List.drop_length] at hwl
    obtain ⟨hG, hk⟩ := hwl
    refine itr.done β' H' _ _ _ inv.st inv.grow inv.sr hG inv.iout fun h₁ tk₁ hk₁ => ?_
    obtain ⟨us, ⟨q, hpl⟩, hus⟩ := inv.list
    obtain ⟨m, hn⟩ := inv.ns
    refine hR _ β' H' acc ⟨⟨_, _, rfl⟩, trivial, inv.sr.other fun b o e q => hk₁ b o ?_ e, inv.grow, fun b hb hbI => KAt.trans (inv.keep b hb hbI) (.of fun o e => hk₁ b o hbI e), inv.fresh, inv.dout, inv.cout, inv.iout, ⟨us, ⟨q, hk₁ D _ hDI hpl⟩, hus⟩, inv.len,
      ⟨m, Heap_Ns_at hn (.of fun o e => hk₁ Cf o hCI e)⟩⟩ hk
    rcases q with q | ⟨o', q⟩
    · rintro rfl; exact inv.iout q
    · rintro rfl; (first | exact clash hI₀ q | exact clash q hI₀ | (rw [hI₀] at q; cases q))

end
end Mine

namespace Mine
open PySem

section
variable {prog : Program} {w : World} {h₀ : Heap} {P : Prog} {fs : Tab} {mg mb : Str → Option Value} {n : Nat} {C : Ctx}

/-- the source of a loop, made ready: its iterator stands -/
inductive SrcReady (prog : Program) (w : World) (A : Around) (h₀ : Heap) (β : List Addr) (s : Shared) (W : (Hp → Prop) → List V → Hp → Prop) (it : Value) (s₂ : Shared) : Prop
  | mk (β₁ : List Addr) (H₁ : Hp) (s₁ : Shared) (G : Hp → Prop) (items : List V) : Made prog w A h₀ β₁ s₁ G items it s₂ → Step β s β₁ s₁ → SR h₀ β₁ H₁ s₁.heap → items.length ≤ lim → W G items H₁ → SrcReady prog w A h₀ β s W it s₂

/-- behind a comprehension, its list not yet in the mini heap -/
structure CompOut (h₀ : Heap) (β : List Addr) (s : Shared) (D Cf : Addr) (β' : List Addr) (H' : Hp) (acc : List V) (s' : Shared) : Prop where
  step : Step β s β' s'
  sr : SR h₀ β' H' s'.heap
  dout : D ∉ β'
  dnew : s.heap.get? D = Option.none
  cnew : s.heap.get? Cf = Option.none
  list : ∃ us, s'.heap.PlainList D us.toArray ∧ VRs β' acc us
  len : acc.length ≤ lim
  dc : D ≠ Cf
  cout : Cf ∉ β'

theorem comp_whole {A : Around} {Ex : Value → Shared → Prop} {sc scope : Scope} {env : PySem.Env} {ρ : Env} {β : List Addr} {H : Hp} {s : Shared} {x : String} {elt : E} {conds : List E} {el iter : Expr} {ifs : List Expr} {px pos pos' : Pos} {X : XP} {E₂ : Value → Shared → Prop}
    {kfin : List V → Hp → Prop} {use : Option (Value → Sem Unit)} {Q : Value → Shared → Prop}
    (a : At P fs mg mb h₀ n sc env ρ β H s A X E₂) (ok : CompOk sc scope (Str.ofString x)) (hE : SoundE prog w h₀ P fs mg mb n C elt el scope) (hT : SoundIfs prog w h₀ P fs mg mb n C conds ifs scope)
    (hs : ∀ x, foldedSetIterable iter env x = pure x)
    (hsrc : wpAny (model prog w) A (eval iter env) (fun xv s₁ => wpAny (model prog w) A (pyIter xv) (SrcReady prog w A h₀ β s fun G items H₁ => wLoop G (compStep C elt conds ρ x noX) items [] H₁ kfin) Ex s₁) Ex s)
    (hQ : ∀ D Cf β' H' acc s', CompOut h₀ β s D Cf β' H' acc s' → (∃ m, s'.heap.Ns Cf m) → kfin acc H' → compPost (model prog w) A Ex use Q (.ref D) Cf (.ok .next) s') :
    wpAny (model prog w) A (comprehension (.ListComp el [⟨.Name (Str.ofString x) px, iter, ifs, 0⟩] scope pos) scope env pos' (newList []) false (eval iter env) use) Q Ex s := by
  have hclos : closureFor scope env = pure (clFrom env.cells scope.names []) := closure_eq fun y hy => a.er.has y (by
    have h1 := ok.free y hy
    rw [← a.sc y] at h1
    cases hk : env.kindOf y with
    | none => (first | exact clash hk h1 | exact clash h1 hk | (rw [hk] at h1; cases h1))
    | some k => rw [hk] at h1; cases k <;> first | exact .inl rfl | exact .inr rfl | cases h1)
  refine wpAny_comprehension_free rfl hs hclos ok.kind ok.names (wpAny_mono hsrc (fun xv s₁ h₁ => wpAny_mono h₁ (fun it s₂ h₂ => ?_) fun _ _ e => e) fun _ _ e => e)
  obtain ⟨β₁, H₁, s₁, G, items, ⟨I, St, hI, tkI, rfl, rfl, kI, nI, st0, itr⟩, t₁, sr₁, hlen, hw⟩ := h₂
  have a₁ := a.step t₁ sr₁
  have notNew : ∀ b, (∃ o, s₁.heap.get? b = some o) → b ≠ I := fun b ⟨o, e⟩ q => by rw [q, nI] at e; cases e
  have hIβ : I ∉ β₁ := fun hm => notNew I (sr₁.mem hm) rfl
  have hI₀ : h₀.get? I = Option.none := by
    cases e : h₀.get? I with
    | none => rfl
    | some o => exact absurd rfl (notNew I ⟨o, sr₁.kept _ _ e⟩)
  -- the list and the frame
  refine wpAny_newObj_type (wpAny_newFunctionEnv ok.nocell (by intro y hy; simp at hy) (fun h₃ hns₃ hsb₃ => ?_) ok.kind)
  dsimp only at hns₃ hsb₃ ⊢
  generalize hD : hI.objs.size = D at *
  have hCsz : (hI.push { cls := .type "list", dict := none, data := .seq ([] : List Value).toArray }).objs.size = D + 1 := by rw [Heap.size_push, hD]
  rw [hCsz] at hns₃ hsb₃ ⊢
  have old : ∀ b o, hI.get? b = some o → h₃.get? b = some o := fun b o e => by
    have hb : b ≠ D + 1 := by have := Heap.lt_size e; rw [hD] at this; exact Nat.ne_of_lt (Nat.lt_succ_of_lt this)
    exact hsb₃.extBut b o hb (Heap.get?_push_of_some _ (Heap.get?_push_of_some _ e))
  have hDnew : hI.get? D = Option.none := get_none_of_le (by rw [hD]; exact Nat.le_refl _)
  have hCnew : hI.get? (D + 1) = Option.none := get_none_of_le (by rw [hD]; exact Nat.le_succ _)
  have hDlist : h₃.PlainList D ([] : List Value).toArray := ⟨0, by
    have : (hI.push { cls := .type "list", dict := none, data := .seq ([] : List Value).toArray }).get? D = some { cls := .type "list", dict := none, data := .seq ([] : List Value).toArray } := by
      rw [← hD]; exact Heap.get?_push_size _ rfl
    exact hsb₃.extBut D _ (Nat.ne_of_lt (Nat.lt_succ_self _)) (Heap.get?_push_of_some _ this)⟩
  have hIex : ∃ o, hI.get? I = some o := itr.live _ _ st0
  have hDI : D ≠ I := fun e => by obtain ⟨o, q⟩ := hIex; rw [← e, hDnew] at q; cases q
  have hCI : D + 1 ≠ I := fun e => by obtain ⟨o, q⟩ := hIex; rw [← e, hCnew] at q; cases q
  have sr₂ : SR h₀ β₁ H₁ hI := sr₁.keeps kI
  have er₂ : ER env ρ β₁ hI := a₁.er.other (.of fun o e => kI _ _ e) (fun _ _ _ => .of fun o e => kI _ _ e)
  have hdβ : D ∉ β₁ := fun hm => by obtain ⟨o, e⟩ := sr₂.mem hm; (first | exact clash hDnew e | exact clash e hDnew | (rw [hDnew] at e; cases e))
  have hcβ : D + 1 ∉ β₁ := fun hm => by obtain ⟨o, e⟩ := sr₂.mem hm; (first | exact clash hCnew e | exact clash e hCnew | (rw [hCnew] at e; cases e))
  have inv0 : CompInv h₀ β₁ { s₁ with heap := hI, toks := tkI } I D (D + 1) St 0 β₁ H₁ [] { s₁ with heap := h₃, toks := tkI + 0 } :=
    ⟨⟨_, _, rfl⟩, itr.frame _ _ _ st0 fun o e => old I o e, sr₂.keeps old, List.prefix_refl _, fun b _ _ => .of fun o e => old b o e, fun b hb => .inl hb, hdβ, hcβ, hIβ, ⟨[], hDlist, .nil⟩, Nat.le_refl _, ⟨_, hns₃⟩⟩
  have a₂ : At P fs mg mb h₀ n sc env ρ β₁ H₁ { s₁ with heap := hI, toks := tkI } A X E₂ := a₁.step (Step.of_heap kI) sr₂
  have envO : ∃ o, s₁.heap.get? env.locals = some o := by obtain ⟨m, ⟨o, _, _, e, _⟩, _⟩ := a₁.er.ns; exact ⟨o, e⟩
  have loop := comp_loop (px := px) (iter := iter) (pos := pos) (R := compPost (model prog w) A Ex use Q (.ref D) (D + 1)) a₂ itr hIβ (notNew _ envO) (fun y c hy => notNew c (by obtain ⟨u, o, e, _⟩ := a₁.er.cell y c hy; exact ⟨o, e⟩)) ok hlen hE hT hI₀ hDnew hCnew (Nat.ne_of_lt (Nat.lt_succ_self _)) hDI hCI inv0 hw
    (fun s' β' H' acc inv hk => hQ D (D + 1) β' H' acc s' (by
      obtain ⟨h', tk', rfl⟩ := inv.same
      obtain ⟨h1, t1, rfl⟩ := t₁.same
      have up : ∀ b, b ∉ β → KAt s.heap hI b := fun b hb => KAt.trans (t₁.keep b hb) (.of fun o e => kI b o e)
      refine ⟨⟨⟨_, _, rfl⟩, t₁.grow.trans inv.grow, fun b hb o e => ?_, fun b hb => ?_⟩, inv.sr, inv.dout, ?_, ?_, inv.list, Nat.le_trans inv.len hlen, Nat.ne_of_lt (Nat.lt_succ_self _), inv.cout⟩
      · have hb1 : b ∉ β₁ := fun hm => by
          rcases t₁.fresh b hm with q | q
          · exact hb q
          · (first | exact clash e q | exact clash q e | (rw [e] at q; cases q))
        exact KAt.trans (up b hb) (inv.keep b hb1 (notNew b ((t₁.keep b hb).live ⟨o, e⟩))) o e
      · rcases inv.fresh b hb with q | q
        · exact t₁.fresh b q
        · by_cases hm : b ∈ β
          · exact .inl hm
          · refine .inr ?_
            cases e : s.heap.get? b with
            | none => rfl
            | some o => obtain ⟨o', this, _⟩ := up b hm o e; have q' : hI.get? b = Option.none := q; (first | exact clash this q' | exact clash q' this | (rw [this] at q'; cases q'))
      · cases e : s.heap.get? D with
        | none => rfl
        | some o =>
          by_cases hm : D ∈ β
          · exact absurd (t₁.grow.subset hm) hdβ
          · obtain ⟨o', this, _⟩ := up D hm o e; (first | exact clash hDnew this | exact clash this hDnew | (rw [hDnew] at this; cases this))
      · cases e : s.heap.get? (D + 1) with
        | none => rfl
        | some o =>
          by_cases hm : D + 1 ∈ β
          · exact absurd (t₁.grow.subset hm) hcβ
          · obtain ⟨o', this, _⟩ := up _ hm o e; (first | exact clash hCnew this | exact clash this hCnew | (rw [hCnew] at this; cases this))) inv.ns hk)
  exact codeAny_compStart_list loop (itr.self 0 _ _ _ inv0.st loop)

/-- the list goes into the mini heap -/
theorem CompOut.adopt {β : List Addr} {s : Shared} {D Cf : Addr} {β' : List Addr} {H' : Hp} {acc : List V} {s' : Shared} (c : CompOut h₀ β s D Cf β' H' acc s') (kept : ∀ b o, h₀.get? b = some o → s.heap.get? b = some o) :
    Step β s (β' ++ [D]) s' ∧ SR h₀ (β' ++ [D]) (H' ++ [.list acc]) s'.heap ∧ VR (β' ++ [D]) (.ref H'.length) (.ref D) := by
  obtain ⟨us, ⟨q, hpl⟩, hus⟩ := c.list
  have hD₀ : h₀.get? D = Option.none := by
    cases e : h₀.get? D with
    | none => rfl
    | some o => have := kept _ _ e; (first | exact clash c.dnew this | exact clash this c.dnew | (rw [c.dnew] at this; cases this))
  refine ⟨⟨c.step.same, c.step.grow.trans (List.prefix_append _ _), c.step.keep, fun b hb => ?_⟩, c.sr.adopt c.dout hD₀ hpl (.list hus c.len), .ref (by rw [c.sr.len]; simp)⟩
  rcases List.mem_append.mp hb with q | q
  · exact c.step.fresh b q
  · simp at q; subst q; exact .inr c.dnew

/-- the comprehension as a value -/
theorem comp_value {A : Around} {Ex : Value → Shared → Prop} {sc scope : Scope} {env : PySem.Env} {ρ : Env} {β : List Addr} {H : Hp} {s : Shared} {x : String} {elt : E} {conds : List E} {el iter : Expr} {ifs : List Expr} {px pos : Pos} {X : XP} {E₂ : Value → Shared → Prop} {Q : Post}
    (a : At P fs mg mb h₀ n sc env ρ β H s A X E₂) (ok : CompOk sc scope (Str.ofString x)) (hE : SoundE prog w h₀ P fs mg mb n C elt el scope) (hT : SoundIfs prog w h₀ P fs mg mb n C conds ifs scope)
    (hs : ∀ x, foldedSetIterable iter env x = pure x)
    (hsrc : wpAny (model prog w) A (eval iter env) (fun xv s₁ => wpAny (model prog w) A (pyIter xv) (SrcReady prog w A h₀ β s fun G items H₁ => wLoop G (compStep C elt conds ρ x noX) items [] H₁ (fun acc H5 => Q (.ref H5.length) (H5 ++ [.list acc]))) Ex s₁) Ex s) :
    wpAny (model prog w) A (eval (.ListComp el [⟨.Name (Str.ofString x) px, iter, ifs, 0⟩] scope pos) env) (PE h₀ β s Q) Ex s := by
  rw [eval_ListComp]
  refine comp_whole (use := none) a ok hE hT hs hsrc fun D Cf β' H' acc s' c hns hk => ?_
  obtain ⟨m, hn⟩ := hns
  refine ⟨m, hn, fun h'' hs'' => ?_⟩
  obtain ⟨h', tk', rfl⟩ := c.step.same
  obtain ⟨us, ⟨q, hpl⟩, hus⟩ := c.list
  have hC₀ : h₀.get? Cf = Option.none := by
    cases e : h₀.get? Cf with
    | none => rfl
    | some o => have := a.sr.kept _ _ e; (first | exact clash c.cnew this | exact clash this c.cnew | (rw [c.cnew] at this; cases this))
  have c' : CompOut h₀ β s D Cf β' H' acc { s with heap := h'', toks := tk' } := by
    refine ⟨⟨⟨_, _, rfl⟩, c.step.grow, fun b hb o e => KAt.trans (c.step.keep b hb) (.of fun o' e' => hs''.extBut b o' ?_ e') o e, c.step.fresh⟩, c.sr.other fun b o e q => hs''.extBut b o ?_ e, c.dout, c.dnew, c.cnew, ⟨us, ⟨q, hs''.extBut D _ c.dc hpl⟩, hus⟩, c.len, c.dc, c.cout⟩
    · rintro rfl; (first | exact clash c.cnew e | exact clash e c.cnew | (rw [c.cnew] at e; cases e))
    · rcases q with q | ⟨o', q⟩
      · rintro rfl; exact c.cout q
      · rintro rfl; (first | exact clash hC₀ q | exact clash q hC₀ | (rw [hC₀] at q; cases q))
  obtain ⟨st, sr, vr⟩ := c'.adopt a.sr.kept
  exact ⟨_, _, _, hk, st, sr, vr⟩

end
end Mine

namespace Mine
open PySem

section
variable {prog : Program} {w : World} {h₀ : Heap} {P : Prog} {fs : Tab} {mg mb : Str → Option Value} {n : Nat} {C : Ctx}

noncomputable def Snd (prog : Program) (w : World) (h₀ : Heap) (P : Prog) (fs : Tab) (mg mb : Str → Option Value) (n : Nat) (C : Ctx) (sc : Scope) (e : E) (x : Expr) : Prop :=
  SoundE prog w h₀ P fs mg mb n C e x sc ∧ SoundT prog w h₀ P fs mg mb n C e x sc

theorem PE.now {β : List Addr} {H : Hp} {s : Shared} {Q : Post} {v : V} {u : Value} (hq : Q v H) (sr : SR h₀ β H s.heap) (vr : VR β v u) : PE h₀ β s Q u s := ⟨β, v, H, hq, Step.refl β s, sr, vr⟩
theorem PE.tok {β : List Addr} {H : Hp} {s : Shared} {Q : Post} {v : V} {u : Value} {t : Nat} (hq : Q v H) (sr : SR h₀ β H s.heap) (vr : VR β v u) : PE h₀ β s Q u { s with toks := t } := ⟨β, v, H, hq, Step.toks β s t, sr, vr⟩

variable {sc : Scope} {env : PySem.Env} {ρ : Env} {A : Around} {E' : Value → Shared → Prop}

theorem list_of {es : List E} {xs : List Expr} (hA : All2 (Snd prog w h₀ P fs mg mb n C sc) es xs) : ∀ {β : List Addr} {H : Hp} {s : Shared} {Q : List V → Hp → Prop} {X : XP}, At P fs mg mb h₀ n sc env ρ β H s A X E' → wEs C es ρ H Q X →
    wpList prog w A env xs (PEs h₀ β s Q) E' s := by
  induction hA with
  | nil => intro β H s Q X a hw; exact ⟨β, [], H, hw, Step.refl β s, a.sr, .nil⟩
  | cons h _ ih =>
    intro β H s Q X a hw
    refine wpAny_mono (h.1 env ρ β H s A _ X E' a hw) (fun u s1 h1 => ?_) fun _ _ e => e
    obtain ⟨β1, v, H1, hw1, t1, sr1, vr1⟩ := h1
    refine wpList_mono (ih (a.step t1 sr1) hw1) fun us s2 h2 => ?_
    obtain ⟨β2, vs, H2, hq, t2, sr2, vr2⟩ := h2
    exact ⟨β2, v :: vs, H2, hq, t1.trans t2, sr2, .cons (vr1.mono t2.grow) vr2⟩

theorem ready_of {p : Prim} {β : List Addr} {s s1 : Shared} {Q : Post} {us : List Value} (h : PEs h₀ β s (fun vs H1 => wP p vs H1 Q) us s1) : Ready h₀ p (PE h₀ β s Q) us s1 := by
  obtain ⟨β1, vs, H1, hw, t1, sr1, vr1⟩ := h
  obtain ⟨⟨v, H2⟩, hp, hw⟩ := oE_ex hw
  exact ⟨β1, vs, H1, v, H2, hp, vr1, sr1, fun u s' β' st sr vr => (⟨β', v, H2, hw, t1.trans st, sr, vr⟩ : PE h₀ β s Q u s')⟩

theorem and_true {es : List E} {xs : List Expr} (hA : All2 (Snd prog w h₀ P fs mg mb n C sc) es xs) : ∀ {β : List Addr} {H : Hp} {s : Shared} {k : Bool → Hp → Prop} {X : XP}, At P fs mg mb h₀ n sc env ρ β H s A X E' → wAnd C es ρ H k X →
    wpAny (model prog w) A (allTrue .And xs env) (PB h₀ β s k) E' s := by
  induction hA with
  | nil => intro β H s k X a hw; exact wpAny_allTrue_And_nil ⟨β, H, hw, Step.refl β s, a.sr⟩
  | cons h _ ih =>
    intro β H s k X a hw
    refine wpAny_allTrue_And_cons (wpAny_mono (h.2 env ρ β H s A _ X E' a hw) (fun b s1 h1 => ?_) fun _ _ e => e)
    obtain ⟨β1, H1, hb, t1, sr1⟩ := h1
    cases b with
    | true => exact wpAny_mono (ih (a.step t1 sr1) (hb.1 rfl)) (fun _ _ q => q.after t1) fun _ _ e => e
    | false => exact ⟨β1, H1, hb.2 rfl, t1, sr1⟩

theorem or_true {es : List E} {xs : List Expr} (hA : All2 (Snd prog w h₀ P fs mg mb n C sc) es xs) : ∀ {β : List Addr} {H : Hp} {s : Shared} {k : Bool → Hp → Prop} {X : XP}, At P fs mg mb h₀ n sc env ρ β H s A X E' → wOr C es ρ H k X →
    wpAny (model prog w) A (allTrue .Or xs env) (PB h₀ β s k) E' s := by
  induction hA with
  | nil => intro β H s k X a hw; exact wpAny_allTrue_Or_nil ⟨β, H, hw, Step.refl β s, a.sr⟩
  | cons h _ ih =>
    intro β H s k X a hw
    refine wpAny_allTrue_Or_cons (wpAny_mono (h.2 env ρ β H s A _ X E' a hw) (fun b s1 h1 => ?_) fun _ _ e => e)
    obtain ⟨β1, H1, hb, t1, sr1⟩ := h1
    cases b with
    | true => exact ⟨β1, H1, hb.1 rfl, t1, sr1⟩
    | false => exact wpAny_mono (ih (a.step t1 sr1) (hb.2 rfl)) (fun _ _ q => q.after t1) fun _ _ e => e

theorem boolOp_one {M : Model} {pos : Pos} {op : BoolOp} {x : Sem Value} {Q : Value → Shared → Prop} {s : Shared} (h : wpAny M A x Q E' s) : wpAny M A (boolOp pos op [x]) Q E' s := h
theorem boolOp_cons {M : Model} {pos : Pos} {op : BoolOp} {x y : Sem Value} {rest : List (Sem Value)} {Q : Value → Shared → Prop} {s : Shared}
    (h : wpAny M A x (fun v s1 => wpAny M A (truthy v) (fun t s2 => match op, t with | .And, false | .Or, true => Q v s2 | _, _ => wpAny M A (boolOp pos op (y :: rest)) Q E' s2) E' s1) E' s) :
    wpAny M A (boolOp pos op (x :: y :: rest)) Q E' s := by
  unfold boolOp
  refine wpAny_bind (wpAny_mono h (fun v s1 h1 => wpAny_bind (wpAny_standAt (wpAny_bind (wpAny_holding (wpAny_mono h1 (fun t s2 h2 => ?_) fun _ _ e => e))))) fun _ _ e => e)
  cases op <;> cases t <;> first | exact wpAny_pure h2 | exact h2

theorem bool_of {v : V} {β : List Addr} {u : Value} {k : Bool → Prop} (h : wB v k) (vr : VR β v u) : ∃ b, v = .bool b ∧ u = .bool b ∧ k b := by
  cases vr with
  | bool b => exact ⟨b, rfl, rfl, h⟩
  | _ => exact h.elim

theorem and_val {es : List E} {xs : List Expr} (hA : All2 (Snd prog w h₀ P fs mg mb n C sc) es xs) : ∀ {β : List Addr} {H : Hp} {s : Shared} {Q : Post} {X : XP} {pos : Pos}, xs ≠ [] → At P fs mg mb h₀ n sc env ρ β H s A X E' →
    wAnd C es ρ H (fun b H1 => Q (.bool b) H1) X → wpAny (model prog w) A (boolOp pos .And (evalEach xs env)) (PE h₀ β s Q) E' s := by
  induction hA with
  | nil => intro β H s Q X pos hne; exact absurd rfl hne
  | @cons e x es xs h t ih =>
    intro β H s Q X pos _ a hw
    cases t with
    | nil =>
      show wpAny _ _ (boolOp pos .And [eval x env]) _ _ _
      refine boolOp_one (wpAny_mono (h.1 env ρ β H s A _ X E' a hw) (fun u s1 h1 => ?_) fun _ _ e => e)
      obtain ⟨β1, v, H1, hb, t1, sr1, vr1⟩ := h1
      obtain ⟨b, rfl, rfl, hk⟩ := bool_of hb vr1
      cases b with
      | true => exact ⟨β1, _, H1, hk.1 rfl, t1, sr1, .bool _⟩
      | false => exact ⟨β1, _, H1, hk.2 rfl, t1, sr1, .bool _⟩
    | @cons e' x' es' xs' h' t' =>
      show wpAny _ _ (boolOp pos .And (eval x env :: eval x' env :: evalEach xs' env)) _ _ _
      refine boolOp_cons (wpAny_mono (h.1 env ρ β H s A _ X E' a hw) (fun u s1 h1 => ?_) fun _ _ e => e)
      obtain ⟨β1, v, H1, hb, t1, sr1, vr1⟩ := h1
      obtain ⟨b, rfl, rfl, hk⟩ := bool_of hb vr1
      refine wpAny_truthy_bool ?_
      cases b with
      | true => exact wpAny_mono (ih (by simp) (a.step t1 sr1) (hk.1 rfl)) (fun _ _ q => q.after t1) fun _ _ e => e
      | false => exact ⟨β1, _, H1, hk.2 rfl, t1, sr1, .bool _⟩

theorem or_val {es : List E} {xs : List Expr} (hA : All2 (Snd prog w h₀ P fs mg mb n C sc) es xs) : ∀ {β : List Addr} {H : Hp} {s : Shared} {Q : Post} {X : XP} {pos : Pos}, xs ≠ [] → At P fs mg mb h₀ n sc env ρ β H s A X E' →
    wOr C es ρ H (fun b H1 => Q (.bool b) H1) X → wpAny (model prog w) A (boolOp pos .Or (evalEach xs env)) (PE h₀ β s Q) E' s := by
  induction hA with
  | nil => intro β H s Q X pos hne; exact absurd rfl hne
  | @cons e x es xs h t ih =>
    intro β H s Q X pos _ a hw
    cases t with
    | nil =>
      show wpAny _ _ (boolOp pos .Or [eval x env]) _ _ _
      refine boolOp_one (wpAny_mono (h.1 env ρ β H s A _ X E' a hw) (fun u s1 h1 => ?_) fun _ _ e => e)
      obtain ⟨β1, v, H1, hb, t1, sr1, vr1⟩ := h1
      obtain ⟨b, rfl, rfl, hk⟩ := bool_of hb vr1
      cases b with
      | true => exact ⟨β1, _, H1, hk.1 rfl, t1, sr1, .bool _⟩
      | false => exact ⟨β1, _, H1, hk.2 rfl, t1, sr1, .bool _⟩
    | @cons e' x' es' xs' h' t' =>
      show wpAny _ _ (boolOp pos .Or (eval x env :: eval x' env :: evalEach xs' env)) _ _ _
      refine boolOp_cons (wpAny_mono (h.1 env ρ β H s A _ X E' a hw) (fun u s1 h1 => ?_) fun _ _ e => e)
      obtain ⟨β1, v, H1, hb, t1, sr1, vr1⟩ := h1
      obtain ⟨b, rfl, rfl, hk⟩ := bool_of hb vr1
      refine wpAny_truthy_bool ?_
      cases b with
      | true => exact ⟨β1, _, H1, hk.1 rfl, t1, sr1, .bool _⟩
      | false => exact wpAny_mono (ih (by simp) (a.step t1 sr1) (hk.2 rfl)) (fun _ _ q => q.after t1) fun _ _ e => e

theorem ifs_of {es : List E} {xs : List Expr} (hA : All2 (Snd prog w h₀ P fs mg mb n C sc) es xs) (hl : xs.length ≤ 1) : SoundIfs prog w h₀ P fs mg mb n C es xs sc := by
  intro env ρ β H s A k X E' a hw
  cases hA with
  | nil => exact wpAny_tests_nil ⟨β, H, hw, Step.refl β s, a.sr⟩
  | cons h t =>
    cases t with
    | nil =>
      refine wpAny_tests_one (wpAny_mono (h.2 env ρ β H s A _ X E' a hw) (fun b s1 h1 => ?_) fun _ _ e => e)
      obtain ⟨β1, H1, hb, t1, sr1⟩ := h1
      cases b with
      | true => exact ⟨β1, H1, hb.1 rfl, t1, sr1⟩
      | false => exact ⟨β1, H1, hb.2 rfl, t1, sr1⟩
    | cons _ _ => simp at hl

theorem seqOf_len {β : List Addr} {H : Hp} {s : Shared} {a : Nat} {r : Addr} {xs : List V} (sr : SR h₀ β H s.heap) (ha : seqOf H a = some xs) (hr : β[a]? = some r) : xs.length ≤ lim := let ⟨_, _, _, h⟩ := sr.isSeq ha hr; h

theorem rangeOf_len {vs : List V} {is : List Int} (h : rangeOf vs = some is) : is.length ≤ lim := by
  have key : ∀ a b c : Int, 0 ≤ a → b.natAbs ≤ lim → 0 < c → (rangeI a b c).length ≤ lim := by
    intro a b c ha hb hc
    rw [rangeI_length]
    split
    · have h2 : (b - a - 1) / c ≤ b - a - 1 := Int.ediv_le_self _ (by omega)
      omega
    · simp
  unfold rangeOf at h
  split at h
  · split at h
    · rename_i hb; cases h; exact key _ _ _ (by omega) hb (by omega)
    · cases h
  · split at h
    · rename_i hb; cases h; exact key _ _ _ hb.1 hb.2.2 (by omega)
    · cases h
  · split at h
    · rename_i hb; cases h; exact key _ _ _ hb.1 hb.2.2.1 hb.2.2.2.1
    · cases h
  · cases h

theorem isTrue_op {p : Prim} {x : Expr} {xs : List Expr} (ho : OpA sc p x xs) (hp : ∀ o, p ≠ .cmp o) : ∀ env, isTrue x env (eval x env) = (do let v ← eval x env; standAt x.pos; holding [v] (truthy v)) := (op_facts ho).2.2 hp

theorem range_folded {g : Expr} {xs : List Expr} {pos : Pos} : ∀ v, foldedSetIterable (.Call g xs [] pos) env v = pure v := fun _ => rfl

/-- the source of a comprehension or a loop: range( .. ) -/
theorem src_range {args : List E} {xs : List Expr} {p pos : Pos} {β : List Addr} {H : Hp} {s : Shared} {W : (Hp → Prop) → List V → Hp → Prop} {X : XP} (hA : All2 (Snd prog w h₀ P fs mg mb n C sc) args xs) (hp : xs.all plainE = true) (hgl : isGlb sc (Str.ofString "range") = true)
    (a : At P fs mg mb h₀ n sc env ρ β H s A X E') (hw : wEs C args ρ H (fun vs H1 => oE (rangeOf vs) fun is => W (fun _ => True) (is.map .int) H1) X) :
    wpAny (model prog w) A (eval (.Call (.Name (Str.ofString "range") p) xs [] pos) env) (fun xv s₁ => wpAny (model prog w) A (pyIter xv) (SrcReady prog w A h₀ β s W) E' s₁) E' s := by
  refine (a.frm.keeps a.sr.kept).callT hgl rfl hp (wpList_mono (list_of hA a hw) fun us s1 h1 => ?_)
  obtain ⟨β1, vs, H1, hr, t1, sr1, vr1⟩ := h1
  obtain ⟨is, hr', hr⟩ := oE_ex hr
  refine wpAny_mono (iter_range (h₀ := h₀) a.amb.handled vr1 hr') (fun x s2 h2 => wpAny_mono h2 (fun it s3 h3 => ?_) fun _ _ e => e) fun _ _ e => e
  exact ⟨β1, H1, s1, _, _, h3, t1, sr1, by rw [List.length_map]; exact rangeOf_len hr', hr⟩

/-- .. or a sequence -/
theorem src_seq {src : E} {x : Expr} {β : List Addr} {H : Hp} {s : Shared} {W : (Hp → Prop) → List V → Hp → Prop} {X : XP} (hE : Snd prog w h₀ P fs mg mb n C sc src x) (a : At P fs mg mb h₀ n sc env ρ β H s A X E')
    (hw : wE C src ρ H (fun vs H1 => oE (oSeq vs H1) fun p => W (fun H' => H'[p.1]? = H1[p.1]?) p.2 H1) X) :
    wpAny (model prog w) A (eval x env) (fun xv s₁ => wpAny (model prog w) A (pyIter xv) (SrcReady prog w A h₀ β s W) E' s₁) E' s := by
  refine wpAny_mono (hE.1 env ρ β H s A _ X E' a hw) (fun u s1 h1 => ?_) fun _ _ e => e
  obtain ⟨β1, v, H1, hr, t1, sr1, vr1⟩ := h1
  cases vr1 with
  | @ref b r hb =>
    obtain ⟨_, ho, hr⟩ := oE_ex hr
    obtain ⟨items, hs, rfl⟩ := Option.map_eq_some_iff.mp ho
    refine wpAny_mono (iter_seq (h₀ := h₀) a.amb.handled sr1 hb hs) (fun it s3 h3 => ?_) fun _ _ e => e
    exact ⟨β1, H1, s1, _, _, h3, t1, sr1, seqOf_len sr1 hs hb, hr⟩
  | _ => exact hr.elim

theorem folded_of {e : E} {x : Expr} (h : ME fs sc e x) : ∀ v, foldedSetIterable x env v = pure v := h.facts.2 env

end
end Mine

namespace Mine
open PySem

section
variable {prog : Program} {w : World} {h₀ : Heap} {P : Prog} {fs : Tab} {mg mb : Str → Option Value} {n : Nat} {C : Ctx}

theorem call_sound {sc : Scope} {f : String} {args : List E} {xs : List Expr} {p pos : Pos} (hC : CallOK prog w h₀ fs mg n C.call) (hf : f ∈ fs.fns) (hg : isGlb sc (Str.ofString f) = true) (hp : xs.all plainE = true) (hA : All2 (Snd prog w h₀ P fs mg mb n C sc) args xs) :
    Snd prog w h₀ P fs mg mb n C sc (.call f args) (.Call (.Name (Str.ofString f) p) xs [] pos) := by
  have hE : SoundE prog w h₀ P fs mg mb n C (.call f args) (.Call (.Name (Str.ofString f) p) xs [] pos) sc := by
    intro env ρ β H s A Q X E' a hw
    dsimp only [e_none, e_bool, e_int, e_str, e_var, e_glob, e_op, e_mcall, e_and, e_or, e_not, e_ife, e_chain, e_call, e_compR, e_compS] at hw
    obtain ⟨r, ob, fd, hr, ho, hd⟩ := a.names.fn f hf
    obtain ⟨hk, hdb⟩ := isGlb_kind hg a.sc
    refine wpAny_Call_Name_kw (name_global a.er.kind a.er.glob (a.names.keeps a.sr.kept).g hk hdb hr ?_)
    refine Calls.callWith_function (o := ob) (fd := fd) (wpList_args hp (wpList_mono (list_of hA a hw) fun us s1 h1 => ?_))
    obtain ⟨β1, vs, H1, hcall, t1, sr1, vr1⟩ := h1
    refine ⟨⟨sr1.kept _ _ ho, hd⟩, ?_⟩
    rw [List.nil_append]
    have a1 := a.step t1 sr1
    exact wpAny_mono (hC f hf r hr vs H1 Q X hcall A β1 s1 E' us a.amb sr1 vr1 a1.frs a1.exc) (fun _ _ q => q.after t1) fun _ _ e => e
  exact ⟨hE, hE.toT fun _ => rfl⟩

theorem op_snd {sc : Scope} {p : Prim} {args : List E} {x : Expr} {xs : List Expr} (ho : OpA sc p x xs) (hp : xs.all plainE = true) (hA : All2 (Snd prog w h₀ P fs mg mb n C sc) args xs) : Snd prog w h₀ P fs mg mb n C sc (.op p args) x := by
  have hE : SoundE prog w h₀ P fs mg mb n C (.op p args) x sc := by
    intro env ρ β H s A Q X E' a hw
    dsimp only [e_none, e_bool, e_int, e_str, e_var, e_glob, e_op, e_mcall, e_and, e_or, e_not, e_ife, e_chain, e_call, e_compR, e_compS] at hw
    exact op_sound ho hp a.frm a.sr.kept a.amb (wpList_mono (list_of hA a hw) fun us s1 h1 => ready_of h1)
  refine ⟨hE, ?_⟩
  by_cases hc : ∃ o, p = .cmp o
  · obtain ⟨o, rfl⟩ := hc
    intro env ρ β H s A k X E' a hw
    dsimp only [e_none, e_bool, e_int, e_str, e_var, e_glob, e_op, e_mcall, e_and, e_or, e_not, e_ife, e_chain, e_call, e_compR, e_compS] at hw
    cases ho with
    | cmp _ hm =>
      refine wpAny_isTrue_Compare1 (wpAny_mono (list_of hA a hw) (fun a' s1 h1 => wpAny_mono h1 (fun b' s2 h2 => ?_) fun _ _ e => e) fun _ _ e => e) hm
      obtain ⟨β1, vs, H1, v, H2, hpr, vr, sr, kk⟩ := ready_of h2
      obtain ⟨v1, v2, rfl, va, vb⟩ := vrs2 vr
      obtain ⟨rr, hr, e⟩ := Option.map_eq_some_iff.mp hpr
      cases e
      refine cmp_sound hr va vb a.amb.room (fun u s' β' st sr' vr' => ?_) sr
      obtain ⟨β3, v3, H3, hb3, t3, sr3, vr3⟩ := kk u s' β' st sr' vr'
      exact truthy_of hb3 t3 sr3 vr3
  · exact hE.toT (isTrue_op ho fun o e => hc ⟨o, e⟩)

theorem sound (hC : CallOK prog w h₀ fs mg n C.call) (hG : C.glob = P.glob) (e : E) (x : Expr) (sc : Scope) (h : ME fs sc e x) : Snd prog w h₀ P fs mg mb n C sc e x := by
  refine ME.rec (motive_1 := fun sc e x _ => Snd prog w h₀ P fs mg mb n C sc e x) (motive_2 := fun sc es xs _ => All2 (Snd prog w h₀ P fs mg mb n C sc) es xs) ?_ ?_ ?_ ?_ ?_ ?_ ?_ ?_ ?_ ?_ ?_ ?_ ?_ ?_ ?_ ?_ ?_ ?_ h
  · intro sc kk pos
    have hE : SoundE prog w h₀ P fs mg mb n C .none (.Constant .none kk pos) sc := fun env ρ β H s A Q X E' a hw => wpAny_Constant_none (PE.now hw a.sr .none)
    exact ⟨hE, hE.toT fun _ => rfl⟩
  · intro sc b kk pos
    have hE : SoundE prog w h₀ P fs mg mb n C (.bool b) (.Constant (.bool b) kk pos) sc := fun env ρ β H s A Q X E' a hw => wpAny_Constant_bool (PE.now hw a.sr (.bool _))
    exact ⟨hE, hE.toT fun _ => rfl⟩
  · intro sc i kk pos
    have hE : SoundE prog w h₀ P fs mg mb n C (.int i) (.Constant (.int i) kk pos) sc := fun env ρ β H s A Q X E' a hw => wpAny_Constant_int (PE.tok hw a.sr (.int _ _))
    exact ⟨hE, hE.toT fun _ => rfl⟩
  · intro sc y kk pos
    have hE : SoundE prog w h₀ P fs mg mb n C (.str y) (.Constant (.str (Str.ofString y)) kk pos) sc := fun env ρ β H s A Q X E' a hw => wpAny_Constant_str (PE.tok hw a.sr (.str _ _))
    exact ⟨hE, hE.toT fun _ => rfl⟩
  · intro sc y pos h
    have hE : SoundE prog w h₀ P fs mg mb n C (.var y) (.Name (Str.ofString y) pos) sc := by
      intro env ρ β H s A Q X E' a hw
      dsimp only [e_none, e_bool, e_int, e_str, e_var, e_glob, e_op, e_mcall, e_and, e_or, e_not, e_ife, e_chain, e_call, e_compR, e_compS] at hw
      obtain ⟨v, hv, hw⟩ := oE_ex hw
      exact sound_var a h hv fun u hu => PE.now hw a.sr hu
    exact ⟨hE, hE.toT fun _ => rfl⟩
  · intro sc y pos hg
    have hE : SoundE prog w h₀ P fs mg mb n C (.glob y) (.Name (Str.ofString y) pos) sc := by
      intro env ρ β H s A Q X E' a hw
      dsimp only [e_none, e_bool, e_int, e_str, e_var, e_glob, e_op, e_mcall, e_and, e_or, e_not, e_ife, e_chain, e_call, e_compR, e_compS] at hw
      obtain ⟨v, hv, hw⟩ := oE_ex hw
      rw [hG] at hv
      obtain ⟨u, hu, hr⟩ := a.names.glob y v hv
      obtain ⟨hk, hd⟩ := isGlb_kind hg a.sc
      exact name_global a.er.kind a.er.glob (a.names.keeps a.sr.kept).g hk hd hu (PE.now hw a.sr hr.nil_any)
    exact ⟨hE, hE.toT fun _ => rfl⟩
  · intro sc p args x xs ho h ih
    exact op_snd ho h.plain ih
  · intro sc p m o o' x1 args apos pos hm h2 h4 h5 h6 hO hA
    have hpl := h6.plain
    have hE : SoundE prog w h₀ P fs mg mb n C (.mcall p o args) (.Call (.Attribute o' (Str.ofString m) apos) [x1] [] pos) sc := by
      intro env ρ β H s A Q X E' a hw
      dsimp only [e_none, e_bool, e_int, e_str, e_var, e_glob, e_op, e_mcall, e_and, e_or, e_not, e_ife, e_chain, e_call, e_compR, e_compS] at hw
      refine meth_sound (h₀ := h₀) hm h2 (by simpa using hpl) h4 (wpAny_mono (hO.1 env ρ β H s A _ X E' a hw) (fun ov s1 h1 => ?_) fun _ _ e => e)
      obtain ⟨β1, v, H1, ⟨hr, hw1⟩, t1, sr1, vr1⟩ := h1
      refine ⟨⟨β1, v, H1, hr, vr1, sr1⟩, wpAny_mono (list_of hA (a.step t1 sr1) hw1) (fun u s2 h2 => ?_) fun _ _ e => e⟩
      obtain ⟨β2, vs, H2, hp2, t2, sr2, vr2⟩ := h2
      exact ready_of ⟨β2, v :: vs, H2, hp2, t1.trans t2, sr2, .cons (vr1.mono t2.grow) vr2⟩
    exact ⟨hE, hE.toT fun _ => rfl⟩
  · intro sc es x xs p h hA
    refine ⟨fun env ρ β H s A Q X E' a hw => ?_, fun env ρ β H s A k X E' a hw => ?_⟩
    · dsimp only [e_none, e_bool, e_int, e_str, e_var, e_glob, e_op, e_mcall, e_and, e_or, e_not, e_ife, e_chain, e_call, e_compR, e_compS] at hw
      exact and_val hA (List.cons_ne_nil _ _) a hw
    · dsimp only [e_none, e_bool, e_int, e_str, e_var, e_glob, e_op, e_mcall, e_and, e_or, e_not, e_ife, e_chain, e_call, e_compR, e_compS] at hw
      exact wpAny_isTrue_BoolOp (and_true hA a hw)
  · intro sc es x xs p h hA
    refine ⟨fun env ρ β H s A Q X E' a hw => ?_, fun env ρ β H s A k X E' a hw => ?_⟩
    · dsimp only [e_none, e_bool, e_int, e_str, e_var, e_glob, e_op, e_mcall, e_and, e_or, e_not, e_ife, e_chain, e_call, e_compR, e_compS] at hw
      exact or_val hA (List.cons_ne_nil _ _) a hw
    · dsimp only [e_none, e_bool, e_int, e_str, e_var, e_glob, e_op, e_mcall, e_and, e_or, e_not, e_ife, e_chain, e_call, e_compR, e_compS] at hw
      exact wpAny_isTrue_BoolOp (or_true hA a hw)
  · intro sc e y p h hS
    refine ⟨fun env ρ β H s A Q X E' a hw => ?_, fun env ρ β H s A k X E' a hw => ?_⟩
    · dsimp only [e_none, e_bool, e_int, e_str, e_var, e_glob, e_op, e_mcall, e_and, e_or, e_not, e_ife, e_chain, e_call, e_compR, e_compS] at hw
      refine wpAny_UnaryOp (wpAny_mono (hS.1 env ρ β H s A _ X E' a hw) (fun u s1 h1 => ?_) fun _ _ e => e)
      obtain ⟨β1, v, H1, hb, t1, sr1, vr1⟩ := h1
      obtain ⟨b, rfl, rfl, hk⟩ := bool_of hb vr1
      exact not_value (wpAny_truthy_bool ⟨β1, _, H1, hk, t1, sr1, .bool _⟩)
    · dsimp only [e_none, e_bool, e_int, e_str, e_var, e_glob, e_op, e_mcall, e_and, e_or, e_not, e_ife, e_chain, e_call, e_compR, e_compS] at hw
      refine wpAny_isTrue_Not (wpAny_mono (hS.2 env ρ β H s A (fun b H1 => k (!b) H1) X E' a hw) (fun b s1 ⟨b1, b2, b3, b4, b5⟩ => ⟨b1, b2, b3, b4, b5⟩) fun _ _ e => e)
  · intro sc c t f y1 y2 y3 p a1 a2 a3 h1 h2 h3
    refine ⟨fun env ρ β H s A Q X E' a hw => ?_, fun env ρ β H s A k X E' a hw => ?_⟩
    · dsimp only [e_none, e_bool, e_int, e_str, e_var, e_glob, e_op, e_mcall, e_and, e_or, e_not, e_ife, e_chain, e_call, e_compR, e_compS] at hw
      refine wpAny_IfExp (wpAny_mono (h1.2 env ρ β H s A _ X E' a hw) (fun b s1 hb => ?_) fun _ _ e => e)
      obtain ⟨β1, H1, hb, t1, sr1⟩ := hb
      cases b with
      | true => exact wpAny_mono (h2.1 env ρ β1 H1 s1 A Q X E' (a.step t1 sr1) (hb.1 rfl)) (fun _ _ q => q.after t1) fun _ _ e => e
      | false => exact wpAny_mono (h3.1 env ρ β1 H1 s1 A Q X E' (a.step t1 sr1) (hb.2 rfl)) (fun _ _ q => q.after t1) fun _ _ e => e
    · dsimp only [e_none, e_bool, e_int, e_str, e_var, e_glob, e_op, e_mcall, e_and, e_or, e_not, e_ife, e_chain, e_call, e_compR, e_compS] at hw
      refine PyProof.Rows.isTrue_IfExp (wpAny_mono (h1.2 env ρ β H s A _ X E' a hw) (fun b s1 hb => ?_) fun _ _ e => e)
      obtain ⟨β1, H1, hb, t1, sr1⟩ := hb
      cases b with
      | true => exact wpAny_mono (h2.2 env ρ β1 H1 s1 A k X E' (a.step t1 sr1) (hb.1 rfl)) (fun _ _ q => q.after t1) fun _ _ e => e
      | false => exact wpAny_mono (h3.2 env ρ β1 H1 s1 A k X E' (a.step t1 sr1) (hb.2 rfl)) (fun _ _ q => q.after t1) fun _ _ e => e
  · intro sc e1 e2 e3 o1 o2 l r r' p hm hm' h1 h2 h3 s1 s2 s3
    have hlm : lastMarks [cmpOf o1, cmpOf o2] [r, r'] = false := by simpa [lastMarks] using hm'
    refine ⟨fun env ρ β H s A Q X E' a hw => ?_, fun env ρ β H s A k X E' a hw => ?_⟩
    · dsimp only [e_none, e_bool, e_int, e_str, e_var, e_glob, e_op, e_mcall, e_and, e_or, e_not, e_ife, e_chain, e_call, e_compR, e_compS] at hw
      refine PyProof.Rows.Compare_chain (wpAny_mono (s1.1 env ρ β H s A _ X E' a hw) (fun ua q1 hq1 => ?_) fun _ _ e => e) hlm
      obtain ⟨β1, va, H1, hw1, t1, sr1, vr1⟩ := hq1
      have a1 := a.step t1 sr1
      refine PyProof.Rows.chain_link (wpAny_mono (s2.1 env ρ β1 H1 q1 A _ X E' a1 hw1) (fun ub q2 hq2 => ?_) fun _ _ e => e)
      obtain ⟨β2, vb, H2, hw2, t2, sr2, vr2⟩ := hq2
      unfold wP at hw2
      rw [p_cmpP] at hw2
      cases hcv : cmpV o1 va vb H2 with
      | none => rw [hcv] at hw2; exact hw2.elim
      | some bb =>
        rw [hcv] at hw2
        refine cmp_sound hcv (vr1.mono t2.grow) vr2 a.amb.room (fun u s' β' st sr' vr' => ?_) sr2
        cases vr' with
        | bool _ =>
          refine wpAny_truthy_bool ?_
          have hk : wIf bb _ _ := hw2
          have t12 := t1.trans (t2.trans st)
          cases bb with
          | false => exact ⟨β', _, H2, hk.2 rfl, t12, sr', .bool _⟩
          | true =>
            have a3 := a.step t12 sr'
            refine PyProof.Rows.chain_last (wpAny_mono (s3.1 env ρ β' H2 s' A _ X E' a3 (hk.1 rfl)) (fun uc q3 hq3 => ?_) fun _ _ e => e)
            obtain ⟨β3, vc, H3, hw3, t3, sr3, vr3⟩ := hq3
            try unfold wP at hw3
            try rw [p_cmpP] at hw3
            cases hcv3 : cmpV o2 vb vc H3 with
            | none => rw [hcv3] at hw3; exact hw3.elim
            | some b3 =>
              rw [hcv3] at hw3
              exact cmp_sound hcv3 (vr2.mono (st.grow.trans t3.grow)) vr3 a.amb.room (fun u s'' β'' st'' sr'' vr'' => ⟨β'', _, H3, hw3, (t12.trans t3).trans st'', sr'', vr''⟩) sr3
    · dsimp only [e_none, e_bool, e_int, e_str, e_var, e_glob, e_op, e_mcall, e_and, e_or, e_not, e_ife, e_chain, e_call, e_compR, e_compS] at hw
      refine PyProof.Rows.isTrue_chain (wpAny_mono (s1.1 env ρ β H s A _ X E' a hw) (fun ua q1 hq1 => ?_) fun _ _ e => e) hlm
      obtain ⟨β1, va, H1, hw1, t1, sr1, vr1⟩ := hq1
      have a1 := a.step t1 sr1
      refine PyProof.Rows.test_link (wpAny_mono (s2.1 env ρ β1 H1 q1 A _ X E' a1 hw1) (fun ub q2 hq2 => ?_) fun _ _ e => e)
      obtain ⟨β2, vb, H2, hw2, t2, sr2, vr2⟩ := hq2
      unfold wP at hw2
      rw [p_cmpP] at hw2
      cases hcv : cmpV o1 va vb H2 with
      | none => rw [hcv] at hw2; exact hw2.elim
      | some bb =>
        rw [hcv] at hw2
        refine cmp_sound hcv (vr1.mono t2.grow) vr2 a.amb.room (fun u s' β' st sr' vr' => ?_) sr2
        cases vr' with
        | bool _ =>
          refine wpAny_truthy_bool ?_
          have hk : wIf bb _ _ := hw2
          have t12 := t1.trans (t2.trans st)
          cases bb with
          | false => exact ⟨β', H2, hk.2 rfl, t12, sr'⟩
          | true =>
            have a3 := a.step t12 sr'
            refine PyProof.Rows.test_last (wpAny_mono (s3.1 env ρ β' H2 s' A _ X E' a3 (hk.1 rfl)) (fun uc q3 hq3 => ?_) fun _ _ e => e)
            obtain ⟨β3, vc, H3, hw3, t3, sr3, vr3⟩ := hq3
            try unfold wP at hw3
            try rw [p_cmpP] at hw3
            cases hcv3 : cmpV o2 vb vc H3 with
            | none => rw [hcv3] at hw3; exact hw3.elim
            | some b3 =>
              rw [hcv3] at hw3
              exact cmp_sound hcv3 (vr2.mono (st.grow.trans t3.grow)) vr3 a.amb.room (fun u s'' β'' st'' sr'' vr'' => by
                cases vr'' with | bool _ => exact wpAny_truthy_bool ⟨β'', H3, hw3, (t12.trans t3).trans st'', sr''⟩) sr3
  · intro sc f args xs p pos hf hg h ih
    exact call_sound hC hf hg h.plain ih
  · intro sc scope elt y args conds el xs ifs px gp rp pos h2 h4 h8 h5 h6 h7 sA sE sI0
    have sI := ifs_of sI0 h8
    have hE : SoundE prog w h₀ P fs mg mb n C (.compR elt y args conds) (.ListComp el [⟨.Name (Str.ofString y) px, .Call (.Name (Str.ofString "range") gp) xs [] rp, ifs, 0⟩] scope pos) sc := by
      intro env ρ β H s A Q X E' a hw
      dsimp only [e_none, e_bool, e_int, e_str, e_var, e_glob, e_op, e_mcall, e_and, e_or, e_not, e_ife, e_chain, e_call, e_compR, e_compS] at hw
      exact comp_value a (compOk_of h4) sE.1 sI range_folded (src_range (X := X) (W := fun G items H₁ => wLoop G (compStep C elt conds ρ y noX) items [] H₁ (fun acc H5 => Q (V.ref (List.length H5)) (H5 ++ [O.list acc]))) sA h5.plain h2 a hw)
    exact ⟨hE, hE.toT fun _ => rfl⟩
  · intro sc scope elt src y conds el it ifs px pos h4 h8 h5 h6 h7 sS sE sI0
    have sI := ifs_of sI0 h8
    have hE : SoundE prog w h₀ P fs mg mb n C (.compS elt (.one y) src conds) (.ListComp el [⟨.Name (Str.ofString y) px, it, ifs, 0⟩] scope pos) sc := by
      intro env ρ β H s A Q X E' a hw
      dsimp only [e_compS, t_one, oE_some] at hw
      exact comp_value a (compOk_of h4) sE.1 sI (folded_of h5) (src_seq (X := X) (W := fun G items H₁ => wLoop G (compStep C elt conds ρ y noX) items [] H₁ (fun acc H5 => Q (V.ref (List.length H5)) (H5 ++ [O.list acc]))) sS a hw)
    exact ⟨hE, hE.toT fun _ => rfl⟩
  · intro sc; exact .nil
  · intro sc e es x xs h1 h2 i1 i2; exact .cons i1 i2

theorem soundAll (hC : CallOK prog w h₀ fs mg n C.call) (hG : C.glob = P.glob) : ∀ (es : List E) (xs : List Expr) (sc : Scope), MEs fs sc es xs → All2 (Snd prog w h₀ P fs mg mb n C sc) es xs
  | [], xs, sc, h => by cases h; exact .nil
  | e :: es, xs, sc, h => by
    cases h with
    | cons h1 h2 => exact .cons (sound hC hG e _ sc h1) (soundAll hC hG es _ sc h2)

end
end Mine

namespace Mine
open PySem

noncomputable def isLoc (sc : Scope) (x : Str) : Bool := match sc.names.lookup x with
  | some .local | some .cell => x != (".0" : Str)
  | _ => false

noncomputable def isComp : Expr → Bool
  | .ListComp .. | .SetComp .. | .DictComp .. => true
  | _ => false


mutual
inductive MS (fs : Tab) (sc : Scope) : S → Stmt → Prop where
  | assign {x : String} {e : E} {v : Expr} {p pos : Pos} : isLoc sc (Str.ofString x) = true → isComp v = false → ME fs sc e v → MS fs sc (.assign x e) (.Assign [.Name (Str.ofString x) p] v pos)
  | assignR {scope : Scope} {elt : E} {y x : String} {args conds : List E} {el : Expr} {xs ifs : List Expr} {tp gp cp lp p pos : Pos} : isLoc sc (Str.ofString y) = true → isGlb sc (Str.ofString "range") = true → compOk sc scope (Str.ofString x) = true → ifs.length ≤ 1 →
      MEs fs sc args xs → ME fs scope elt el → MEs fs scope conds ifs → MS fs sc (.assign y (.compR elt x args conds)) (.Assign [.Name (Str.ofString y) p] (.ListComp el [⟨.Name (Str.ofString x) tp, .Call (.Name (Str.ofString "range") gp) xs [] cp, ifs, 0⟩] scope lp) pos)
  | assignS {scope : Scope} {elt src : E} {y x : String} {conds : List E} {el it : Expr} {ifs : List Expr} {tp lp p pos : Pos} : isLoc sc (Str.ofString y) = true → compOk sc scope (Str.ofString x) = true → ifs.length ≤ 1 →
      ME fs sc src it → ME fs scope elt el → MEs fs scope conds ifs → MS fs sc (.assign y (.compS elt (.one x) src conds)) (.Assign [.Name (Str.ofString y) p] (.ListComp el [⟨.Name (Str.ofString x) tp, it, ifs, 0⟩] scope lp) pos)
  | setItem {o i e : E} {o' i' v : Expr} {p pos : Pos} : ME fs sc e v → ME fs sc o o' → ME fs sc i i' → MS fs sc (.setItem o i e) (.Assign [.Subscript o' i' p] v pos)
  | expr {e : E} {v : Expr} {p : Pos} : isComp v = false → ME fs sc e v → MS fs sc (.expr e) (.Expr v p)
  | ret {e : E} {v : Expr} {p : Pos} : ME fs sc e v → MS fs sc (.ret e) (.Return (some v) p)
  | retN {p : Pos} : MS fs sc .retN (.Return none p)
  | ite {c : E} {a b : List S} {t : Expr} {x y : List Stmt} {p : Pos} : ME fs sc c t → MSs fs sc a x → MSs fs sc b y → MS fs sc (.ite c a b) (.If t x y p)
  | forR {x : String} {args : List E} {body : List S} {xs : List Expr} {bd : List Stmt} {tp gp cp p : Pos} : isLoc sc (Str.ofString x) = true → isGlb sc (Str.ofString "range") = true → MEs fs sc args xs → MSs fs sc body bd →
      MS fs sc (.forR x args body) (.For (.Name (Str.ofString x) tp) (.Call (.Name (Str.ofString "range") gp) xs [] cp) bd [] p)
  | forS {x : String} {src : E} {body : List S} {it : Expr} {bd : List Stmt} {tp p : Pos} : isLoc sc (Str.ofString x) = true → ME fs sc src it → MSs fs sc body bd → MS fs sc (.forS x src body) (.For (.Name (Str.ofString x) tp) it bd [] p)
  | while_ {c : E} {body : List S} {t : Expr} {bd : List Stmt} {p : Pos} : ME fs sc c t → MSs fs sc body bd → MS fs sc (.while_ c body) (.While t bd [] p)
  | raise {c m : String} {k : Nat} {np kp cp p : Pos} : c ∈ fs.excs → isGlb sc (Str.ofString c) = true → MS fs sc (.raise c m) (.Raise (some (.Call (.Name (Str.ofString c) np) [.Constant (.str (Str.ofString m)) k kp] [] cp)) none p)
inductive MSs (fs : Tab) (sc : Scope) : List S → List Stmt → Prop where
  | nil : MSs fs sc [] []
  | cons {e : S} {es : List S} {x : Stmt} {xs : List Stmt} : MS fs sc e x → MSs fs sc es xs → MSs fs sc (e :: es) (x :: xs)
end


noncomputable def chkA (fs : Tab) (sc : Scope) (y : String) (e : E) (v : Expr) (p pos : Pos) : Ok (MS fs sc (.assign y e) (.Assign [.Name (Str.ofString y) p] v pos)) := match isComp v with
  | false => oif (isLoc sc (Str.ofString y) = true ∧ isComp v = false) fun h => o1 (chkE fs sc e v) fun h1 => .assign h.1 h.2 h1
  | true => match e, v with
    | .compR elt x args conds, .ListComp el [⟨.Name t _, .Call (.Name g _) xs [] _, ifs, 0⟩] scope _ => oif ((t = Str.ofString x ∧ g = Str.ofString "range") ∧ isLoc sc (Str.ofString y) = true ∧ isGlb sc (Str.ofString "range") = true ∧ compOk sc scope (Str.ofString x) = true ∧ ifs.length ≤ 1) fun h =>
        o3 (chkEs fs sc args xs) (chkE fs scope elt el) (chkEs fs scope conds ifs) fun h1 h2 h3 => by obtain ⟨⟨rfl, rfl⟩, a, b, c, d⟩ := h; exact .assignR a b c d h1 h2 h3
    | .compS elt (.one x) src conds, .ListComp el [⟨.Name t _, it, ifs, 0⟩] scope _ => oif (t = Str.ofString x ∧ isLoc sc (Str.ofString y) = true ∧ compOk sc scope (Str.ofString x) = true ∧ ifs.length ≤ 1) fun h =>
        o3 (chkE fs sc src it) (chkE fs scope elt el) (chkEs fs scope conds ifs) fun h1 h2 h3 => by obtain ⟨rfl, a, b, c⟩ := h; exact .assignS a b c h1 h2 h3
    | _, _ => none

mutual
noncomputable def chkS (fs : Tab) (sc : Scope) : (e : S) → (x : Stmt) → Ok (MS fs sc e x)
  | .assign x e, .Assign [.Name id p] v pos => oif (id = Str.ofString x) fun q => (chkA fs sc x e v p pos).map fun h => ⟨by subst q; exact h.down⟩
  | .setItem o i e, .Assign [.Subscript o' i' _] v _ => o3 (chkE fs sc e v) (chkE fs sc o o') (chkE fs sc i i') .setItem
  | .expr e, .Expr v _ => oif (isComp v = false) fun h => o1 (chkE fs sc e v) (.expr h)
  | .ret e, .Return (some v) _ => o1 (chkE fs sc e v) .ret
  | .retN, .Return none _ => some ⟨.retN⟩
  | .ite c a b, .If t x y _ => o3 (chkE fs sc c t) (chkSs fs sc a x) (chkSs fs sc b y) .ite
  | .forR x args body, .For (.Name id _) (.Call (.Name g _) xs [] _) bd [] _ => oif ((id = Str.ofString x ∧ g = Str.ofString "range") ∧ isLoc sc (Str.ofString x) = true ∧ isGlb sc (Str.ofString "range") = true) fun h =>
      o2 (chkEs fs sc args xs) (chkSs fs sc body bd) fun h1 h2 => by obtain ⟨⟨rfl, rfl⟩, a, b⟩ := h; exact .forR a b h1 h2
  | .forS x src body, .For (.Name id _) it bd [] _ => oif (id = Str.ofString x ∧ isLoc sc (Str.ofString x) = true) fun h => o2 (chkE fs sc src it) (chkSs fs sc body bd) fun h1 h2 => by obtain ⟨rfl, a⟩ := h; exact .forS a h1 h2
  | .while_ c body, .While t bd [] _ => o2 (chkE fs sc c t) (chkSs fs sc body bd) .while_
  | .raise c m, .Raise (some (.Call (.Name id _) [.Constant (.str y) _ _] [] _)) none _ => oif ((id = Str.ofString c ∧ y = Str.ofString m) ∧ c ∈ fs.excs ∧ isGlb sc (Str.ofString c) = true) fun h => some ⟨by obtain ⟨⟨rfl, rfl⟩, a, b⟩ := h; exact .raise a b⟩
  | _, _ => none
noncomputable def chkSs (fs : Tab) (sc : Scope) : (es : List S) → (xs : List Stmt) → Ok (MSs fs sc es xs)
  | [], [] => some ⟨.nil⟩
  | e :: es, x :: xs => o2 (chkS fs sc e x) (chkSs fs sc es xs) .cons
  | _, _ => none
end

noncomputable def FlowR (β : List Addr) : Option V → Flow → Prop
  | none, f => f = .next
  | some v, f => ∃ u, f = .ret u ∧ VR β v u

inductive PS (h₀ : Heap) (env : PySem.Env) (β : List Addr) (s : Shared) (k : SPost) (f : Flow) (s' : Shared) : Prop
  | mk (r : Option V) (β' : List Addr) (ρ' : Env) (H' : Hp) : k r ρ' H' → FlowR β' r f → StepF env β s β' s' → SR h₀ β' H' s'.heap → (r = none → ER env ρ' β' s'.heap) → PS h₀ env β s k f s'

section
variable {prog : Program} {w : World} {h₀ : Heap} {P : Prog} {fs : Tab} {mg mb : Str → Option Value} {n : Nat} {C : Ctx}

theorem PS.after {env : PySem.Env} {β β' : List Addr} {s s' s'' : Shared} {k : SPost} {f : Flow} (t : StepF env β s β' s') (h : PS h₀ env β' s' k f s'') : PS h₀ env β s k f s'' :=
  let ⟨r, b, ρ, H, a, c, d, e, g⟩ := h; ⟨r, b, ρ, H, a, c, t.trans d, e, g⟩

/-- the frame's objects are above the base -/
noncomputable def OwnNew (h₀ : Heap) (env : PySem.Env) : Prop := ∀ b, Own env b → h₀.get? b = Option.none

theorem er_local {env : PySem.Env} {ρ : Env} {β : List Addr} {h h' : Heap} {x : String} {v : V} {u : Value} {m : Str → Option Value} (er : ER env ρ β h) (hm : h.Ns env.locals m ∧ ∀ x v, ρ x = some v → env.kindOf (Str.ofString x) = some .local → Str.ofString x ≠ (".0" : Str) → ∃ u, m (Str.ofString x) = some u ∧ VR β v u)
    (hk : env.kindOf (Str.ofString x) = some .local) (hv : VR β v u) (hn : h'.Ns env.locals (fun y => if y = Str.ofString x then some u else m y)) (hs : Heap.SameBut env.locals h h') : ER env (ρ.set x v) β h' := by
  refine ⟨er.kind, er.glob, er.bltn, ⟨_, hn, fun y v' hy hky hd => ?_⟩, fun y c hc => ?_, fun y v' hy hky => ?_, er.has, er.apart, er.locs, er.cells⟩
  · by_cases e : y = x
    · subst e
      have : v' = v := by simpa [Env.set] using hy.symm
      subst this; exact ⟨u, by simp, hv⟩
    · have hy' : ρ y = some v' := by simpa [Env.set, beq_eq_false_iff_ne.mpr e] using hy
      obtain ⟨u', hu', hr⟩ := hm.2 y v' hy' hky hd
      exact ⟨u', by rw [if_neg (ofString_ne e)]; exact hu', hr⟩
  · obtain ⟨u', hu'⟩ := er.cell y c hc
    exact ⟨u', hu'.sameBut hs (er.cells y c hc).2⟩
  · by_cases e : y = x
    · subst e; rw [hk] at hky; simp at hky
    · have hy' : ρ y = some v' := by simpa [Env.set, beq_eq_false_iff_ne.mpr e] using hy
      obtain ⟨c, u', hc, hic, hr⟩ := er.held y v' hy' hky
      exact ⟨c, u', hc, hic.sameBut hs (er.cells _ c hc).2, hr⟩

theorem er_cell {env : PySem.Env} {ρ : Env} {β : List Addr} {h h' : Heap} {x : String} {v : V} {u : Value} {c : Addr} (er : ER env ρ β h) (hk : env.kindOf (Str.ofString x) = some .cell) (hc : env.cells.lookup (Str.ofString x) = some c) (hv : VR β v u)
    (hn : h'.IsCell c (some u)) (hs : Heap.SameBut c h h') : ER env (ρ.set x v) β h' := by
  obtain ⟨m, hm, hm2⟩ := er.ns
  refine ⟨er.kind, er.glob, er.bltn, ⟨m, hm.sameBut hs (Ne.symm (er.cells _ c hc).2), fun y v' hy hky hd => ?_⟩, fun y c' hc' => ?_, fun y v' hy hky => ?_, er.has, er.apart, er.locs, er.cells⟩
  · have e : y ≠ x := by rintro rfl; (first | exact clash hk hky | exact clash hky hk | (rw [hk] at hky; cases hky))
    have hy' : ρ y = some v' := by simpa [Env.set, beq_eq_false_iff_ne.mpr e] using hy
    exact hm2 y v' hy' hky hd
  · by_cases e : c' = c
    · subst e; exact ⟨_, hn⟩
    · obtain ⟨u', hu'⟩ := er.cell y c' hc'; exact ⟨u', hu'.sameBut hs e⟩
  · by_cases e : y = x
    · subst e
      have : v' = v := by simpa [Env.set] using hy.symm
      subst this; exact ⟨c, u, hc, hn, hv⟩
    · have hy' : ρ y = some v' := by simpa [Env.set, beq_eq_false_iff_ne.mpr e] using hy
      obtain ⟨c', u', hc', hic, hr⟩ := er.held y v' hy' hky
      have : c' ≠ c := by rintro rfl; exact e (ofString_inj (er.apart _ _ _ hc' hc))
      exact ⟨c', u', hc', hic.sameBut hs this, hr⟩

/-- a name of the frame is stored -/
theorem store_sound {sc : Scope} {env : PySem.Env} {ρ : Env} {β : List Addr} {H : Hp} {s : Shared} {A : Around} {x : String} {v : V} {u : Value} {Q : Unit → Shared → Prop} {E : Value → Shared → Prop} {X : XP} {E' : Value → Shared → Prop} (a : At P fs mg mb h₀ n sc env ρ β H s A X E') (hl : isLoc sc (Str.ofString x) = true) (sceq : env.scope = sc)
    (hon : OwnNew h₀ env) (hv : VR β v u) (h : ∀ s', StepF env β s β s' → SR h₀ β H s'.heap → ER env (ρ.set x v) β s'.heap → Q () s') : wpAny (model prog w) A (storeName env (Str.ofString x) u) Q E s := by
  have hko : ∀ y, env.kindOf y = sc.names.lookup y := fun y => by rw [← sceq]; rfl
  have fin : ∀ (h' : Heap) (tk : Nat) (c : Addr), Own env c → DAt s.heap h' c → Heap.SameBut c s.heap h' → ER env (ρ.set x v) β h' → Q () { s with heap := h', toks := tk } := by
    intro h' tk c hc hex hs er'
    refine h _ ⟨⟨_, _, rfl⟩, List.prefix_refl _, fun b hb hb' => .of fun o e => hs.extBut b o (by rintro rfl; exact hb' hc) e, fun b hb => .inl hb, fun b hb => ?_⟩ (a.sr.other fun b o e q => hs.extBut b o ?_ e) er'
    · by_cases e : b = c
      · subst e; exact hex
      · exact (KAt.of fun o ho => hs.extBut b o e ho).d
    · rintro rfl
      rcases q with q | ⟨o', q⟩
      · exact a.er.disj _ hc q
      · (first | exact clash (hon _ hc) q | exact clash q (hon _ hc) | (rw [hon _ hc] at q; cases q))
  unfold isLoc at hl
  split at hl
  · rename_i e
    rw [← hko] at e
    obtain ⟨m, hn, hm⟩ := a.er.ns
    refine wpAny_storeName_local e hn (fun h' hn' hs => fin h' _ env.locals (.inl rfl) ?_ hs (er_local a.er ⟨hn, hm⟩ e hv hn' hs)) (by rw [a.er.kind]; rfl)
    obtain ⟨o, es, ep, eo, ed, _⟩ := hn'; exact fun _ _ => ⟨o, eo, fun _ => ⟨es, ep, ed⟩⟩
  · rename_i e
    rw [← hko] at e
    obtain ⟨c, hc⟩ := a.er.has _ (.inl e)
    obtain ⟨u', hu'⟩ := a.er.cell _ c hc
    refine wpAny_storeName_cell a.er.kind e hc hu' fun h' hn' hs => fin h' s.toks c (.inr ⟨_, hc⟩) ?_ hs (er_cell a.er e hc hv hn' hs)
    obtain ⟨o, eo, _⟩ := hn'
    obtain ⟨o1, eo1, ed1⟩ := hu'
    exact fun o2 e2 => ⟨o, eo, fun ⟨es, ep, q⟩ => by (first | exact clash eo1 e2 | exact clash e2 eo1 | (rw [eo1] at e2; cases e2)); (first | exact clash ed1 q | exact clash q ed1 | (rw [ed1] at q; cases q))⟩
  · cases hl

end
end Mine

namespace Mine
open PySem
end Mine

namespace Mine
open PySem

section
variable {prog : Program} {w : World} {h₀ : Heap} {P : Prog} {fs : Tab} {mg mb : Str → Option Value} {n : Nat} {C : Ctx}

theorem swaps_false {v : Expr} {t : Option Expr} {line : Nat} {env : PySem.Env} (h : isComp v = false) : swapsWith v t line env = pure false := by
  cases v <;> first | rfl | cases h

theorem swaps_sub {v o i : Expr} {p : Pos} {line : Nat} {env : PySem.Env} : swapsWith v (some (.Subscript o i p)) line env = pure false := by
  cases v <;> rfl

/-- a comprehension whose list goes to a name at once -/
theorem comp_use {A : Around} {E' : Value → Shared → Prop} {sc scope : Scope} {env : PySem.Env} {ρ : Env} {β : List Addr} {H : Hp} {s : Shared} {x y : String} {elt : E} {conds : List E} {el iter : Expr} {ifs : List Expr} {px py pos : Pos} {X : XP} {E₂ : Value → Shared → Prop} {Q : Post}
    (a : At P fs mg mb h₀ n sc env ρ β H s A X E₂) (sceq : env.scope = sc) (hon : OwnNew h₀ env) (hl : isLoc sc (Str.ofString y) = true) (ok : CompOk sc scope (Str.ofString x)) (hE : SoundE prog w h₀ P fs mg mb n C elt el scope) (hT : SoundIfs prog w h₀ P fs mg mb n C conds ifs scope)
    (hs : ∀ x, foldedSetIterable iter env x = pure x)
    (hsrc : wpAny (model prog w) A (eval iter env) (fun xv s₁ => wpAny (model prog w) A (pyIter xv) (SrcReady prog w A h₀ β s fun G items H₁ => wLoop G (compStep C elt conds ρ x noX) items [] H₁ (fun acc H5 => Q (V.ref (List.length H5)) (H5 ++ [O.list acc]))) E' s₁) E' s) :
    wpAny (model prog w) A (evalThenUse (.ListComp el [⟨.Name (Str.ofString x) px, iter, ifs, 0⟩] scope pos) env (assign (.Name (Str.ofString y) py) env)) (fun _ s' => ∃ β' v H', Q v H' ∧ StepF env β s β' s' ∧ SR h₀ β' H' s'.heap ∧ ER env (ρ.set y v) β' s'.heap) E' s := by
  show wpAny (model prog w) A (do let _ ← comprehension (.ListComp el [⟨.Name (Str.ofString x) px, iter, ifs, 0⟩] scope pos) scope env _ (newList []) false (eval iter env) (some (assign (.Name (Str.ofString y) py) env))) _ _ s
  refine wpAny_bind (wpAny_mono (comp_whole (use := some (assign (.Name (Str.ofString y) py) env)) (Q := fun _ s' => ∃ β' v H', Q v H' ∧ StepF env β s β' s' ∧ SR h₀ β' H' s'.heap ∧ ER env (ρ.set y v) β' s'.heap) a ok hE hT hs hsrc fun D Cf β' H' acc s' c hns hk => ?_) (fun _ _ q => wpAny_pure q) fun _ _ e => e)
  obtain ⟨st, sr, vr⟩ := c.adopt a.sr.kept
  have a' := a.step st sr
  show wpAny (model prog w) A (assign (.Name (Str.ofString y) py) env (.ref D)) _ _ s'
  refine wpAny_assign_Name (store_sound a' hl sceq hon vr fun s'' t sr'' er'' => ?_)
  obtain ⟨m, hn⟩ := hns
  have ownOld : ∀ b, Own env b → ∃ o, s.heap.get? b = some o := fun b hb => by
    rcases hb with rfl | ⟨z, hz⟩
    · obtain ⟨m, ⟨o, _, _, e, _⟩, _⟩ := a.er.ns; exact ⟨o, e⟩
    · obtain ⟨u, o, e, _⟩ := a.er.cell z b hz; exact ⟨o, e⟩
  have hCo : ¬ Own env Cf := fun hb => by obtain ⟨o, e⟩ := ownOld _ hb; (first | exact clash c.cnew e | exact clash e c.cnew | (rw [c.cnew] at e; cases e))
  have hCb : Cf ∉ β' ++ [D] := fun hm => by
    rcases List.mem_append.mp hm with q | q
    · exact c.cout q
    · simp at q; exact c.dc q.symm
  obtain ⟨h1, t1, rfl⟩ := t.same
  refine ⟨m, Heap_Ns_at hn (t.keep Cf hCb hCo), fun h' hs' => ?_⟩
  have hC₀ : h₀.get? Cf = Option.none := by
    cases e : h₀.get? Cf with
    | none => rfl
    | some o => have := a.sr.kept _ _ e; (first | exact clash c.cnew this | exact clash this c.cnew | (rw [c.cnew] at this; cases this))
  have tf : StepF env β s (β' ++ [D]) _ := (st.toF a.er.disj).trans t
  obtain ⟨h2, t2, e2⟩ := c.step.same
  subst e2
  refine ⟨β' ++ [D], _, _, hk, ⟨⟨_, _, rfl⟩, tf.grow, fun b hb ho o e => KAt.trans (tf.keep b hb ho) (.of fun o' e' => hs'.extBut b o' (by rintro rfl; (first | exact clash c.cnew e | exact clash e c.cnew | (rw [c.cnew] at e; cases e))) e') o e, tf.fresh, fun b ho => ?_⟩, sr''.other fun b o e q => hs'.extBut b o ?_ e,
    er''.other (.of fun o e => hs'.extBut _ o (by rintro rfl; exact hCo (.inl rfl)) e) (fun z c' hz => .of fun o e => hs'.extBut _ o (by rintro rfl; exact hCo (.inr ⟨z, hz⟩)) e)⟩
  · exact (tf.own b ho).trans (KAt.of fun o e => hs'.extBut b o (by rintro rfl; exact hCo ho) e).d
  · rintro rfl
    rcases q with q | ⟨o', q⟩
    · exact hCb q
    · (first | exact clash hC₀ q | exact clash q hC₀ | (rw [hC₀] at q; cases q))

structure AtS (prog : Program) (w : World) (P : Prog) (fs : Tab) (mg mb : Str → Option Value) (h₀ : Heap) (n : Nat) (sc : Scope) (env : PySem.Env) (ρ : Env) (β : List Addr) (H : Hp) (s : Shared) (A : Around) (X : XP) (E' : Value → Shared → Prop) : Prop where
  at_ : At P fs mg mb h₀ n sc env ρ β H s A X E'
  sceq : env.scope = sc
  own : OwnNew h₀ env
  top : ∃ l, A.frames = some (env :: l)
  pass : PassesOwn (model prog w) A env E'

theorem FrOK.stepF {h₀ : Heap} {l : List PySem.Env} {β β' : List Addr} {s s' : Shared} {env : PySem.Env} {ρ ρ' : Env} (_ : FrOK h₀ l β s.heap) (_ : ER env ρ β s.heap) (_ : StepF env β s β' s') (_ : ER env ρ' β' s'.heap) : FrOK h₀ l β' s'.heap := trivial

theorem AtS.step {sc env ρ β H s A β' H' s' ρ'} {X : XP} {E' : Value → Shared → Prop} (x : AtS prog w P fs mg mb h₀ n sc env ρ β H s A X E') (t : StepF env β s β' s') (sr : SR h₀ β' H' s'.heap) (er : ER env ρ' β' s'.heap) : AtS prog w P fs mg mb h₀ n sc env ρ' β' H' s' A X E' :=
  ⟨⟨x.at_.names, x.at_.amb, sr, er, x.at_.sc, let ⟨l, a, b⟩ := x.at_.frs; ⟨l, a, b.stepF x.at_.er t er⟩, x.at_.exc.step t sr⟩, x.sceq, x.own, x.top, x.pass⟩

noncomputable def SoundS (prog : Program) (w : World) (h₀ : Heap) (P : Prog) (fs : Tab) (mg mb : Str → Option Value) (n : Nat) (C : Ctx) (sc : Scope) (e : S) (x : Stmt) : Prop :=
  ∀ env ρ β H s A k X E', AtS prog w P fs mg mb h₀ n sc env ρ β H s A X E' → wS C e ρ H k X → wpAny (model prog w) A (exec x env) (PS h₀ env β s k) E' s
noncomputable def SoundSs (prog : Program) (w : World) (h₀ : Heap) (P : Prog) (fs : Tab) (mg mb : Str → Option Value) (n : Nat) (C : Ctx) (sc : Scope) (es : List S) (xs : List Stmt) : Prop :=
  ∀ env ρ β H s A k X E', AtS prog w P fs mg mb h₀ n sc env ρ β H s A X E' → wSs C es ρ H k X → wpAny (model prog w) A (execs xs env) (PS h₀ env β s k) E' s

/-- an assignment to a name -/
theorem assign_plain {sc : Scope} {env : PySem.Env} {ρ : Env} {β : List Addr} {H : Hp} {s : Shared} {A : Around} {y : String} {e : E} {v : Expr} {p pos : Pos} {k : SPost} {X : XP} {E' : Value → Shared → Prop} (hl : isLoc sc (Str.ofString y) = true) (hm : Snd prog w h₀ P fs mg mb n C sc e v)
    (a : AtS prog w P fs mg mb h₀ n sc env ρ β H s A X E') (hw : wE C e ρ H (fun v H1 => k none (ρ.set y v) H1) X) (hs : swapsWith v (some (.Name (Str.ofString y) p)) pos.line env = pure false) :
    wpAny (model prog w) A (exec (.Assign [.Name (Str.ofString y) p] v pos) env) (PS h₀ env β s k) E' s := by
  refine wpAny_Assign_Name (wpAny_mono (hm.1 env ρ β H s A _ _ E' a.at_ hw) (fun u s1 h1 => ?_) fun _ _ e => e) hs
  obtain ⟨β1, v1, H1, hk, t1, sr1, vr1⟩ := h1
  exact store_sound (a.at_.step t1 sr1) hl a.sceq a.own vr1 fun s' t' sr' er' => ⟨none, β1, _, H1, hk, rfl, (t1.toF a.at_.er.disj).trans t', sr', fun _ => er'⟩

theorem assign_comp {sc : Scope} {env : PySem.Env} {ρ : Env} {β : List Addr} {H : Hp} {s : Shared} {A : Around} {y : String} {e : E} {v : Expr} {p pos : Pos} {k : SPost} {X : XP} {E' : Value → Shared → Prop} (hl : isLoc sc (Str.ofString y) = true) (hm : Snd prog w h₀ P fs mg mb n C sc e v)
    (a : AtS prog w P fs mg mb h₀ n sc env ρ β H s A X E') (hw : wE C e ρ H (fun v H1 => k none (ρ.set y v) H1) X)
    (hu : wpAny (model prog w) A (evalThenUse v env (assign (.Name (Str.ofString y) p) env)) (fun _ s' => ∃ β' v H', k none (ρ.set y v) H' ∧ StepF env β s β' s' ∧ SR h₀ β' H' s'.heap ∧ ER env (ρ.set y v) β' s'.heap) E' s) (b : Bool) (hb : swapsWith v (some (.Name (Str.ofString y) p)) pos.line env = pure b) :
    wpAny (model prog w) A (exec (.Assign [.Name (Str.ofString y) p] v pos) env) (PS h₀ env β s k) E' s := by
  cases b with
  | false => exact assign_plain hl hm a hw hb
  | true =>
    rw [exec_Assign_Name_used _ _ _ _ hb]
    refine wpAny_bind (wpAny_standAt (wpAny_bind (wpAny_mono hu (fun _ s' q => wpAny_pure ?_) fun _ _ e => e)))
    obtain ⟨β', v', H', hk, t', sr', er'⟩ := q
    exact ⟨none, β', _, H', hk, rfl, t', sr', fun _ => er'⟩

theorem setItem_sound (hC : CallOK prog w h₀ fs mg n C.call) (hG : C.glob = P.glob) {sc : Scope} {o i e : E} {o' i' v : Expr} {p pos : Pos} (h1 : ME fs sc e v) (h2 : ME fs sc o o') (h3 : ME fs sc i i') :
    SoundS prog w h₀ P fs mg mb n C sc (.setItem o i e) (.Assign [.Subscript o' i' p] v pos) := by
  intro env ρ β H s A k X E' a hw
  rw [s_setItem] at hw
  refine wpAny_Assign_Subscript (wpAny_mono ((sound (mb := mb) hC hG e v sc h1).1 env ρ β H s A _ _ E' a.at_ hw) (fun u s1 q1 => ?_) fun _ _ e => e) swaps_sub
  obtain ⟨β1, v1, H1, hw1, t1, sr1, vr1⟩ := q1
  have a1 := a.at_.step t1 sr1
  refine wpAny_mono ((sound (mb := mb) hC hG o o' sc h2).1 env ρ β1 H1 s1 A _ _ E' a1 hw1) (fun uo s2 q2 => ?_) fun _ _ e => e
  obtain ⟨β2, v2, H2, hw2, t2, sr2, vr2⟩ := q2
  have a2 := a1.step t2 sr2
  refine wpAny_mono ((sound (mb := mb) hC hG i i' sc h3).1 env ρ β2 H2 s2 A _ _ E' a2 hw2) (fun ui s3 q3 => ?_) fun _ _ e => e
  obtain ⟨β3, v3, H3, hw3, t3, sr3, vr3⟩ := q3
  have a3 := a2.step t3 sr3
  have t13 := (t1.trans t2).trans t3
  obtain ⟨H4, hset, hw3⟩ := oE_ex hw3
  have vr1' := vr1.mono (t2.grow.trans t3.grow)
  have vr2' := vr2.mono t3.grow
  cases vr2' with
  | ref hr =>
    cases vr3 with
    | int idx tk =>
      simp only [setV] at hset
      split at hset
      · rename_i xs hx
        simp only [setAtV] at hset
        obtain ⟨ys, hy, rfl⟩ := Option.map_eq_some_iff.mp hset
        split at hy <;> cases hy
        rename_i hk
        refine p_setL hx hr hk.1 hk.2 vr1' (fun u' s' β' st sr' vr' => ?_) sr3
        have tt := t13.trans st
        exact ⟨none, β', ρ, _, hw3, rfl, tt.toF a.at_.er.disj, sr', fun _ => a.at_.er.step tt⟩
      · rename_i es hx
        obtain ⟨r', e', sl⟩ := sr3.at hx
        (first | exact clash hr e' | exact clash e' hr | (rw [hr] at e'; cases e'))
        cases sl with
        | own a b c => cases c
        | dict d1 d2 d3 d4 d5 d6 =>
          split at hset
          · rename_i hl; cases hset
            refine p_setD hr d1 d2 d3 d4 d5 hl vr1' (fun u' s' β' st sr' vr' => ?_) sr3
            have tt := t13.trans st
            exact ⟨none, β', ρ, _, hw3, rfl, tt.toF a.at_.er.disj, sr', fun _ => a.at_.er.step tt⟩
          · cases hset
      · cases hset
    | _ => simp [setV] at hset
  | _ => simp [setV] at hset

end
end Mine

namespace Mine
open PySem

section
variable {prog : Program} {w : World} {h₀ : Heap} {P : Prog} {fs : Tab} {mg mb : Str → Option Value} {n : Nat} {C : Ctx}

/-- a loop over what an iterator gives -/
theorem for_sound {sc : Scope} {env : PySem.Env} {ρ : Env} {β : List Addr} {H : Hp} {s : Shared} {A : Around} {y : String} {body : List S} {bd : List Stmt} {it : Expr} {px pos : Pos} {k : SPost} {X : SXP} {E' : Value → Shared → Prop}
    (a : AtS prog w P fs mg mb h₀ n sc env ρ β H s A X E') (hl : isLoc sc (Str.ofString y) = true) (hB : SoundSs prog w h₀ P fs mg mb n C sc body bd) (hs : ∀ x, foldedSetIterable it env x = pure x)
    (hsrc : wpAny (model prog w) A (eval it env) (fun xv s₁ => wpAny (model prog w) A (pyIter xv) (SrcReady prog w A h₀ β s fun G items H₁ => wFor G (fun v ρ' H' k' => wSs C body (ρ'.set y v) H' k' X) items ρ H₁ k) E' s₁) E' s) :
    wpAny (model prog w) A (exec (.For (.Name (Str.ofString y) px) it bd [] pos) env) (PS h₀ env β s k) E' s := by
  refine wpAny_For (wpAny_mono hsrc (fun xv s₁ q => wpAny_mono q (fun iv s₂ h₂ => ?_) fun _ _ e => e) fun _ _ e => e) hs
  obtain ⟨β₁, H₁, s₁, G, items, ⟨I, St, hI, tkI, rfl, rfl, kI, nI, st0, itr⟩, t₁, sr₁, hlen, hw⟩ := h₂
  have a₁ := a.at_.step t₁ sr₁
  have notNew : ∀ b, (∃ o, s₁.heap.get? b = some o) → b ≠ I := fun b ⟨o, e⟩ q => by rw [q, nI] at e; cases e
  have hI₀ : h₀.get? I = Option.none := by
    cases e : h₀.get? I with
    | none => rfl
    | some o => exact absurd rfl (notNew I ⟨o, sr₁.kept _ _ e⟩)
  have ownOld : ∀ b, Own env b → ∃ o, s₁.heap.get? b = some o := fun b hb => by
    rcases hb with rfl | ⟨z, hz⟩
    · obtain ⟨m, ⟨o, _, _, e, _⟩, _⟩ := a₁.er.ns; exact ⟨o, e⟩
    · obtain ⟨u, o, e, _⟩ := a₁.er.cell z b hz; exact ⟨o, e⟩
  have hIo : ¬ Own env I := fun hb => notNew I (ownOld I hb) rfl
  have hIβ : I ∉ β₁ := fun hm => notNew I (sr₁.mem hm) rfl
  refine codeAny_forLoop (fun kk s' => ∃ i β' ρ' H', kk = items.length + 1 - i ∧ i ≤ items.length ∧ StepF env β₁ s₁ β' s' ∧ St i s'.heap ∧ I ∉ β' ∧ SR h₀ β' H' s'.heap ∧ ER env ρ' β' s'.heap ∧
      wFor G (fun v ρ' H' k' => wSs C body (ρ'.set y v) H' k' X) (items.drop i) ρ' H' k) ?_ (items.length + 1)
    ⟨0, β₁, ρ, H₁, by omega, by omega, ⟨⟨_, _, rfl⟩, List.prefix_refl _, fun b _ _ => .of fun o e => kI b o e, fun b hb => .inl hb, fun b _ => (KAt.of fun o e => kI b o e).d⟩, st0, hIβ, sr₁.keeps kI, a₁.er.other (.of fun o e => kI _ _ e) (fun _ _ _ => .of fun o e => kI _ _ e), hw⟩
  rintro kk s' ⟨i, β', ρ', H', rfl, hi, tF, hst, hIb, sr', er', hwf⟩
  obtain ⟨h', tk', rfl⟩ := tF.same
  by_cases hlt : i < items.length
  · obtain ⟨v, hv⟩ : ∃ v, items[i]? = some v := ⟨_, List.getElem?_eq_getElem hlt⟩
    have hdrop : items.drop i = v :: items.drop (i + 1) := by
      rw [List.drop_eq_getElem_cons hlt]
      congr 1
      rw [List.getElem?_eq_getElem hlt] at hv; exact Option.some.inj hv
    rw [hdrop] at hwf
    obtain ⟨hG, hstep⟩ := hwf
    refine itr.item i v β' H' _ _ _ hv hst tF.grow sr' hG hIb fun u h₁ tk₁ hvu hst₁ hk₁ => ?_
    have sr₂ : SR h₀ β' H' h₁ := sr'.other fun b o e q => hk₁ b o (by
      rintro rfl
      rcases q with q | ⟨o', q⟩
      · exact hIb q
      · (first | exact clash hI₀ q | exact clash q hI₀ | (rw [hI₀] at q; cases q))) e
    have er₂ : ER env ρ' β' h₁ := er'.other (.of fun o e => hk₁ _ o (fun q => hIo (.inl q.symm)) e) (fun z c hz => .of fun o e => hk₁ _ o (fun q => hIo (.inr ⟨z, q ▸ hz⟩)) e)
    have tF₂ : StepF env β₁ s₁ β' { s₁ with heap := h₁, toks := tk₁ } :=
      ⟨⟨_, _, rfl⟩, tF.grow, fun b hb ho o e => KAt.trans (tF.keep b hb ho) (.of fun o' e' => hk₁ b o' (notNew b ⟨o, e⟩) e') o e, tF.fresh, fun b ho => (tF.own b ho).trans (KAt.of fun o e => hk₁ b o (notNew b (ownOld b ho)) e).d⟩
    have tF0 := (t₁.toF a.at_.er.disj).trans tF₂
    have a₂ : AtS prog w P fs mg mb h₀ n sc env ρ' β' H' { s₁ with heap := h₁, toks := tk₁ } A X E' := a.step tF0 sr₂ er₂
    refine wpAny_assign_Name (store_sound a₂.at_ hl a.sceq a.own hvu fun s₃ t₃ sr₃ er₃ => ?_)
    have a₃ : AtS prog w P fs mg mb h₀ n sc env (ρ'.set y v) β' H' s₃ A X E' := a.step (tF0.trans t₃) sr₃ er₃
    refine wpAny_mono (hB env _ β' H' s₃ A _ X _ a₃ hstep) (fun f s₄ h₄ => ?_) fun e s q => a.pass e s q
    obtain ⟨r, β₄, ρ₄, H₄, hk₄, hf, t₄, sr₄, er₄⟩ := h₄
    have t34 := t₃.trans t₄
    have tall := tF₂.trans t34
    have stI : St (i + 1) s₄.heap := itr.stay hst₁ (t34.keep I hIb hIo)
    have hIb₄ : I ∉ β₄ := fun hm => by
      rcases t34.fresh I hm with q | q
      · exact hIb q
      · obtain ⟨o, e⟩ := itr.live _ _ hst₁; have q' : h₁.get? I = Option.none := q; (first | exact clash e q' | exact clash q' e | (rw [e] at q'; cases q'))
    cases r with
    | none =>
      cases hf
      exact ⟨items.length + 1 - (i + 1), by omega, i + 1, β₄, ρ₄, H₄, rfl, by omega, tall, stI, hIb₄, sr₄, er₄ rfl, hk₄⟩
    | some v' =>
      obtain ⟨u', rfl, vr'⟩ := hf
      exact ⟨some v', β₄, ρ₄, H₄, hk₄, ⟨u', rfl, vr'⟩, (t₁.toF a.at_.er.disj).trans tall, sr₄, er₄⟩
  · have hie : i = items.length := by omega
    subst hie
    rw [List.drop_length] at hwf
    obtain ⟨hG, hk⟩ := hwf
    refine itr.done β' H' _ _ _ hst tF.grow sr' hG hIb fun h₁ tk₁ hk₁ => ?_
    have sr₂ : SR h₀ β' H' h₁ := sr'.other fun b o e q => hk₁ b o (by
      rintro rfl
      rcases q with q | ⟨o', q⟩
      · exact hIb q
      · (first | exact clash hI₀ q | exact clash q hI₀ | (rw [hI₀] at q; cases q))) e
    have er₂ : ER env ρ' β' h₁ := er'.other (.of fun o e => hk₁ _ o (fun q => hIo (.inl q.symm)) e) (fun z c hz => .of fun o e => hk₁ _ o (fun q => hIo (.inr ⟨z, q ▸ hz⟩)) e)
    have tF₂ : StepF env β₁ s₁ β' { s₁ with heap := h₁, toks := tk₁ } :=
      ⟨⟨_, _, rfl⟩, tF.grow, fun b hb ho o e => KAt.trans (tF.keep b hb ho) (.of fun o' e' => hk₁ b o' (notNew b ⟨o, e⟩) e') o e, tF.fresh, fun b ho => (tF.own b ho).trans (KAt.of fun o e => hk₁ b o (notNew b (ownOld b ho)) e).d⟩
    exact wpAny_execs_nil ⟨none, β', ρ', H', hk, rfl, (t₁.toF a.at_.er.disj).trans tF₂, sr₂, fun _ => er₂⟩

theorem while_sound (hC : CallOK prog w h₀ fs mg n C.call) (hG : C.glob = P.glob) {sc : Scope} {c : E} {t : Expr} {body : List S} {bd : List Stmt} {pos : Pos} (hm : ME fs sc c t) (hB : SoundSs prog w h₀ P fs mg mb n C sc body bd) :
    SoundS prog w h₀ P fs mg mb n C sc (.while_ c body) (.While t bd [] pos) := by
  intro env ρ β H s A k X E' a hw
  dsimp only [s_assign, s_setItem, s_expr, s_ret, s_retN, s_ite, s_forR, s_forS, s_while, s_raise] at hw
  obtain ⟨N, hN⟩ := hw
  refine wpAny_While (codeAny_whileLoop (fun m s' => ∃ β' ρ' H', StepF env β s β' s' ∧ SR h₀ β' H' s'.heap ∧ ER env ρ' β' s'.heap ∧
      wWhile (fun ρ' H' k' => wE C c ρ' H' (fun v H1 => wB v fun b => k' b H1) X) (fun ρ' H' k' => wSs C body ρ' H' k' X) m ρ' H' k) ?_ N ⟨β, ρ, H, StepF.refl env β s, a.at_.sr, a.at_.er, hN⟩)
  rintro m s' ⟨β', ρ', H', tF, sr', er', hwh⟩
  cases m with
  | zero => exact hwh.elim
  | succ m =>
    simp only [wWhile] at hwh
    have a' : AtS prog w P fs mg mb h₀ n sc env ρ' β' H' s' A X E' := a.step tF sr' er'
    refine wpAny_mono ((sound (mb := mb) hC hG c t sc hm).2 env ρ' β' H' s' A _ _ _ a'.at_ hwh) (fun b s₂ h₂ => ?_) fun e s q => a.pass e s q
    obtain ⟨β₂, H₂, hb, t₂, sr₂⟩ := h₂
    have er₂ := er'.step t₂
    have tF₂ := tF.trans (t₂.toF er'.disj)
    cases b with
    | true =>
      simp only [if_true]
      refine wpAny_mono (hB env ρ' β₂ H₂ s₂ A _ X _ (a.step tF₂ sr₂ er₂) (hb.1 rfl)) (fun f s₃ h₃ => ?_) fun e s q => a.pass e s q
      obtain ⟨r, β₃, ρ₃, H₃, hk₃, hf, t₃, sr₃, er₃⟩ := h₃
      cases r with
      | none => cases hf; exact ⟨m, by omega, β₃, ρ₃, H₃, tF₂.trans t₃, sr₃, er₃ rfl, hk₃⟩
      | some v' => obtain ⟨u', rfl, vr'⟩ := hf; exact ⟨some v', β₃, ρ₃, H₃, hk₃, ⟨u', rfl, vr'⟩, tF₂.trans t₃, sr₃, er₃⟩
    | false =>
      simp only [Bool.false_eq_true, if_false]
      exact wpAny_execs_nil ⟨none, β₂, ρ', H₂, hb.2 rfl, rfl, tF₂, sr₂, fun _ => er₂⟩

theorem interactive_false {env : PySem.Env} (h : env.scope.kind = .function) : interactive env = false := by
  unfold interactive; rw [h]; rfl

theorem raise_sound {sc : Scope} {env : PySem.Env} {ρ : Env} {β : List Addr} {H : Hp} {s : Shared} {A : Around} {X : XP} {E' : Value → Shared → Prop} {c m : String} {k : Nat} {np kp cp pos : Pos} {Q : Flow → Shared → Prop} (a : AtS prog w P fs mg mb h₀ n sc env ρ β H s A X E')
    (_ : c ∈ fs.excs) (_ : isGlb sc (Str.ofString c) = true) (hx : X c H) : wpAny (model prog w) A (exec (.Raise (some (.Call (.Name (Str.ofString c) np) [.Constant (.str (Str.ofString m)) k kp] [] cp)) none pos) env) Q E' s := (a.at_.exc c H hx).elim

theorem soundSs (hC : CallOK prog w h₀ fs mg n C.call) (hG : C.glob = P.glob) (es : List S) (xs : List Stmt) (sc : Scope) (h : MSs fs sc es xs) : SoundSs prog w h₀ P fs mg mb n C sc es xs := by
  refine MSs.rec (motive_1 := fun e x _ => SoundS prog w h₀ P fs mg mb n C sc e x) (motive_2 := fun es xs _ => SoundSs prog w h₀ P fs mg mb n C sc es xs) ?_ ?_ ?_ ?_ ?_ ?_ ?_ ?_ ?_ ?_ ?_ ?_ ?_ ?_ h
  · intro y e v p pos hl hc h env ρ β H s A k X E' a hw
    dsimp only [s_assign, s_setItem, s_expr, s_ret, s_retN, s_ite, s_forR, s_forS, s_while, s_raise] at hw
    exact assign_plain hl (sound hC hG e v sc h) a hw (swaps_false hc)
  · intro scope elt y x args conds el xs ifs tp gp cp lp p pos hl h2 h4 h8 h5 h6 h7 env ρ β H s A k X E' a hw
    dsimp only [s_assign, s_setItem, s_expr, s_ret, s_retN, s_ite, s_forR, s_forS, s_while, s_raise] at hw
    have hw' := hw
    dsimp only [e_compR] at hw
    exact assign_comp hl (sound hC hG _ _ sc (.compR h2 h4 h8 h5 h6 h7)) a hw' (comp_use a.at_ a.sceq a.own hl (compOk_of h4) (sound hC hG _ _ _ h6).1 (ifs_of (soundAll hC hG _ _ _ h7) h8) range_folded
        (src_range (X := X) (W := fun G items H₁ => wLoop G (compStep C _ _ ρ _ noX) items [] H₁ (fun acc H5 => k none (ρ.set y (V.ref (List.length H5))) (H5 ++ [O.list acc]))) (soundAll hC hG _ _ sc h5) h5.plain h2 a.at_ hw)) _ rfl
  · intro scope elt src y x conds el it ifs tp lp p pos hl h4 h8 h5 h6 h7 env ρ β H s A k X E' a hw
    dsimp only [s_assign, s_setItem, s_expr, s_ret, s_retN, s_ite, s_forR, s_forS, s_while, s_raise] at hw
    have hw' := hw
    dsimp only [e_compS, t_one, oE_some] at hw
    exact assign_comp hl (sound hC hG _ _ sc (.compS h4 h8 h5 h6 h7)) a hw' (comp_use a.at_ a.sceq a.own hl (compOk_of h4) (sound hC hG _ _ _ h6).1 (ifs_of (soundAll hC hG _ _ _ h7) h8) (folded_of h5)
        (src_seq (X := X) (W := fun G items H₁ => wLoop G (compStep C _ _ ρ _ noX) items [] H₁ (fun acc H5 => k none (ρ.set y (V.ref (List.length H5))) (H5 ++ [O.list acc]))) (sound hC hG _ _ sc h5) a.at_ hw)) _ rfl
  · intro o i e o' i' v p pos h1 h2 h3
    exact setItem_sound hC hG h1 h2 h3
  · intro e v p hc h env ρ β H s A k X E' a hw
    dsimp only [s_assign, s_setItem, s_expr, s_ret, s_retN, s_ite, s_forR, s_forS, s_while, s_raise] at hw
    refine wpAny_Expr_any (wpAny_mono ((sound (mb := mb) hC hG e _ sc h).1 env ρ β H s A _ _ E' a.at_ hw) (fun u s1 h1 => ?_) fun _ _ e => e) (interactive_false a.at_.er.kind) (swaps_false hc)
    obtain ⟨β1, v1, H1, hk, t1, sr1, vr1⟩ := h1
    exact ⟨none, β1, ρ, H1, hk, rfl, t1.toF a.at_.er.disj, sr1, fun _ => a.at_.er.step t1⟩
  · intro e v p h env ρ β H s A k X E' a hw
    dsimp only [s_assign, s_setItem, s_expr, s_ret, s_retN, s_ite, s_forR, s_forS, s_while, s_raise] at hw
    refine wpAny_Return_some (wpAny_mono ((sound (mb := mb) hC hG e _ sc h).1 env ρ β H s A _ _ E' a.at_ hw) (fun u s1 h1 => ?_) fun _ _ e => e)
    obtain ⟨β1, v1, H1, hk, t1, sr1, vr1⟩ := h1
    exact ⟨some v1, β1, ρ, H1, hk, ⟨u, rfl, vr1⟩, t1.toF a.at_.er.disj, sr1, fun _ => a.at_.er.step t1⟩
  · intro p env ρ β H s A k X E' a hw
    dsimp only [s_assign, s_setItem, s_expr, s_ret, s_retN, s_ite, s_forR, s_forS, s_while, s_raise] at hw
    exact wpAny_Return_none ⟨some .none, β, ρ, H, hw, ⟨.none, rfl, .none⟩, StepF.refl env β s, a.at_.sr, fun _ => a.at_.er⟩
  · intro c t f te x y p hc h1 h2 hT hF env ρ β H s A k X E' a hw
    dsimp only [s_assign, s_setItem, s_expr, s_ret, s_retN, s_ite, s_forR, s_forS, s_while, s_raise] at hw
    refine wpAny_If (wpAny_mono ((sound (mb := mb) hC hG c _ sc hc).2 env ρ β H s A _ _ E' a.at_ hw) (fun b s1 h1 => ?_) fun _ _ e => e)
    obtain ⟨β1, H1, hb, t1, sr1⟩ := h1
    have er1 := a.at_.er.step t1
    have tF := t1.toF a.at_.er.disj
    cases b with
    | true => exact wpAny_mono (hT env ρ β1 H1 s1 A k X E' (a.step tF sr1 er1) (hb.1 rfl)) (fun _ _ q => q.after tF) fun _ _ e => e
    | false => exact wpAny_mono (hF env ρ β1 H1 s1 A k X E' (a.step tF sr1 er1) (hb.2 rfl)) (fun _ _ q => q.after tF) fun _ _ e => e
  · intro y args body xs bd tp gp cp p h2 h3 h4 h5 hB env ρ β H s A k X E' a hw
    dsimp only [s_assign, s_setItem, s_expr, s_ret, s_retN, s_ite, s_forR, s_forS, s_while, s_raise] at hw
    exact for_sound (X := X) a h2 hB range_folded <| src_range (X := X) (W := fun G items H₁ => wFor G (fun v ρ' H' k' => wSs C body (ρ'.set y v) H' k' X) items ρ H₁ k) (soundAll hC hG args _ sc h4) h4.plain h3 a.at_ hw
  · intro y src body it bd tp p h2 h3 h4 hB env ρ β H s A k X E' a hw
    dsimp only [s_assign, s_setItem, s_expr, s_ret, s_retN, s_ite, s_forR, s_forS, s_while, s_raise] at hw
    exact for_sound (X := X) a h2 hB (folded_of h3) <| src_seq (X := X) (W := fun G items H₁ => wFor G (fun v ρ' H' k' => wSs C body (ρ'.set y v) H' k' X) items ρ H₁ k) (sound hC hG src _ sc h3) a.at_ hw
  · intro c body t bd p h1 h2 hB
    exact while_sound hC hG h1 hB
  · intro c m kk np kp cp p hc hg env ρ β H s A k X E' a hw
    dsimp only [s_assign, s_setItem, s_expr, s_ret, s_retN, s_ite, s_forR, s_forS, s_while, s_raise] at hw
    exact raise_sound a hc hg hw
  · exact fun env ρ β H s A k X E' a hw => wpAny_execs_nil ⟨none, β, ρ, H, hw, rfl, StepF.refl env β s, a.at_.sr, fun _ => a.at_.er⟩
  · intro e es x xs g1 g2 h1 h2 env ρ β H s A k X E' a hw
    rw [ss_cons] at hw
    refine wpAny_execs_cons (wpAny_mono (h1 env ρ β H s A _ X E' a hw) (fun f s1 q => ?_) fun _ _ e => e)
    obtain ⟨r, β1, ρ1, H1, hk, hf, t1, sr1, er1⟩ := q
    cases r with
    | none => cases hf; exact wpAny_mono (h2 env ρ1 β1 H1 s1 A k X E' (a.step t1 sr1 (er1 rfl)) hk) (fun _ _ q => q.after t1) fun _ _ e => e
    | some v => obtain ⟨u, rfl, vr⟩ := hf; exact ⟨some v, β1, ρ1, H1, hk, ⟨u, rfl, vr⟩, t1, sr1, er1⟩

end
end Mine

namespace Mine
open PySem

/-- a def of the text is the mini function -/
structure FnOK (fs : Tab) (mg : Str → Option Value) (h₀ : Heap) (f : String) (fn : Fn) (r : Addr) (o : Obj) (fd : FuncData) (body : List Stmt) : Prop where
  named : mg (Str.ofString f) = some (.ref r)
  obj : h₀.get? r = some o
  data : o.data = .func fd
  code : h₀.CodeRec fd.code fd.qualname
  bodyEq : fd.body = .stmts body
  clo : fd.closure = []
  glob : fd.globals = mainGlobals
  bltn : fd.builtins = builtinsNs
  kind : fd.scope.kind = .function
  co : fd.scope.isCoroutine = false
  gen : fd.scope.isGenerator = false
  ok : MSs fs fd.scope fn.body body
  bind : ∀ us, fn.params.length = us.length → bindArgs fd ⟨us, []⟩ = pure ((fn.params.map Str.ofString).zip us)
  par : fn.params.all (fun x => isLoc fd.scope (Str.ofString x)) = true
  nodup : fn.params.Nodup
  nofree : fd.scope.names.all (fun x => x.2 != .free) = true

theorem lookup_mem {α β : Type} [BEq α] [LawfulBEq α] {x : α} {v : β} : ∀ {l : List (α × β)}, l.lookup x = some v → (x, v) ∈ l
  | (y, u) :: l, h => by
    rw [List.lookup_cons] at h
    split at h
    · rename_i e; cases h; rw [beq_iff_eq.mp e]; exact List.mem_cons_self
    · exact List.mem_cons_of_mem _ (lookup_mem h)

theorem cells_has : ∀ (l : List (Str × NameKind)) (n : Nat) (acc : List (Str × Addr)) (x : Str), ((x, NameKind.cell) ∈ l ∨ (acc.lookup x).isSome = true) → ((cellsFrom n l acc).lookup x).isSome = true
  | [], _, _, _, h => by rcases h with h | h; · cases h
                         · exact h
  | (y, k) :: l, n, acc, x, h => by
    unfold cellsFrom
    split
    · rename_i hk
      refine cells_has l _ _ x ?_
      rcases h with h | h
      · rcases List.mem_cons.mp h with e | e
        · cases e; right; rw [List.lookup_cons]; simp
        · exact .inl e
      · right; rw [List.lookup_cons]; split; · rfl
        · exact h
    · rename_i hk
      refine cells_has l _ _ x ?_
      rcases h with h | h
      · rcases List.mem_cons.mp h with e | e
        · cases e; exact absurd rfl hk
        · exact .inl e
      · exact .inr h

theorem bindL_not {kk : Str → Option NameKind} {x : Str} : ∀ {l : List (Str × Value)} {m : Str → Option Value}, (∀ p ∈ l, p.1 ≠ x) → bindL kk l m x = m x
  | [], _, _ => rfl
  | (y, v) :: l, m, h => by
    unfold bindL
    rw [bindL_not fun p hp => h p (List.mem_cons_of_mem _ hp)]
    have : x ≠ y := fun e => h _ List.mem_cons_self e.symm
    split
    · exact if_neg this
    · rfl
theorem bindC_not {kk : Str → Option NameKind} {x : Str} : ∀ {l : List (Str × Value)} {m : Str → Option Value}, (∀ p ∈ l, p.1 ≠ x) → bindC kk l m x = m x
  | [], _, _ => rfl
  | (y, v) :: l, m, h => by
    unfold bindC
    rw [bindC_not fun p hp => h p (List.mem_cons_of_mem _ hp)]
    have : x ≠ y := fun e => h _ List.mem_cons_self e.symm
    split
    · rfl
    · exact if_neg this

theorem zip_names {ps : List String} {us : List Value} {x : String} (h : x ∉ ps) : ∀ p ∈ (ps.map Str.ofString).zip us, p.1 ≠ Str.ofString x := fun p hp e => by
  have := (List.of_mem_zip hp).1
  obtain ⟨y, hy, ey⟩ := List.mem_map.mp this
  rw [← ey] at e
  exact h (ofString_inj e ▸ hy)

theorem bindL_spec {kk : Str → Option NameKind} {β : List Addr} : ∀ {ps : List String} {vs : List V} {us : List Value} {m : Str → Option Value}, ps.Nodup → VRs β vs us → ∀ x v, bindP ps vs x = some v → kk (Str.ofString x) = some .local →
    ∃ u, bindL kk ((ps.map Str.ofString).zip us) m (Str.ofString x) = some u ∧ VR β v u
  | [], _, _, _, _, _, x, v, h, _ => by unfold bindP at h; cases h
  | _ :: _, [], _, _, _, _, x, v, h, _ => by cases h
  | p :: ps, a :: vs, us, m, nd, hv, x, v, h, hk => by
    cases hv with
    | @cons _ u _ us hu hr =>
      rw [List.nodup_cons] at nd
      show ∃ u', bindL kk ((Str.ofString p, u) :: (ps.map Str.ofString).zip us) m (Str.ofString x) = some u' ∧ VR β v u'
      unfold bindL
      unfold bindP Env.set at h
      by_cases e : x = p
      · subst e
        rw [beq_self_eq_true, cond_true] at h; cases h
        rw [bindL_not (zip_names nd.1), if_pos hk]
        exact ⟨u, by simp, hu⟩
      · rw [beq_eq_false_iff_ne.mpr e, cond_false] at h
        exact bindL_spec nd.2 hr x v h hk

theorem bindC_spec {kk : Str → Option NameKind} {β : List Addr} : ∀ {ps : List String} {vs : List V} {us : List Value} {m : Str → Option Value}, ps.Nodup → VRs β vs us → ∀ x v, bindP ps vs x = some v → kk (Str.ofString x) ≠ some .local →
    ∃ u, bindC kk ((ps.map Str.ofString).zip us) m (Str.ofString x) = some u ∧ VR β v u
  | [], _, _, _, _, _, x, v, h, _ => by unfold bindP at h; cases h
  | _ :: _, [], _, _, _, _, x, v, h, _ => by cases h
  | p :: ps, a :: vs, us, m, nd, hv, x, v, h, hk => by
    cases hv with
    | @cons _ u _ us hu hr =>
      rw [List.nodup_cons] at nd
      show ∃ u', bindC kk ((Str.ofString p, u) :: (ps.map Str.ofString).zip us) m (Str.ofString x) = some u' ∧ VR β v u'
      unfold bindC
      unfold bindP Env.set at h
      by_cases e : x = p
      · subst e
        rw [beq_self_eq_true, cond_true] at h; cases h
        rw [bindC_not (zip_names nd.1), if_neg hk]
        exact ⟨u, by simp, hu⟩
      · rw [beq_eq_false_iff_ne.mpr e, cond_false] at h
        exact bindC_spec nd.2 hr x v h hk

section
variable {prog : Program} {w : World} {h₀ : Heap} {P : Prog} {fs : Tab} {mg mb : Str → Option Value} {n : Nat} {ok : Bool}

theorem callOK (N : Names P fs mg mb h₀) (F : ∀ f ∈ fs.fns, ∃ fn r o fd body, P.fn f = some fn ∧ FnOK fs mg h₀ f fn r o fd body) : ∀ n, CallOK prog w h₀ fs mg n (callN P ok n)
  | 0 => fun f _ r _ vs H Q X h => h.elim
  | n + 1 => fun f hf r hr vs H Q X h A β s E us amb sr hv frs exc => by
    obtain ⟨fn, r', o, fd, body, hfn, ok⟩ := F f hf
    have := ok.named
    rw [hr] at this
    cases this
    obtain ⟨fn', hfn', hlen, h⟩ := oE_ex h
    (first | exact clash hfn hfn' | exact clash hfn' hfn | (rw [hfn] at hfn'; cases hfn'))
    have hlen' : fn.params.length = us.length := hlen.trans hv.length
    have hsize : ∀ b ∈ β, b < s.heap.objs.size := fun b hb => by obtain ⟨o, e⟩ := sr.mem hb; exact Heap.lt_size e
    have hko : ∀ y, (callEnvC fd s.heap.objs.size r).kindOf y = fd.scope.names.lookup y := fun y => rfl
    have hpar : ∀ x ∈ fn.params, fd.scope.names.lookup (Str.ofString x) = some .local ∨ fd.scope.names.lookup (Str.ofString x) = some .cell := fun x hx => by
      have := List.all_eq_true.mp ok.par x hx
      unfold isLoc at this
      split at this
      · rename_i e; exact .inl e
      · rename_i e; exact .inr e
      · cases this
    refine wpAny_call (codeAny_call_cells (binds := (fn.params.map Str.ofString).zip us) (by have := amb.depth; unfold recursionLimit; omega) (sr.kept _ _ ok.obj) ok.data (N.nolimit.keeps sr.kept) (ok.code.keeps sr.kept) ok.bodyEq (ok.bind us hlen') ok.clo (fun x hx => ?_) (fun s₁ x => ?_) ok.co ok.gen ok.kind)
    · have hm := (List.of_mem_zip hx).1
      obtain ⟨y, hy, ey⟩ := List.mem_map.mp hm
      rw [← ey]
      rcases hpar y hy with q | q
      · exact .inl q
      · exact .inr ⟨q, cells_has _ _ _ _ (.inl (lookup_mem q))⟩
    · obtain ⟨h₁, tk, rfl, hkeep⟩ := x.done
      have habove : ∀ y c, (callEnvC fd s.heap.objs.size r).cells.lookup y = some c → s.heap.objs.size < c := fun y c hc => x.above y c (mem_of_lookup hc)
      have er : ER (callEnvC fd s.heap.objs.size r) (bindP fn.params vs) β h₁ := by
        refine ⟨ok.kind, ok.glob, ok.bltn, ⟨_, x.toInCall.ns, fun y v hy hk _ => bindL_spec ok.nodup hv y v hy hk⟩, fun y c hc => ⟨_, x.cell y c hc⟩, fun y v hy hk => ?_, fun y hk => ?_, fun y z c hy hz => ?_, ?_, fun y c hc => ⟨?_, ?_⟩⟩
        · have hc : fd.scope.names.lookup (Str.ofString y) = some .cell := by
            rcases hk with hk | hk
            · exact hk
            · have := List.all_eq_true.mp ok.nofree _ (lookup_mem hk); simp at this
          obtain ⟨c, hcl⟩ := Option.isSome_iff_exists.mp (cells_has fd.scope.names (s.heap.objs.size + 1) [] _ (.inl (lookup_mem hc)))
          obtain ⟨u, hu, hr⟩ := bindC_spec (kk := (callEnvC fd s.heap.objs.size r).kindOf) (m := fun _ => none) ok.nodup hv y v hy (by rw [hko, hc]; decide)
          exact ⟨c, u, hcl, hu ▸ x.cell _ c hcl, hr⟩
        · have hc : fd.scope.names.lookup y = some .cell := by
            rcases hk with hk | hk
            · exact hk
            · have := List.all_eq_true.mp ok.nofree _ (lookup_mem hk); simp at this
          exact Option.isSome_iff_exists.mp (cells_has fd.scope.names (s.heap.objs.size + 1) [] _ (.inl (lookup_mem hc)))
        · exact name_of_addr x.apart (mem_of_lookup hy) (mem_of_lookup hz)
        · exact fun hm => Nat.lt_irrefl _ (hsize _ hm)
        · exact fun hm => Nat.lt_asymm (habove y c hc) (hsize _ hm)
        · exact Nat.ne_of_gt (habove y c hc)
      have ownBig : ∀ b, Own (callEnvC fd s.heap.objs.size r) b → s.heap.objs.size ≤ b := fun b hb => by
        rcases hb with rfl | ⟨y, hy⟩
        · exact Nat.le_refl _
        · exact Nat.le_of_lt (habove y b hy)
      obtain ⟨l, hl, hfr⟩ := frs
      have top := Around.frames_deeper (env := callEnvC fd s.heap.objs.size r) hl
      have fr1 : FrOK h₀ (callEnvC fd s.heap.objs.size r :: l) β h₁ := trivial
      -- from the call's start to a state of the body
      have stepOf : ∀ {β' : List Addr} {s' : Shared}, StepF (callEnvC fd s.heap.objs.size r) β { s with heap := h₁, toks := tk } β' s' → Step β s β' s' := fun {β' s'} t => by
        obtain ⟨h2, t2, rfl⟩ := t.same
        refine ⟨⟨h2, t2, rfl⟩, t.grow, fun b hb o e => t.keep b hb (fun ho => Nat.not_lt.mpr (ownBig b ho) (Heap.lt_size e)) o (hkeep b o e), fun b hb => ?_⟩
        rcases t.fresh b hb with q | q
        · exact .inl q
        · right
          cases e : s.heap.get? b with
          | none => rfl
          | some o => have := hkeep b o e; (first | exact clash this q | exact clash q this | (rw [this] at q; cases q))
      have excB : ExcK h₀ mg (callEnvC fd s.heap.objs.size r) β { s with heap := h₁, toks := tk } X (fun e s' => wpAny (model prog w) (A.deeper (callEnvC fd s.heap.objs.size r)) (leaving (callEnvC fd s.heap.objs.size r) e) (fun _ s'' => E e s'') (fun e' s'' => E e' s'') s') := exc
      have a : AtS prog w P fs mg mb h₀ n fd.scope (callEnvC fd s.heap.objs.size r) (bindP fn.params vs) β H { s with heap := h₁, toks := tk } (A.deeper (callEnvC fd s.heap.objs.size r)) X (fun e s' => wpAny (model prog w) (A.deeper (callEnvC fd s.heap.objs.size r)) (leaving (callEnvC fd s.heap.objs.size r) e) (fun _ s'' => E e s'') (fun e' s'' => E e' s'') s') :=
        ⟨⟨N, ⟨amb.handled, by have := amb.depth; show A.depth + 1 + n < 900; omega, by have := amb.units; show A.units + 3 + 5 * n < 9000; omega⟩, sr.keeps hkeep, er, fun y => rfl, ⟨_, top, fr1⟩, excB⟩, rfl, (fun b hb => by
          cases e : h₀.get? b with
          | none => rfl
          | some o => exact absurd (Heap.lt_size (sr.kept _ _ e)) (Nat.not_lt.mpr (ownBig b hb))), ⟨l, top⟩, PassesOwn.leaving⟩
      refine wpAny_mono (soundSs (mb := mb) (callOK N F n) rfl fn.body body fd.scope ok.ok _ _ _ _ _ _ _ _ (fun e s' => wpAny (model prog w) (A.deeper (callEnvC fd s.heap.objs.size r)) (leaving (callEnvC fd s.heap.objs.size r) e) (fun _ s'' => E e s'') (fun e' s'' => E e' s'') s') a h) (fun fl s' q => ?_) fun _ _ e => e
      obtain ⟨rv, β', ρ', H', hk, hf, t, sr', er'⟩ := q
      have st : Step β s β' s' := stepOf t
      cases rv with
      | none => cases hf; exact ⟨β', .none, H', hk, st, sr', .none⟩
      | some v => obtain ⟨u, rfl, vr⟩ := hf; exact ⟨β', v, H', hk, st, sr', vr⟩
end
end Mine

namespace Mine
open PySem PySem.Calls PyProof.Rows

theorem zip_lookup : ∀ {ns : List Str} {us : List Value}, ns.Nodup → ns.length = us.length → ns.filterMap (fun n => ((ns.zip us).lookup n).map (n, ·)) = ns.zip us ∧ ns.filter (fun n => ((ns.zip us).lookup n).isNone) = []
  | [], [], _, _ => ⟨rfl, rfl⟩
  | n :: ns, u :: us, nd, hl => by
    rw [List.nodup_cons] at nd
    obtain ⟨h1, h2⟩ := zip_lookup nd.2 (by simpa using hl)
    have e : ∀ m ∈ ns, (List.zip (n :: ns) (u :: us)).lookup m = (ns.zip us).lookup m := fun m hm => by
      rw [List.zip_cons_cons, List.lookup_cons]
      have : (m == n) = false := beq_eq_false_iff_ne.mpr (by rintro rfl; exact nd.1 hm)
      rw [this]
    have e0 : (List.zip (n :: ns) (u :: us)).lookup n = some u := by rw [List.zip_cons_cons, List.lookup_cons]; simp
    constructor
    · rw [List.filterMap_cons, e0]
      show (n, u) :: _ = _
      have q : ∀ l : List Str, (∀ m ∈ l, m ∈ ns) → l.filterMap (fun m => ((List.zip (n :: ns) (u :: us)).lookup m).map (m, ·)) = l.filterMap (fun m => ((ns.zip us).lookup m).map (m, ·)) := by
        intro l
        induction l with
        | nil => intro _; rfl
        | cons a l ih => intro hl; rw [List.filterMap_cons, List.filterMap_cons, e a (hl a List.mem_cons_self), ih fun m hm => hl m (List.mem_cons_of_mem _ hm)]
      rw [q ns fun _ h => h, h1]; rfl
    · rw [List.filter_cons, e0]
      show List.filter _ ns = _
      rw [List.filter_congr (q := fun n => ((ns.zip us).lookup n).isNone) fun m hm => by rw [e m hm], h2]
  | [], _ :: _, _, h => by simp at h
  | _ :: _, [], _, h => by simp at h

theorem bind_plain {fd : FuncData} {ns : List Str} {us : List Value} (h1 : fd.params.posonlyargs = []) (h2 : fd.params.kwonlyargs = []) (h3 : fd.params.vararg = none) (h4 : fd.params.kwarg = none) (h5 : fd.params.args.map (·.arg) = ns) (h6 : fd.defaults = .none)
    (nd : ns.Nodup) (hl : ns.length = us.length) : bindArgs fd ⟨us, []⟩ = pure (ns.zip us) := by
  obtain ⟨z1, z2⟩ := zip_lookup nd hl
  obtain ⟨name, qualname, params, body, scope, globals, closure, defaults, kwdefaults, doc, pyModule, annotations, code, closureTuple, builtins⟩ := fd
  obtain ⟨po, ar, va, ko, kd, kw, df⟩ := params
  dsimp only at h1 h2 h3 h4 h5 h6
  subst h1 h2 h3 h4 h5 h6
  unfold bindArgs
  dsimp only [List.map_nil, List.nil_append, List.append_nil]
  rw [List.forIn_nil, pure_bind, show seqItems? Value.none = pure none from rfl, pure_bind]
  dsimp only [Option.getD_none, List.length_nil, Nat.sub_zero, List.drop_nil, Nat.sub_self]
  rw [if_neg (by simp [hl])]
  rw [if_neg (by simp only [List.map_nil, List.nil_append, List.drop_nil, List.length_nil, Nat.sub_zero, List.take_length, z2]; decide)]
  simp only [List.map_nil, List.nil_append, List.drop_nil, List.length_nil, Nat.sub_zero, List.zip_nil_right, List.forIn_nil, pure_bind, List.isEmpty_nil, Bool.not_true, Bool.false_eq_true, if_false, List.append_nil, z1]

noncomputable def fnCheck (fs : Tab) (fn : Fn) (d : DefRec) : Bool :=
  d.params.posonlyargs.isEmpty && d.params.kwonlyargs.isEmpty && d.params.vararg.isNone && d.params.kwarg.isNone && (d.params.args.map (·.arg) == fn.params.map Str.ofString) && decide (d.scope.kind = .function) && !d.scope.isCoroutine && !d.scope.isGenerator &&
  d.scope.names.all (fun x => x.2 != .free) && fn.params.all (fun x => isLoc d.scope (Str.ofString x)) && decide fn.params.Nodup && (chkSs fs d.scope fn.body d.body).isSome
noncomputable def progCheck (p : Program) (fs : Tab) (P : Prog) : Bool := fs.fns.all fun f => match P.fn f with
  | some fn => (recsOf p).any fun d => d.name == Str.ofString f && fnCheck fs fn d
  | none => false

theorem nodup_map {l : List String} (h : l.Nodup) : (l.map Str.ofString).Nodup := by
  induction l with
  | nil => simp
  | cons a l ih =>
    rw [List.nodup_cons] at h
    rw [List.map_cons, List.nodup_cons]
    refine ⟨fun hm => ?_, ih h.2⟩
    obtain ⟨b, hb, e⟩ := List.mem_map.mp hm
    exact h.1 (ofString_inj e ▸ hb)

theorem fns_of_top {p : Program} {loose : List Str} {mean : ExcName → Option Value} {mg mb : Str → Option Value} {h : Heap} {fs : Tab} {P : Prog} (T : Top p loose mean mg mb h) (ok : progCheck p fs P = true) :
    ∀ f ∈ fs.fns, ∃ fn r o fd body, P.fn f = some fn ∧ FnOK fs mg h f fn r o fd body := by
  intro f hf
  have := List.all_eq_true.mp ok f hf
  split at this
  · rename_i fn hfn
    obtain ⟨d, hd, hc⟩ := List.any_eq_true.mp this
    simp only [Bool.and_eq_true, fnCheck, decide_eq_true_eq, List.isEmpty_iff, Option.isNone_iff_eq_none, Bool.not_eq_true'] at hc
    obtain ⟨hn, ⟨⟨⟨⟨⟨⟨⟨⟨⟨⟨⟨c1, c2⟩, c3⟩, c4⟩, c5⟩, c6⟩, c7⟩, c8⟩, c9⟩, c10⟩, c11⟩, c12⟩⟩ := hc
    obtain ⟨a, o, pm, code, doc, e1, e2, e3, e4⟩ := T.fn d hd
    have hn := beq_iff_eq.mp hn
    refine ⟨fn, a, o, _, d.body, hfn, hn ▸ e1, e2, e3, e4, rfl, rfl, rfl, rfl, c6, c7, c8, (Option.get _ c12).down, fun us hl => ?_, c10, c11, c9⟩
    refine bind_plain c1 c2 c3 c4 (beq_iff_eq.mp c5) rfl ?_ (by simpa using hl)
    exact nodup_map c11
  · cases this

noncomputable def bltNames : List String := ["len", "isinstance", "list", "tuple", "range", "int", "bool", "str", "min", "any", "sum"]

theorem bltn_mem {x : String} {v : Value} (h : bltn x = some v) : x ∈ bltNames ∧ bootBuiltins (Str.ofString x) = some v := by
  unfold bltn at h
  split at h <;> first | (cases h; exact ⟨by decide, by rfl⟩) | cases h

noncomputable def nameCheck (p : Program) (loose : List Str) : Bool := bltNames.all fun x => let y := Str.ofString x
  !startupNames.contains y && !loose.contains y && !((recsOf p).map (·.name)).contains y && !((litsOf p).map (·.1)).contains y && !((clssOf p loose).map (·.name)).contains y

theorem names_of_top {p : Program} {loose : List Str} {mean : ExcName → Option Value} {mg mb : Str → Option Value} {h : Heap} {fs : Tab} {P : Prog} (T : Top p loose mean mg mb h) (ok : progCheck p fs P = true) (ok2 : nameCheck p loose = true)
    (hg : ∀ x v, P.glob x = some v → ∃ u, mg (Str.ofString x) = some u ∧ VR [] v u) (hc : ∀ c ∈ fs.excs, specOf p (Str.ofString c) = some ("ValueError.__new__", excBm)) : Names P fs mg mb h := by
  refine ⟨T.g, T.b, T.nolimit, fun x v hx => ?_, hg, fun f hf => ?_, fun c hm => let ⟨C, O, _⟩ := T.ownAt (hc c hm); ⟨C, O⟩⟩
  · obtain ⟨hm, hb⟩ := bltn_mem hx
    have := List.all_eq_true.mp ok2 x hm
    simp only [Bool.and_eq_true, Bool.not_eq_true', List.contains_eq_mem, decide_eq_false_iff_not] at this
    obtain ⟨⟨⟨⟨a1, a2⟩, a3⟩, a4⟩, a5⟩ := this
    refine ⟨T.free _ a1 a2 a3 a4 a5, ?_⟩
    rw [T.builtins _ (fun e => a1 (by rw [e]; decide)), hb]
  · obtain ⟨fn, r, o, fd, body, _, ok⟩ := fns_of_top T ok f hf
    exact ⟨r, o, fd, ok.named, ok.obj, ok.data⟩

theorem frozen_ints {us : List Value} {is : List Int} (h : IntsAre us is) : VRs [] (is.map .int) us := by
  induction h with
  | nil => exact .nil
  | cons n t _ ih => exact .cons (.int n t) ih

end Mine

namespace Mine
open PySem PySem.Calls PyProof.Rows PySem.W

theorem law_call {p prog : Program} {w : World} {loose : List Str} {mean : ExcName → Option Value} {mg mb : Str → Option Value} {s : Shared} {fs : Tab} {P : Prog} {fa a : Addr} {us : List Value} {is : List Int} {E : Value → Shared → Prop} {okb : Bool}
    (T : Top p loose mean mg mb s.heap) (hmg : mg (Str.ofString "law") = some (.ref fa)) (hL : s.heap.IsList a us.toArray) (hI : IntsAre us is) (hlen : is.length ≤ 63) (ok : progCheck p fs P = true) (ok2 : nameCheck p loose = true)
    (hgl : ∀ x v, P.glob x = some v → ∃ u, mg (Str.ofString x) = some u ∧ VR [] v u) (hlaw : "law" ∈ fs.fns) (hcls : ∀ c ∈ fs.excs, specOf p (Str.ofString c) = some ("ValueError.__new__", excBm))
    (main : ∀ is : List Int, is.length ≤ 63 → callN P okb 200 "law" [.ref 0] [.frozen (is.map .int)] (fun v _ => v = .bool true) (fun _ _ => False)) :
    wpAny (model prog w) callerA (call (.ref fa) [.ref a]) (fun v s' => v = .bool true ∧ (∀ b o, s.heap.get? b = some o → s'.heap.get? b = some o) ∧ s'.os = s.os ∧ s'.gens = s.gens) E s := by
  have N := names_of_top T ok ok2 hgl hcls
  obtain ⟨o, ho, hc, n, hd⟩ := hL
  have hf := frozen_ints hI
  refine wpAny_mono (callOK (prog := prog) (w := w) N (fns_of_top T ok) 200 "law" hlaw fa hmg _ _ _ _ (main is hlen) callerA [a] s E [.ref a] ⟨rfl, by decide, by decide⟩ ?_ (.cons (.ref rfl) .nil) ⟨[], rfl, trivial⟩ fun _ _ hx => hx.elim) (fun v s' q => ?_) fun _ _ e => e
  · refine ⟨fun _ _ e => e, by simp, .cons (.frozen ho hc hd (VRs.mono (List.nil_prefix) hf) ?_) .nil⟩
    rw [List.length_map]; exact Nat.le_trans hlen (by decide)
  · obtain ⟨β', v', H', e, t, sr, vr⟩ := q
    subst e
    cases vr
    obtain ⟨h', tk, rfl⟩ := t.same
    exact ⟨rfl, sr.kept, rfl, rfl⟩

theorem glob_int {p : Program} {loose : List Str} {mean : ExcName → Option Value} {mg mb : Str → Option Value} {h : Heap} (T : Top p loose mean mg mb h) {x : Str} {i : Int} (e : valOf p x = some (.int i)) : ∃ u, mg x = some u ∧ VR [] (.int i) u := by
  obtain ⟨v, hv, hr⟩ := T.const x _ e
  have := hr h
  cases this with
  | int i t => exact ⟨_, hv, .int i t⟩
end Mine

namespace Mine
open PySem

theorem wFor_ind {G : Hp → Prop} {step : V → Env → Hp → SPost → Prop} {k : SPost} (I : List V → Env → Hp → Prop)
    (hstep : ∀ v rest ρ H, I (v :: rest) ρ H → G H ∧ ∀ k' : SPost, (∀ ρ' H', I rest ρ' H' → k' none ρ' H') → (∀ r ρ' H', k (some r) ρ' H' → k' (some r) ρ' H') → step v ρ H k')
    (hend : ∀ ρ H, I [] ρ H → G H ∧ k none ρ H) : ∀ {vs : List V} {ρ : Env} {H : Hp}, I vs ρ H → wFor G step vs ρ H k
  | [], ρ, H, h => by unfold wFor; exact hend ρ H h
  | v :: vs, ρ, H, h => by
    unfold wFor
    obtain ⟨g, hs⟩ := hstep v vs ρ H h
    exact ⟨g, hs _ (fun ρ' H' hI => wFor_ind I hstep hend hI) fun r ρ' H' hk => hk⟩

theorem wLoop_ind {G : Hp → Prop} {step : V → Hp → (Option V → Hp → Prop) → Prop} {k : List V → Hp → Prop} (I : List V → List V → Hp → Prop)
    (hstep : ∀ v rest acc H, I (v :: rest) acc H → G H ∧ ∀ k' : Option V → Hp → Prop, (∀ u H', I rest (acc ++ [u]) H' → k' (some u) H') → (∀ H', I rest acc H' → k' none H') → step v H k')
    (hend : ∀ acc H, I [] acc H → G H ∧ k acc H) : ∀ {vs acc : List V} {H : Hp}, I vs acc H → wLoop G step vs acc H k
  | [], acc, H, h => by unfold wLoop; exact hend acc H h
  | v :: vs, acc, H, h => by
    unfold wLoop
    obtain ⟨g, hs⟩ := hstep v vs acc H h
    exact ⟨g, hs _ (fun u H' hI => wLoop_ind I hstep hend hI) fun H' hI => wLoop_ind I hstep hend hI⟩

theorem wWhile_ind {test : Env → Hp → (Bool → Hp → Prop) → Prop} {body : Env → Hp → SPost → Prop} {k : SPost} (I : Nat → Env → Hp → Prop)
    (hstep : ∀ m ρ H, I m ρ H → ∀ k' : SPost, (∀ m' ρ' H', m' < m → I m' ρ' H' → k' none ρ' H') → (∀ r ρ' H', k (some r) ρ' H' → k' (some r) ρ' H') → test ρ H fun b H1 => wIf b (body ρ H1 k') (k none ρ H1)) :
    ∀ {n m : Nat} {ρ : Env} {H : Hp}, m < n → I m ρ H → wWhile test body n ρ H k
  | 0, _, _, _, hm, _ => absurd hm (Nat.not_lt_zero _)
  | n + 1, m, ρ, H, hm, h => by
    unfold wWhile
    exact hstep m ρ H h _ (fun m' ρ' H' hl hI => wWhile_ind I hstep (by omega) hI) fun r ρ' H' hk => hk
theorem wWhile_ex {test : Env → Hp → (Bool → Hp → Prop) → Prop} {body : Env → Hp → SPost → Prop} {k : SPost} (I : Nat → Env → Hp → Prop) {m : Nat} {ρ : Env} {H : Hp} (h : I m ρ H)
    (hstep : ∀ m ρ H, I m ρ H → ∀ k' : SPost, (∀ m' ρ' H', m' < m → I m' ρ' H' → k' none ρ' H') → (∀ r ρ' H', k (some r) ρ' H' → k' (some r) ρ' H') → test ρ H fun b H1 => wIf b (body ρ H1 k') (k none ρ H1)) :
    ∃ n, wWhile test body n ρ H k := ⟨m + 1, wWhile_ind I hstep (Nat.lt_succ_self m) h⟩

theorem pre_get {H H' : Hp} (hp : H <+: H') {a : Nat} {o : O} (h : H[a]? = some o) : H'[a]? = some o := by
  obtain ⟨t, rfl⟩ := hp
  rw [List.getElem?_append_left (List.getElem?_eq_some_iff.mp h).1]; exact h
theorem pre_new (H : Hp) (o : O) : H <+: H ++ [o] := List.prefix_append _ _
theorem get_new (H : Hp) (o : O) : (H ++ [o])[H.length]? = some o := by simp

theorem seqOf_list {H : Hp} {a : Nat} {xs : List V} (h : H[a]? = some (.list xs)) : seqOf H a = some xs := by unfold seqOf; rw [h]

theorem wIf_t {p q : Prop} : wIf true p q = p := by unfold wIf; simp
theorem wIf_f {p q : Prop} : wIf false p q = q := by unfold wIf; simp


theorem wSs_step {C : Ctx} {s : S} {ss : List S} {ρ : Env} {H : Hp} {k : SPost} {X : SXP} (h : ∀ K : SPost, (∀ ρ' H', wSs C ss ρ' H' k X → K none ρ' H') → (∀ v ρ' H', k (some v) ρ' H' → K (some v) ρ' H') → wS C s ρ H K X) : wSs C (s :: ss) ρ H k X := by
  rw [ss_cons]
  exact h _ (fun _ _ q => q) fun _ _ _ q => q

theorem add_ii (H : Hp) (i j : Int) : addV (.int i) (.int j) H = some (.int (i + j), H) := rfl
theorem less_ii (H : Hp) (i j : Int) : lessV H (.int i) (.int j) = some (decide (i < j)) := rfl
theorem dq_ii (i j : Int) : PyData.eqv (.int i) (.int j) = (i == j) := rfl
theorem dq_nn : PyData.eqv .none .none = true := rfl
theorem dq_in (i : Int) : PyData.eqv (.int i) .none = false := rfl
theorem dq_ni (i : Int) : PyData.eqv .none (.int i) = false := rfl
theorem dq_bb (i j : Bool) : PyData.eqv (.bool i) (.bool j) = (i == j) := rfl
theorem dq_ss (x y : Str) : PyData.eqv (.str x) (.str y) = (x == y) := rfl
theorem dq_ll (x y : List PyData) : PyData.eqv (.list x) (.list y) = PyData.eqvAll x y := rfl
theorem dq_tt (x y : List PyData) : PyData.eqv (.tuple x) (.tuple y) = PyData.eqvAll x y := rfl
theorem da_nn : PyData.eqvAll [] [] = true := rfl
theorem da_cc (x y : PyData) (xs ys : List PyData) : PyData.eqvAll (x :: xs) (y :: ys) = (PyData.eqv x y && PyData.eqvAll xs ys) := rfl
theorem da_nc (y : PyData) (ys : List PyData) : PyData.eqvAll [] (y :: ys) = false := rfl
theorem da_cn (y : PyData) (ys : List PyData) : PyData.eqvAll (y :: ys) [] = false := rfl
theorem cl_n : PyData.canLay0 .none = true := rfl
theorem cl_b (b : Bool) : PyData.canLay0 (.bool b) = true := rfl
theorem cl_i (i : Int) : PyData.canLay0 (.int i) = true := rfl
theorem cl_s (x : Str) : PyData.canLay0 (.str x) = PyData.strOk x := rfl
theorem cl_l (x : List PyData) : PyData.canLay0 (.list x) = PyData.canLayAll0 x := rfl
theorem cl_t (x : List PyData) : PyData.canLay0 (.tuple x) = PyData.canLayAll0 x := rfl
theorem ca_n : PyData.canLayAll0 [] = true := rfl
theorem ca_c (x : PyData) (xs : List PyData) : PyData.canLayAll0 (x :: xs) = (PyData.canLay0 x && PyData.canLayAll0 xs) := rfl
theorem rd_n {n : Nat} {H : Hp} : readD n H .none = some .none := by cases n <;> rfl
theorem rd_b {n : Nat} {H : Hp} {b : Bool} : readD n H (.bool b) = some (.bool b) := by cases n <;> rfl
theorem rd_i {n : Nat} {H : Hp} {i : Int} : readD n H (.int i) = some (.int i) := by cases n <;> rfl
theorem rd_s {n : Nat} {H : Hp} {x : Str} : readD n H (.str x) = some (.str x) := by cases n <;> rfl
theorem rd_r {n : Nat} {H : Hp} {a : Nat} : readD (n + 1) H (.ref a) = match H[a]? with
    | some (.list xs) => (xs.mapM (readD n H)).map .list
    | some (.frozen xs) => (xs.mapM (readD n H)).map .list
    | some (.tuple xs) => (xs.mapM (readD n H)).map .tuple
    | _ => none := rfl
theorem eqD_of {H : Hp} {a b : V} {x y : PyData} (ha : readD 8 H a = some x) (hb : readD 8 H b = some y) (cx : x.canLay0 = true) (cy : y.canLay0 = true) : eqD H a b = some (PyData.eqv x y) := by
  unfold eqD; rw [ha, hb]; show (if (x.canLay0 && y.canLay0) = true then _ else _) = _; rw [cx, cy]; rfl
theorem eqD_ii (H : Hp) (i j : Int) : eqD H (.int i) (.int j) = some (i == j) := eqD_of rd_i rd_i rfl rfl
theorem eqD_in (H : Hp) (i : Int) : eqD H (.int i) .none = some false := eqD_of rd_i rd_n rfl rfl
theorem eqD_ni (H : Hp) (i : Int) : eqD H .none (.int i) = some false := eqD_of rd_n rd_i rfl rfl
theorem eqD_nn (H : Hp) : eqD H .none .none = some true := eqD_of rd_n rd_n rfl rfl
theorem eqD_bb (H : Hp) (i j : Bool) : eqD H (.bool i) (.bool j) = some (i == j) := eqD_of rd_b rd_b rfl rfl
theorem eqD_ss (H : Hp) {x y : Str} (hx : PyData.strOk x = true) (hy : PyData.strOk y = true) : eqD H (.str x) (.str y) = some (x == y) := eqD_of rd_s rd_s hx hy
theorem is_int (i : Int) : isSame (.int i) .none = some false := by simp [isSame]
theorem is_none : isSame .none .none = some true := by simp [isSame]
theorem is_bool (b : Bool) : isSame (.bool b) .none = some false := by simp [isSame]

theorem mapM_asInt : ∀ (is : List Int), (is.map V.int).mapM asInt = some is
  | [] => rfl
  | i :: is => by rw [List.map_cons, List.mapM_cons, mapM_asInt is]; rfl

theorem mapM_read (n : Nat) (H : Hp) : ∀ (is : List Int), (is.map V.int).mapM (readD n H) = some (is.map PyData.int)
  | [] => rfl
  | i :: is => by rw [List.map_cons, List.mapM_cons, mapM_read n H is]; cases n <;> rfl

theorem canLay_ints : ∀ (is : List Int), PyData.canLayAll0 (is.map PyData.int) = true
  | [] => rfl
  | i :: is => by rw [List.map_cons, ca_c, canLay_ints is]; rfl

theorem inD_ints (H : Hp) (x : Int) (is : List Int) : inD H (.int x) (is.map .int) = some (decide (x ∈ is)) := by
  unfold inD
  rw [mapM_read]
  simp only [rd_n, rd_b, rd_i, rd_s, rd_r, canLay_ints, cl_n, cl_b, cl_i, cl_s, cl_l, cl_t, Bool.and_self, if_true, Option.some.injEq]
  rw [List.any_map]
  induction is with
  | nil => rfl
  | cons i is ih =>
    rw [List.any_cons, ih]
    simp only [Function.comp, dq_ii, dq_nn, dq_in, dq_ni, dq_bb, dq_ss, dq_ll, dq_tt, List.mem_cons]
    by_cases e : i = x
    · subst e; simp
    · have : x ≠ i := fun q => e q.symm
      simp [e, this]

/-- a list of whole numbers -/
noncomputable def LI (H : Hp) (a : Nat) (is : List Int) : Prop := H[a]? = some (.list (is.map .int))
theorem LI.pre {H H' : Hp} {a : Nat} {is : List Int} (h : LI H a is) (hp : H <+: H') : LI H' a is := pre_get hp h
theorem LI.mem {H : Hp} {a : Nat} {is : List Int} (h : LI H a is) (x : Int) : Mine.mem H (.int x) (.ref a) = some (decide (x ∈ is)) := by
  exact (mem_ref h).trans (inD_ints H x is)
theorem LI.seq {H : Hp} {a : Nat} {is : List Int} (h : LI H a is) : seqOf H a = some (is.map .int) := seqOf_list h
theorem normIdx_nat {i n : Nat} (h : i < n) : normIdx (i : Int) n = some i := by
  unfold normIdx
  have e : ¬ (i : Int) < 0 := by omega
  simp only [e, if_false]
  rw [if_pos ⟨by omega, by omega⟩]
  simp
theorem setAt_nat {xs : List V} {i : Nat} (h : i < xs.length) (v : V) : setAtV xs (i : Int) v = some (xs.set i v) := by
  unfold setAtV
  rw [if_pos ⟨by omega, by omega⟩]; simp
theorem set_seq {H : Hp} {a : Nat} {xs : List V} {i : Nat} (h : H[a]? = some (.list xs)) (hi : i < xs.length) (v : V) : setV (.ref a) (.int (i : Int)) v H = some (H.set a (.list (xs.set i v))) := by
  simp only [setV, h, setAt_nat hi, Option.map]
theorem item_seq {H : Hp} {a : Nat} {xs : List V} {i : Nat} {v : V} (h : seqOf H a = some xs) (hi : xs[i]? = some v) : itemV (.ref a) (.int (i : Int)) H = some v := by
  unfold itemV
  have hl := (List.getElem?_eq_some_iff.mp hi).1
  simp [h, normIdx_nat hl, hi]
theorem LI.item {H : Hp} {a : Nat} {is : List Int} (h : LI H a is) {i : Nat} {x : Int} (hi : is[i]? = some x) : itemV (.ref a) (.int (i : Int)) H = some (.int x) :=
  item_seq h.seq (by rw [List.getElem?_map, hi]; rfl)

theorem cut_to {α : Type} (xs : List α) (i : Nat) : cut xs none (some (i : Int)) = xs.take i := by
  unfold cut clampIdx
  have e : ¬ (i : Int) < 0 := by omega
  simp only [Option.elim, e, if_false, List.drop_zero, Nat.sub_zero]
  by_cases h : i ≤ xs.length
  · congr 1; omega
  · rw [List.take_of_length_le (by omega), List.take_of_length_le (by omega)]
theorem LI.sliceTo {H : Hp} {a : Nat} {is : List Int} (h : LI H a is) (i : Nat) : sliceV (.ref a) none (some (i : Int)) H = some (.ref H.length, H ++ [.list ((is.take i).map .int)]) := by
  rw [sl_ref h, cut_to, List.map_take]
theorem LI.new (H : Hp) (is : List Int) : LI (H ++ [.list (is.map .int)]) H.length is := get_new H _

/-- a list of lists of whole numbers -/
noncomputable def WH (H : Hp) (w : Nat) (W : List (List Int)) : Prop := ∃ rs : List V, H[w]? = some (.list rs) ∧ All2 (fun r is => ∃ b, r = .ref b ∧ LI H b is) rs W
theorem WH.pre {H H' : Hp} {a : Nat} {W : List (List Int)} (h : WH H a W) (hp : H <+: H') : WH H' a W :=
  let ⟨rs, h1, h2⟩ := h; ⟨rs, pre_get hp h1, h2.mono fun _ _ ⟨b, e, q⟩ => ⟨b, e, q.pre hp⟩⟩
theorem WH.item {H : Hp} {w : Nat} {W : List (List Int)} (h : WH H w W) {i : Nat} {row : List Int} (hi : W[i]? = some row) : ∃ b, itemV (.ref w) (.int (i : Int)) H = some (.ref b) ∧ LI H b row := by
  obtain ⟨rs, h1, h2⟩ := h
  obtain ⟨r, hr, b, rfl, hl⟩ := h2.get' hi
  exact ⟨b, item_seq (seqOf_list h1) hr, hl⟩
theorem WH.len {H : Hp} {w : Nat} {W : List (List Int)} (h : WH H w W) : lenV (.ref w) H = some (W.length : Int) := by
  obtain ⟨rs, h1, h2⟩ := h
  unfold lenV; simp [seqOf_list h1, h2.length]
theorem LI.len {H : Hp} {w : Nat} {W : List Int} (h : LI H w W) : lenV (.ref w) H = some (W.length : Int) := by
  unfold lenV; simp [h.seq]
theorem LI.isList {H : Hp} {w : Nat} {W : List Int} (h : LI H w W) : isInst (.ref w) ["list"] H = true := by
  unfold LI at h; simp [isInst, typesOf, h]
theorem WH.isList {H : Hp} {w : Nat} {W : List (List Int)} (h : WH H w W) : isInst (.ref w) ["list"] H = true := by
  obtain ⟨rs, h1, h2⟩ := h
  simp [isInst, typesOf, h1]
theorem inst_int (i : Int) (H : Hp) : isInst (.int i) ["int"] H = true := by simp [isInst, typesOf]
theorem inst_int_b (i : Int) (H : Hp) : isInst (.int i) ["bool"] H = false := by simp [isInst, typesOf]
theorem inst_bool_b (i : Bool) (H : Hp) : isInst (.bool i) ["bool"] H = true := by simp [isInst, typesOf]

theorem recvL {H : Hp} {a : Nat} {xs : List V} (h : H[a]? = some (.list xs)) : recvOk .append (.ref a) H = true ∧ recvOk .pop (.ref a) H = true ∧ recvOk .index (.ref a) H = true := by
  simp [recvOk, h]

theorem lim0 : (0 ≤ lim) = True := by simp
theorem lim1 : (0 + 1 ≤ lim) = True := by simp [lim]
theorem lim2 : (0 + 1 + 1 ≤ lim) = True := by simp [lim]
theorem lim3 : (0 + 1 + 1 + 1 ≤ lim) = True := by simp [lim]

noncomputable def rng (n : Nat) : List V := (List.range n).map fun k : Nat => V.int (k : Int)
theorem rangeI_rng (n : Nat) : (rangeI 0 (n : Int) 1).map V.int = rng n := by
  unfold rangeI rng
  rw [List.map_map]
  have : (if (0 : Int) < n then ((n : Int) - 0 - 1) / 1 + 1 else 0).toNat = n := by split <;> omega
  rw [this]
  refine List.map_congr_left fun k _ => ?_
  simp
theorem rng_len (n : Nat) : (rng n).length = n := by simp [rng]
theorem rng_get {n i : Nat} {v : V} (h : (rng n)[i]? = some v) : i < n ∧ v = .int (i : Int) := by
  unfold rng at h
  rw [List.getElem?_map] at h
  obtain ⟨j, hj, rfl⟩ := Option.map_eq_some_iff.mp h
  obtain ⟨hl, e⟩ := List.getElem?_eq_some_iff.mp hj
  simp at hl e; subst e; exact ⟨hl, rfl⟩
theorem range_nat {n : Nat} (h : n ≤ lim) : rangeOf [.int (n : Int)] = some (rangeI 0 (n : Int) 1) := by
  unfold rangeOf; simp [h]

theorem wFor_idx {G : Hp → Prop} {step : V → Env → Hp → SPost → Prop} {k : SPost} {vs : List V} (I : Nat → Env → Hp → Prop) {ρ : Env} {H : Hp} (h0 : I 0 ρ H)
    (hstep : ∀ i v ρ H, vs[i]? = some v → I i ρ H → G H ∧ ∀ k' : SPost, (∀ ρ' H', I (i + 1) ρ' H' → k' none ρ' H') → (∀ r ρ' H', k (some r) ρ' H' → k' (some r) ρ' H') → step v ρ H k')
    (hend : ∀ ρ H, I vs.length ρ H → G H ∧ k none ρ H) : wFor G step vs ρ H k := by
  refine wFor_ind (fun rest ρ H => ∃ i, rest = vs.drop i ∧ i ≤ vs.length ∧ I i ρ H) (fun v rest ρ H h => ?_) (fun ρ H h => ?_) ⟨0, by simp, by simp, h0⟩
  · obtain ⟨i, e, hi, hI⟩ := h
    have hv : vs[i]? = some v := by
      have : (vs.drop i)[0]? = some v := by rw [← e]; rfl
      simpa using this
    obtain ⟨g, hs⟩ := hstep i v ρ H hv hI
    refine ⟨g, fun k' h1 h2 => hs k' (fun ρ' H' hI' => h1 ρ' H' ⟨i + 1, ?_, (List.getElem?_eq_some_iff.mp hv).1, hI'⟩) h2⟩
    have : rest = (v :: rest).drop 1 := rfl
    rw [this, e, List.drop_drop]
  · obtain ⟨i, e, hi, hI⟩ := h
    have : vs.length ≤ i := by
      have := congrArg List.length e
      simp at this; omega
    have : i = vs.length := by omega
    subst this
    exact hend ρ H hI

theorem wLoop_idx {G : Hp → Prop} {step : V → Hp → (Option V → Hp → Prop) → Prop} {k : List V → Hp → Prop} {vs : List V} (I : Nat → List V → Hp → Prop) {H : Hp} (h0 : I 0 [] H)
    (hstep : ∀ i v acc H, vs[i]? = some v → I i acc H → G H ∧ ∀ k' : Option V → Hp → Prop, (∀ u H', I (i + 1) (acc ++ [u]) H' → k' (some u) H') → (∀ H', I (i + 1) acc H' → k' none H') → step v H k')
    (hend : ∀ acc H, I vs.length acc H → G H ∧ k acc H) : wLoop G step vs [] H k := by
  refine wLoop_ind (fun rest acc H => ∃ i, rest = vs.drop i ∧ i ≤ vs.length ∧ I i acc H) (fun v rest acc H h => ?_) (fun acc H h => ?_) ⟨0, by simp, by simp, h0⟩
  · obtain ⟨i, e, hi, hI⟩ := h
    have hv : vs[i]? = some v := by
      have : (vs.drop i)[0]? = some v := by rw [← e]; rfl
      simpa using this
    obtain ⟨g, hs⟩ := hstep i v acc H hv hI
    have hd : rest = vs.drop (i + 1) := by
      have : rest = (v :: rest).drop 1 := rfl
      rw [this, e, List.drop_drop]
    exact ⟨g, fun k' h1 h2 => hs k' (fun u H' hI' => h1 u H' ⟨i + 1, hd, (List.getElem?_eq_some_iff.mp hv).1, hI'⟩) fun H' hI' => h2 H' ⟨i + 1, hd, (List.getElem?_eq_some_iff.mp hv).1, hI'⟩⟩
  · obtain ⟨i, e, hi, hI⟩ := h
    have : vs.length ≤ i := by
      have := congrArg List.length e
      simp at this; omega
    have : i = vs.length := by omega
    subst this
    exact hend acc H hI

theorem wSs_cons {C : Ctx} {s : S} {ss : List S} {ρ : Env} {H : Hp} {k : SPost} {X : SXP} (h : wS C s ρ H (fun r ρ1 H1 => kS r (wSs C ss ρ1 H1 k X) fun v => k (some v) ρ1 H1) X) : wSs C (s :: ss) ρ H k X := h
theorem wSs_nil {C : Ctx} {ρ : Env} {H : Hp} {k : SPost} {X : SXP} (h : k none ρ H) : wSs C [] ρ H k X := h

theorem callN_in {P : Prog} {ok : Bool} {n : Nat} {f : String} {fn : Fn} {vs : List V} {H : Hp} {Q : Post} {X : XP} (h : P.fn f = some fn) (hl : fn.params.length = vs.length)
    (hb : wSs ⟨ok, callN P ok n, P.glob⟩ fn.body (bindP fn.params vs) H (fun r _ H' => Q (r.getD .none) H') X) : callN P ok (n + 1) f vs H Q X := by
  show oE (P.fn f) _
  rw [h]; exact ⟨hl, hb⟩

end Mine
open Mine renaming s_assign → ZA, s_setItem → ZB, s_expr → ZC, s_ret → ZD, s_retN → ZE, s_ite → ZF, s_forR → ZG, s_forS → ZH, s_while → ZI, s_raise → ZJ, e_none → ZK, e_bool → ZL, e_int → ZM, e_str → ZN, e_var → ZO, e_glob → ZP, e_op → ZQ, e_mcall → ZR, e_and → ZS, e_or → ZT, e_not → ZU, e_chain → ZV, e_call → ZW, e_compR → ZX, e_compS → ZY, es_nil → ZZ, es_cons → Za, and_nil → Zb, and_cons → Zc, or_nil → Zd, or_cons → Ze, wP → Zf, b_bool → Zg, p_bin → Zh, p_negI → Zi, p_cmpP → Zj, p_len → Zk, p_inst → Zl, p_listP → Zm, p_min1P → Zn, p_anyP → Zo, p_itemP → Zp, p_slTo → Zq, p_slFrom → Zr, p_mkL → Zs, p_mkT → Zt, p_mkD → Zu, p_lr → Zv, p_app → Zw, p_popP → Zx, p_idx → Zy, bin_add → Zz, bin_sub → YA, bin_mul → YB, bin_mod → YC, bin_fdiv → YD, cmp_eq → YE, cmp_ne → YF, cmp_lt → YG, cmp_le → YH, cmp_gt → YI, cmp_ge → YJ, cmp_is → YK, cmp_isnt → YL, cmp_in → YM, cmp_out → YN, putNew → YO, t_one → YP, bp_cons → YQ, bp_nil → YR, add_ii → YW, less_ii → YX, oE_some → YY, kS_none → YZ, kS_some → Ya, os_ref → Yb, wIf_t → Yg, wIf_f → Yh, eqD_ii → Yk, eqD_in → Yl, eqD_ni → Ym, eqD_nn → Yn, eqD_bb → Yo, is_int → Yp, is_none → Yq, is_bool → Yr, inst_int → Yt, inst_int_b → Yu, inst_bool_b → Yv, rangeI_rng → Yw, lim0 → Yx, lim1 → Yy, lim2 → Yz, lim3 → XA, ss_nil → XI, ss_cons → XJ, wSs_cons → XK, wSs_nil → XL
open Option renaming map_some → YS, map_none → YT, bind_some → YU, bind_none → YV, getD_some → Yc, getD_none → Yd, elim_some → Ye, elim_none → Yf
open Bool renaming not_true → Yi, not_false → Yj, true_and → XB, false_and → XC, true_or → XD, false_or → XE
open List renaming length_nil → XF, length_cons → XG, length_map → XH

namespace Mine
open PySem
section
variable {P : Prog} {ok : Bool} {n : Nat} {H : Hp} {Q : Post} {X : XP}

theorem s_is_guest (hP : P.fn "is_guest" = some f_is_guest) {i m : Int} (h : Q (.bool (decide (0 ≤ i ∧ i < m))) H) : callN P ok (n + 1) "is_guest" [.int i, .int m] H Q X := by
  (refine callN_in hP rfl ?_; unfold f_is_guest)
  (repeat (first | dsimp only [XI, XJ] | dsimp only [ZA,ZB,ZC,ZD,ZE,ZF,ZG,ZH,ZI,ZJ,ZK,ZL,ZM,ZN,ZO,ZP,ZQ,ZR,ZS,ZT,ZU,ZV,ZW,ZX,ZY,ZZ,Za,Zb,Zc,Zd,Ze,Zf,Zg,Zh,Zi,Zj,Zk,Zl,Zm,Zn,Zo,Zp,Zq,Zr,Zs,Zt,Zu,Zv,Zw,Zx,Zy,Zz,YA,YB,YC,YD,YE,YF,YG,YH,YI,YJ,YK,YL,YM,YN,YO,YP,YQ,YR,Env.set,cond_true,cond_false,String.reduceBEq,YS,YT,YU,YV,YW,YX,YY,YZ,Ya,Yb,Yc,Yd,Ye,Yf] | simp only [Yg,Yh,true_and,Yi,Yj,Yk,Yl,Ym,Yn,Yo,Yp,Yq,Yr,Yt,Yu,Yv,Yw,Yx,Yy,Yz,XA,XB,XC,XD,XE,beq_self_eq_true,reduceIte,reduceCtorEq,↓reduceIte,XF,XG,XH]))
  have key : ∀ b, decide (0 ≤ i ∧ i < m) = b → Q (.bool b) H := fun b e => e ▸ h
  refine ⟨fun h1 => ⟨fun h2 => key _ ?_, fun h2 => key _ ?_⟩, fun h1 => key _ ?_⟩ <;> simp at h1 <;> (try simp at h2) <;> simp <;> omega

structure RowOk (row : List Int) (g m : Int) : Prop where
  low : ∀ x ∈ row, 0 ≤ x ∧ x < m
  ne : g ∉ row
  nodup : row.Nodup
  len : row.length ≤ 6

theorem s_is_row (hP : P.fn "is_row" = some f_is_row) (hP1 : P.fn "is_guest" = some f_is_guest) {r : Nat} {row : List Int} {g m : Int} (hr : LI H r row) (ok : RowOk row g m)
    (h : ∀ H', H <+: H' → Q (.bool true) H') : callN P b (n + 2) "is_row" [.ref r, .int g, .int m] H Q X := by
  have hl : row.length ≤ lim := Nat.le_trans ok.len (by decide)
  (refine callN_in hP rfl ?_; unfold f_is_row)
  (repeat (first | dsimp only [XI, XJ] | dsimp only [ZA,ZB,ZC,ZD,ZE,ZF,ZG,ZH,ZI,ZJ,ZK,ZL,ZM,ZN,ZO,ZP,ZQ,ZR,ZS,ZT,ZU,ZV,ZW,ZX,ZY,ZZ,Za,Zb,Zc,Zd,Ze,Zf,Zg,Zh,Zi,Zj,Zk,Zl,Zm,Zn,Zo,Zp,Zq,Zr,Zs,Zt,Zu,Zv,Zw,Zx,Zy,Zz,YA,YB,YC,YD,YE,YF,YG,YH,YI,YJ,YK,YL,YM,YN,YO,YP,YQ,YR,Env.set,cond_true,cond_false,String.reduceBEq,YS,YT,YU,YV,YW,YX,YY,YZ,Ya,Yb,Yc,Yd,Ye,Yf] | simp only [Yg,Yh,true_and,Yi,Yj,Yk,Yl,Ym,Yn,Yo,Yp,Yq,Yr,Yt,Yu,Yv,Yw,Yx,Yy,Yz,XA,XB,XC,XD,XE,beq_self_eq_true,reduceIte,reduceCtorEq,↓reduceIte,XF,XG,XH, hr.isList, hr.len, range_nat hl]))
  refine wFor_idx (fun i ρ H' => H <+: H' ∧ ρ "row" = some (.ref r) ∧ ρ "guest" = some (.int g) ∧ ρ "many" = some (.int m)) ⟨List.prefix_refl _, rfl, rfl, rfl⟩ (fun i v ρ H' hv hI => ⟨trivial, fun k' h1 h2 => ?_⟩) fun ρ H' hI => ⟨trivial, ?_⟩
  · obtain ⟨hi, rfl⟩ := rng_get hv
    obtain ⟨hp, e1, e2, e3⟩ := hI
    have hr' := hr.pre hp
    obtain ⟨x, hx⟩ : ∃ x, row[i]? = some x := ⟨_, List.getElem?_eq_getElem hi⟩
    (repeat (first | dsimp only [XI, XJ] | dsimp only [ZA,ZB,ZC,ZD,ZE,ZF,ZG,ZH,ZI,ZJ,ZK,ZL,ZM,ZN,ZO,ZP,ZQ,ZR,ZS,ZT,ZU,ZV,ZW,ZX,ZY,ZZ,Za,Zb,Zc,Zd,Ze,Zf,Zg,Zh,Zi,Zj,Zk,Zl,Zm,Zn,Zo,Zp,Zq,Zr,Zs,Zt,Zu,Zv,Zw,Zx,Zy,Zz,YA,YB,YC,YD,YE,YF,YG,YH,YI,YJ,YK,YL,YM,YN,YO,YP,YQ,YR,Env.set,cond_true,cond_false,String.reduceBEq,YS,YT,YU,YV,YW,YX,YY,YZ,Ya,Yb,Yc,Yd,Ye,Yf] | simp only [Yg,Yh,true_and,Yi,Yj,Yk,Yl,Ym,Yn,Yo,Yp,Yq,Yr,Yt,Yu,Yv,Yw,Yx,Yy,Yz,XA,XB,XC,XD,XE,beq_self_eq_true,reduceIte,reduceCtorEq,↓reduceIte,XF,XG,XH, e1, e2, e3, hr'.item hx]))
    refine s_is_guest hP1 ?_
    have hxm := List.mem_of_getElem? hx
    have q1 : decide (0 ≤ x ∧ x < m) = true := by simpa using ok.low x hxm
    have q2 : (x == g) = false := by exact beq_eq_false_iff_ne.mpr (fun e => ok.ne (e ▸ hxm))
    have q3 : decide (x ∈ row.take i) = false := by
      simp only [decide_eq_false_iff_not]
      intro hm
      obtain ⟨j, hj, e⟩ := List.mem_iff_getElem.mp hm
      have hj' : j < i := by simp at hj; omega
      rw [List.getElem_take] at e
      obtain ⟨hi', e'⟩ := List.getElem?_eq_some_iff.mp hx
      exact List.pairwise_iff_getElem.mp ok.nodup j i (by omega) hi' hj' (by rw [e, e'])
    (repeat (first | dsimp only [XI, XJ] | dsimp only [ZA,ZB,ZC,ZD,ZE,ZF,ZG,ZH,ZI,ZJ,ZK,ZL,ZM,ZN,ZO,ZP,ZQ,ZR,ZS,ZT,ZU,ZV,ZW,ZX,ZY,ZZ,Za,Zb,Zc,Zd,Ze,Zf,Zg,Zh,Zi,Zj,Zk,Zl,Zm,Zn,Zo,Zp,Zq,Zr,Zs,Zt,Zu,Zv,Zw,Zx,Zy,Zz,YA,YB,YC,YD,YE,YF,YG,YH,YI,YJ,YK,YL,YM,YN,YO,YP,YQ,YR,Env.set,cond_true,cond_false,String.reduceBEq,YS,YT,YU,YV,YW,YX,YY,YZ,Ya,Yb,Yc,Yd,Ye,Yf] | simp only [Yg,Yh,true_and,Yi,Yj,Yk,Yl,Ym,Yn,Yo,Yp,Yq,Yr,Yt,Yu,Yv,Yw,Yx,Yy,Yz,XA,XB,XC,XD,XE,beq_self_eq_true,reduceIte,reduceCtorEq,↓reduceIte,XF,XG,XH, q1, q2, hr'.item hx, hr'.sliceTo i, (LI.new H' (row.take i)).mem x, q3]))
    refine h1 _ _ ⟨hp.trans (pre_new _ _), ?_⟩
    (repeat (first | dsimp only [XI, XJ] | dsimp only [ZA,ZB,ZC,ZD,ZE,ZF,ZG,ZH,ZI,ZJ,ZK,ZL,ZM,ZN,ZO,ZP,ZQ,ZR,ZS,ZT,ZU,ZV,ZW,ZX,ZY,ZZ,Za,Zb,Zc,Zd,Ze,Zf,Zg,Zh,Zi,Zj,Zk,Zl,Zm,Zn,Zo,Zp,Zq,Zr,Zs,Zt,Zu,Zv,Zw,Zx,Zy,Zz,YA,YB,YC,YD,YE,YF,YG,YH,YI,YJ,YK,YL,YM,YN,YO,YP,YQ,YR,Env.set,cond_true,cond_false,String.reduceBEq,YS,YT,YU,YV,YW,YX,YY,YZ,Ya,Yb,Yc,Yd,Ye,Yf] | simp only [Yg,Yh,true_and,Yi,Yj,Yk,Yl,Ym,Yn,Yo,Yp,Yq,Yr,Yt,Yu,Yv,Yw,Yx,Yy,Yz,XA,XB,XC,XD,XE,beq_self_eq_true,reduceIte,reduceCtorEq,↓reduceIte,XF,XG,XH, e1, e2, e3]))
  · (repeat (first | dsimp only [XI, XJ] | dsimp only [ZA,ZB,ZC,ZD,ZE,ZF,ZG,ZH,ZI,ZJ,ZK,ZL,ZM,ZN,ZO,ZP,ZQ,ZR,ZS,ZT,ZU,ZV,ZW,ZX,ZY,ZZ,Za,Zb,Zc,Zd,Ze,Zf,Zg,Zh,Zi,Zj,Zk,Zl,Zm,Zn,Zo,Zp,Zq,Zr,Zs,Zt,Zu,Zv,Zw,Zx,Zy,Zz,YA,YB,YC,YD,YE,YF,YG,YH,YI,YJ,YK,YL,YM,YN,YO,YP,YQ,YR,Env.set,cond_true,cond_false,String.reduceBEq,YS,YT,YU,YV,YW,YX,YY,YZ,Ya,Yb,Yc,Yd,Ye,Yf] | simp only [Yg,Yh,true_and,Yi,Yj,Yk,Yl,Ym,Yn,Yo,Yp,Yq,Yr,Yt,Yu,Yv,Yw,Yx,Yy,Yz,XA,XB,XC,XD,XE,beq_self_eq_true,reduceIte,reduceCtorEq,↓reduceIte,XF,XG,XH]))
    exact h H' hI.1
end
end Mine

namespace Mine
open PySem

noncomputable def row (W : List (List Int)) (i : Nat) : List Int := W.getD i []
theorem row_get {W : List (List Int)} {i : Nat} (h : i < W.length) : W[i]? = some (row W i) := by
  unfold row; rw [List.getD_eq_getElem?_getD, List.getElem?_eq_getElem h]; rfl

structure WOk (W : List (List Int)) : Prop where
  pos : 1 ≤ W.length
  le : W.length ≤ 6
  rows : ∀ i, i < W.length → RowOk (row W i) i W.length

section
variable {P : Prog} {b : Bool} {n : Nat} {H : Hp} {Q : Post} {X : XP}

theorem s_need_wishes (hP : P.fn "need_wishes" = some f_need_wishes) (hP1 : P.fn "is_row" = some f_is_row) (hP2 : P.fn "is_guest" = some f_is_guest) (hG : P.glob "MOST_GUESTS" = some (.int 6)) {w : Nat} {W : List (List Int)} (hw : WH H w W) (ok : WOk W)
    (h : ∀ H', H <+: H' → Q .none H') : callN P b (n + 3) "need_wishes" [.ref w] H Q X := by
  have l1 := ok.pos
  have l2 := ok.le
  have hl : W.length ≤ lim := Nat.le_trans ok.le (by decide)
  have d1 : decide ((1 : Int) ≤ (W.length : Int)) = true := decide_eq_true (by omega)
  have d2 : decide ((W.length : Int) ≤ 6) = true := decide_eq_true (by omega)
  (refine callN_in hP rfl ?_; unfold f_need_wishes)
  (repeat (first | dsimp only [XI, XJ] | dsimp only [ZA,ZB,ZC,ZD,ZE,ZF,ZG,ZH,ZI,ZJ,ZK,ZL,ZM,ZN,ZO,ZP,ZQ,ZR,ZS,ZT,ZU,ZV,ZW,ZX,ZY,ZZ,Za,Zb,Zc,Zd,Ze,Zf,Zg,Zh,Zi,Zj,Zk,Zl,Zm,Zn,Zo,Zp,Zq,Zr,Zs,Zt,Zu,Zv,Zw,Zx,Zy,Zz,YA,YB,YC,YD,YE,YF,YG,YH,YI,YJ,YK,YL,YM,YN,YO,YP,YQ,YR,Env.set,cond_true,cond_false,String.reduceBEq,YS,YT,YU,YV,YW,YX,YY,YZ,Ya,Yb,Yc,Yd,Ye,Yf] | simp only [Yg,Yh,true_and,Yi,Yj,Yk,Yl,Ym,Yn,Yo,Yp,Yq,Yr,Yt,Yu,Yv,Yw,Yx,Yy,Yz,XA,XB,XC,XD,XE,beq_self_eq_true,reduceIte,reduceCtorEq,↓reduceIte,XF,XG,XH, hw.isList, hw.len, hG, d1, d2, range_nat hl]))
  refine wFor_idx (fun i ρ H' => H <+: H' ∧ ρ "wishes" = some (.ref w)) ⟨List.prefix_refl _, rfl⟩ (fun i v ρ H' hv hI => ⟨trivial, fun k' h1 h2 => ?_⟩) fun ρ H' hI => ⟨trivial, ?_⟩
  · obtain ⟨hi, rfl⟩ := rng_get hv
    obtain ⟨hp, e1⟩ := hI
    have hw' := hw.pre hp
    obtain ⟨a, hit, hli⟩ := hw'.item (row_get hi)
    (repeat (first | dsimp only [XI, XJ] | dsimp only [ZA,ZB,ZC,ZD,ZE,ZF,ZG,ZH,ZI,ZJ,ZK,ZL,ZM,ZN,ZO,ZP,ZQ,ZR,ZS,ZT,ZU,ZV,ZW,ZX,ZY,ZZ,Za,Zb,Zc,Zd,Ze,Zf,Zg,Zh,Zi,Zj,Zk,Zl,Zm,Zn,Zo,Zp,Zq,Zr,Zs,Zt,Zu,Zv,Zw,Zx,Zy,Zz,YA,YB,YC,YD,YE,YF,YG,YH,YI,YJ,YK,YL,YM,YN,YO,YP,YQ,YR,Env.set,cond_true,cond_false,String.reduceBEq,YS,YT,YU,YV,YW,YX,YY,YZ,Ya,Yb,Yc,Yd,Ye,Yf] | simp only [Yg,Yh,true_and,Yi,Yj,Yk,Yl,Ym,Yn,Yo,Yp,Yq,Yr,Yt,Yu,Yv,Yw,Yx,Yy,Yz,XA,XB,XC,XD,XE,beq_self_eq_true,reduceIte,reduceCtorEq,↓reduceIte,XF,XG,XH, e1, hit, hw'.len]))
    refine s_is_row hP1 hP2 hli (ok.rows i hi) fun H'' hp' => ?_
    (repeat (first | dsimp only [XI, XJ] | dsimp only [ZA,ZB,ZC,ZD,ZE,ZF,ZG,ZH,ZI,ZJ,ZK,ZL,ZM,ZN,ZO,ZP,ZQ,ZR,ZS,ZT,ZU,ZV,ZW,ZX,ZY,ZZ,Za,Zb,Zc,Zd,Ze,Zf,Zg,Zh,Zi,Zj,Zk,Zl,Zm,Zn,Zo,Zp,Zq,Zr,Zs,Zt,Zu,Zv,Zw,Zx,Zy,Zz,YA,YB,YC,YD,YE,YF,YG,YH,YI,YJ,YK,YL,YM,YN,YO,YP,YQ,YR,Env.set,cond_true,cond_false,String.reduceBEq,YS,YT,YU,YV,YW,YX,YY,YZ,Ya,Yb,Yc,Yd,Ye,Yf] | simp only [Yg,Yh,true_and,Yi,Yj,Yk,Yl,Ym,Yn,Yo,Yp,Yq,Yr,Yt,Yu,Yv,Yw,Yx,Yy,Yz,XA,XB,XC,XD,XE,beq_self_eq_true,reduceIte,reduceCtorEq,↓reduceIte,XF,XG,XH]))
    exact h1 _ _ ⟨hp.trans hp', by (repeat (first | dsimp only [XI, XJ] | dsimp only [ZA,ZB,ZC,ZD,ZE,ZF,ZG,ZH,ZI,ZJ,ZK,ZL,ZM,ZN,ZO,ZP,ZQ,ZR,ZS,ZT,ZU,ZV,ZW,ZX,ZY,ZZ,Za,Zb,Zc,Zd,Ze,Zf,Zg,Zh,Zi,Zj,Zk,Zl,Zm,Zn,Zo,Zp,Zq,Zr,Zs,Zt,Zu,Zv,Zw,Zx,Zy,Zz,YA,YB,YC,YD,YE,YF,YG,YH,YI,YJ,YK,YL,YM,YN,YO,YP,YQ,YR,Env.set,cond_true,cond_false,String.reduceBEq,YS,YT,YU,YV,YW,YX,YY,YZ,Ya,Yb,Yc,Yd,Ye,Yf] | simp only [Yg,Yh,true_and,Yi,Yj,Yk,Yl,Ym,Yn,Yo,Yp,Yq,Yr,Yt,Yu,Yv,Yw,Yx,Yy,Yz,XA,XB,XC,XD,XE,beq_self_eq_true,reduceIte,reduceCtorEq,↓reduceIte,XF,XG,XH, e1]))⟩
  · (repeat (first | dsimp only [XI, XJ] | dsimp only [ZA,ZB,ZC,ZD,ZE,ZF,ZG,ZH,ZI,ZJ,ZK,ZL,ZM,ZN,ZO,ZP,ZQ,ZR,ZS,ZT,ZU,ZV,ZW,ZX,ZY,ZZ,Za,Zb,Zc,Zd,Ze,Zf,Zg,Zh,Zi,Zj,Zk,Zl,Zm,Zn,Zo,Zp,Zq,Zr,Zs,Zt,Zu,Zv,Zw,Zx,Zy,Zz,YA,YB,YC,YD,YE,YF,YG,YH,YI,YJ,YK,YL,YM,YN,YO,YP,YQ,YR,Env.set,cond_true,cond_false,String.reduceBEq,YS,YT,YU,YV,YW,YX,YY,YZ,Ya,Yb,Yc,Yd,Ye,Yf] | simp only [Yg,Yh,true_and,Yi,Yj,Yk,Yl,Ym,Yn,Yo,Yp,Yq,Yr,Yt,Yu,Yv,Yw,Yx,Yy,Yz,XA,XB,XC,XD,XE,beq_self_eq_true,reduceIte,reduceCtorEq,↓reduceIte,XF,XG,XH]))
    exact h H' hI.1

noncomputable def both (W : List (List Int)) (i j : Nat) : Bool := decide ((j : Int) ∈ row W i) && decide ((i : Int) ∈ row W j)

theorem s_both_wish (hP : P.fn "both_wish" = some f_both_wish) {w : Nat} {W : List (List Int)} (hw : WH H w W) {i j : Nat} (hi : i < W.length) (hj : j < W.length) (h : Q (.bool (both W i j)) H) : callN P b (n + 1) "both_wish" [.ref w, .int (i : Int), .int (j : Int)] H Q X := by
  obtain ⟨a, h1, h2⟩ := hw.item (row_get hi)
  obtain ⟨a', h1', h2'⟩ := hw.item (row_get hj)
  (refine callN_in hP rfl ?_; unfold f_both_wish)
  (repeat (first | dsimp only [XI, XJ] | dsimp only [ZA,ZB,ZC,ZD,ZE,ZF,ZG,ZH,ZI,ZJ,ZK,ZL,ZM,ZN,ZO,ZP,ZQ,ZR,ZS,ZT,ZU,ZV,ZW,ZX,ZY,ZZ,Za,Zb,Zc,Zd,Ze,Zf,Zg,Zh,Zi,Zj,Zk,Zl,Zm,Zn,Zo,Zp,Zq,Zr,Zs,Zt,Zu,Zv,Zw,Zx,Zy,Zz,YA,YB,YC,YD,YE,YF,YG,YH,YI,YJ,YK,YL,YM,YN,YO,YP,YQ,YR,Env.set,cond_true,cond_false,String.reduceBEq,YS,YT,YU,YV,YW,YX,YY,YZ,Ya,Yb,Yc,Yd,Ye,Yf] | simp only [Yg,Yh,true_and,Yi,Yj,Yk,Yl,Ym,Yn,Yo,Yp,Yq,Yr,Yt,Yu,Yv,Yw,Yx,Yy,Yz,XA,XB,XC,XD,XE,beq_self_eq_true,reduceIte,reduceCtorEq,↓reduceIte,XF,XG,XH, h1, h1', h2.mem, h2'.mem]))
  unfold both at h
  refine ⟨fun q => ?_, fun q => ?_⟩
  · rw [q, Bool.true_and] at h
    cases e : decide ((i : Int) ∈ row W j) <;> rw [e] at h <;> (repeat (first | dsimp only [XI, XJ] | dsimp only [ZA,ZB,ZC,ZD,ZE,ZF,ZG,ZH,ZI,ZJ,ZK,ZL,ZM,ZN,ZO,ZP,ZQ,ZR,ZS,ZT,ZU,ZV,ZW,ZX,ZY,ZZ,Za,Zb,Zc,Zd,Ze,Zf,Zg,Zh,Zi,Zj,Zk,Zl,Zm,Zn,Zo,Zp,Zq,Zr,Zs,Zt,Zu,Zv,Zw,Zx,Zy,Zz,YA,YB,YC,YD,YE,YF,YG,YH,YI,YJ,YK,YL,YM,YN,YO,YP,YQ,YR,Env.set,cond_true,cond_false,String.reduceBEq,YS,YT,YU,YV,YW,YX,YY,YZ,Ya,Yb,Yc,Yd,Ye,Yf] | simp only [Yg,Yh,true_and,Yi,Yj,Yk,Yl,Ym,Yn,Yo,Yp,Yq,Yr,Yt,Yu,Yv,Yw,Yx,Yy,Yz,XA,XB,XC,XD,XE,beq_self_eq_true,reduceIte,reduceCtorEq,↓reduceIte,XF,XG,XH])) <;> exact h
  · rw [q, Bool.false_and] at h; exact h

theorem s_law_suits (hP : P.fn "_law_suits" = some f__law_suits) {w : Nat} {W : List (List Int)} (hw : WH H w W) {i j : Nat} (hi : i < W.length) (hj : j < W.length) (h : Q (.bool (both W i j)) H) : callN P b (n + 1) "_law_suits" [.ref w, .int (i : Int), .int (j : Int)] H Q X := by
  obtain ⟨a, h1, h2⟩ := hw.item (row_get hi)
  obtain ⟨a', h1', h2'⟩ := hw.item (row_get hj)
  (refine callN_in hP rfl ?_; unfold f__law_suits)
  (repeat (first | dsimp only [XI, XJ] | dsimp only [ZA,ZB,ZC,ZD,ZE,ZF,ZG,ZH,ZI,ZJ,ZK,ZL,ZM,ZN,ZO,ZP,ZQ,ZR,ZS,ZT,ZU,ZV,ZW,ZX,ZY,ZZ,Za,Zb,Zc,Zd,Ze,Zf,Zg,Zh,Zi,Zj,Zk,Zl,Zm,Zn,Zo,Zp,Zq,Zr,Zs,Zt,Zu,Zv,Zw,Zx,Zy,Zz,YA,YB,YC,YD,YE,YF,YG,YH,YI,YJ,YK,YL,YM,YN,YO,YP,YQ,YR,Env.set,cond_true,cond_false,String.reduceBEq,YS,YT,YU,YV,YW,YX,YY,YZ,Ya,Yb,Yc,Yd,Ye,Yf] | simp only [Yg,Yh,true_and,Yi,Yj,Yk,Yl,Ym,Yn,Yo,Yp,Yq,Yr,Yt,Yu,Yv,Yw,Yx,Yy,Yz,XA,XB,XC,XD,XE,beq_self_eq_true,reduceIte,reduceCtorEq,↓reduceIte,XF,XG,XH, h1, h1', h2.mem, h2'.mem]))
  unfold both at h
  refine ⟨fun q => ?_, fun q => ?_⟩
  · rw [q, Bool.true_and] at h
    cases e : decide ((i : Int) ∈ row W j) <;> rw [e] at h <;> (repeat (first | dsimp only [XI, XJ] | dsimp only [ZA,ZB,ZC,ZD,ZE,ZF,ZG,ZH,ZI,ZJ,ZK,ZL,ZM,ZN,ZO,ZP,ZQ,ZR,ZS,ZT,ZU,ZV,ZW,ZX,ZY,ZZ,Za,Zb,Zc,Zd,Ze,Zf,Zg,Zh,Zi,Zj,Zk,Zl,Zm,Zn,Zo,Zp,Zq,Zr,Zs,Zt,Zu,Zv,Zw,Zx,Zy,Zz,YA,YB,YC,YD,YE,YF,YG,YH,YI,YJ,YK,YL,YM,YN,YO,YP,YQ,YR,Env.set,cond_true,cond_false,String.reduceBEq,YS,YT,YU,YV,YW,YX,YY,YZ,Ya,Yb,Yc,Yd,Ye,Yf] | simp only [Yg,Yh,true_and,Yi,Yj,Yk,Yl,Ym,Yn,Yo,Yp,Yq,Yr,Yt,Yu,Yv,Yw,Yx,Yy,Yz,XA,XB,XC,XD,XE,beq_self_eq_true,reduceIte,reduceCtorEq,↓reduceIte,XF,XG,XH])) <;> exact h
  · rw [q, Bool.false_and] at h; exact h

noncomputable def ov : Option Nat → V
  | none => .none
  | some i => .int (i : Int)

noncomputable def soonerP (W : List (List Int)) (g : Nat) : Option Nat → Option Nat → Bool
  | none, _ => false
  | some a, none => both W g a
  | some a, some c => (a != c) && both W g a && (!both W g c || decide ((row W g).idxOf (a : Int) < (row W g).idxOf (c : Int)))

theorem LI.index {a : Nat} {is : List Int} (h : LI H a is) {x : Int} (hx : x ∈ is) : methV .index [.ref a, .int x] H = some (.int (is.idxOf x : Nat), H) := by
  rw [m_idx, listOf_eq h, Option.bind_some, mapM_asInt, Option.bind_some, if_pos hx]

theorem s_sooner (hP : P.fn "sooner" = some f_sooner) (hP1 : P.fn "both_wish" = some f_both_wish) {w : Nat} {W : List (List Int)} (hw : WH H w W) {g : Nat} (hg : g < W.length) {one other : Option Nat} (h1 : ∀ i, one = some i → i < W.length) (h2 : ∀ i, other = some i → i < W.length)
    (h : Q (.bool (soonerP W g one other)) H) : callN P b (n + 2) "sooner" [.ref w, .int (g : Int), ov one, ov other] H Q X := by
  (refine callN_in hP rfl ?_; unfold f_sooner)
  cases one with
  | none =>
    cases other with
    | none => (repeat (first | with_reducible refine XK ?_ | with_reducible refine XL ?_ | dsimp only [ZA,ZB,ZC,ZD,ZE,ZF,ZG,ZH,ZI,ZJ,ZK,ZL,ZM,ZN,ZO,ZP,ZQ,ZR,ZS,ZT,ZU,ZV,ZW,ZX,ZY,ZZ,Za,Zb,Zc,Zd,Ze,Zf,Zg,Zh,Zi,Zj,Zk,Zl,Zm,Zn,Zo,Zp,Zq,Zr,Zs,Zt,Zu,Zv,Zw,Zx,Zy,Zz,YA,YB,YC,YD,YE,YF,YG,YH,YI,YJ,YK,YL,YM,YN,YO,YP,YQ,YR,Env.set,cond_true,cond_false,String.reduceBEq,YS,YT,YU,YV,YW,YX,YY,YZ,Ya,Yb,Yc,Yd,Ye,Yf] | simp only [Yg,Yh,true_and,Yi,Yj,Yk,Yl,Ym,Yn,Yo,Yp,Yq,Yr,Yt,Yu,Yv,Yw,Yx,Yy,Yz,XA,XB,XC,XD,XE,beq_self_eq_true,reduceIte,reduceCtorEq,↓reduceIte,XF,XG,XH, ov])); exact h
    | some c => (repeat (first | with_reducible refine XK ?_ | with_reducible refine XL ?_ | dsimp only [ZA,ZB,ZC,ZD,ZE,ZF,ZG,ZH,ZI,ZJ,ZK,ZL,ZM,ZN,ZO,ZP,ZQ,ZR,ZS,ZT,ZU,ZV,ZW,ZX,ZY,ZZ,Za,Zb,Zc,Zd,Ze,Zf,Zg,Zh,Zi,Zj,Zk,Zl,Zm,Zn,Zo,Zp,Zq,Zr,Zs,Zt,Zu,Zv,Zw,Zx,Zy,Zz,YA,YB,YC,YD,YE,YF,YG,YH,YI,YJ,YK,YL,YM,YN,YO,YP,YQ,YR,Env.set,cond_true,cond_false,String.reduceBEq,YS,YT,YU,YV,YW,YX,YY,YZ,Ya,Yb,Yc,Yd,Ye,Yf] | simp only [Yg,Yh,true_and,Yi,Yj,Yk,Yl,Ym,Yn,Yo,Yp,Yq,Yr,Yt,Yu,Yv,Yw,Yx,Yy,Yz,XA,XB,XC,XD,XE,beq_self_eq_true,reduceIte,reduceCtorEq,↓reduceIte,XF,XG,XH, ov])); exact h
  | some a =>
    have ha := h1 a rfl
    obtain ⟨r, hr, hl⟩ := hw.item (row_get hg)
    cases other with
    | none =>
      (repeat (first | with_reducible refine XK ?_ | with_reducible refine XL ?_ | dsimp only [ZA,ZB,ZC,ZD,ZE,ZF,ZG,ZH,ZI,ZJ,ZK,ZL,ZM,ZN,ZO,ZP,ZQ,ZR,ZS,ZT,ZU,ZV,ZW,ZX,ZY,ZZ,Za,Zb,Zc,Zd,Ze,Zf,Zg,Zh,Zi,Zj,Zk,Zl,Zm,Zn,Zo,Zp,Zq,Zr,Zs,Zt,Zu,Zv,Zw,Zx,Zy,Zz,YA,YB,YC,YD,YE,YF,YG,YH,YI,YJ,YK,YL,YM,YN,YO,YP,YQ,YR,Env.set,cond_true,cond_false,String.reduceBEq,YS,YT,YU,YV,YW,YX,YY,YZ,Ya,Yb,Yc,Yd,Ye,Yf] | simp only [Yg,Yh,true_and,Yi,Yj,Yk,Yl,Ym,Yn,Yo,Yp,Yq,Yr,Yt,Yu,Yv,Yw,Yx,Yy,Yz,XA,XB,XC,XD,XE,beq_self_eq_true,reduceIte,reduceCtorEq,↓reduceIte,XF,XG,XH, ov]))
      refine s_both_wish hP1 hw hg ha ?_
      simp only [soonerP] at h
      cases e : both W g a <;> rw [e] at h <;> (repeat (first | with_reducible refine XK ?_ | with_reducible refine XL ?_ | dsimp only [ZA,ZB,ZC,ZD,ZE,ZF,ZG,ZH,ZI,ZJ,ZK,ZL,ZM,ZN,ZO,ZP,ZQ,ZR,ZS,ZT,ZU,ZV,ZW,ZX,ZY,ZZ,Za,Zb,Zc,Zd,Ze,Zf,Zg,Zh,Zi,Zj,Zk,Zl,Zm,Zn,Zo,Zp,Zq,Zr,Zs,Zt,Zu,Zv,Zw,Zx,Zy,Zz,YA,YB,YC,YD,YE,YF,YG,YH,YI,YJ,YK,YL,YM,YN,YO,YP,YQ,YR,Env.set,cond_true,cond_false,String.reduceBEq,YS,YT,YU,YV,YW,YX,YY,YZ,Ya,Yb,Yc,Yd,Ye,Yf] | simp only [Yg,Yh,true_and,Yi,Yj,Yk,Yl,Ym,Yn,Yo,Yp,Yq,Yr,Yt,Yu,Yv,Yw,Yx,Yy,Yz,XA,XB,XC,XD,XE,beq_self_eq_true,reduceIte,reduceCtorEq,↓reduceIte,XF,XG,XH])) <;> exact h
    | some c =>
      have hc := h2 c rfl
      (repeat (first | with_reducible refine XK ?_ | with_reducible refine XL ?_ | dsimp only [ZA,ZB,ZC,ZD,ZE,ZF,ZG,ZH,ZI,ZJ,ZK,ZL,ZM,ZN,ZO,ZP,ZQ,ZR,ZS,ZT,ZU,ZV,ZW,ZX,ZY,ZZ,Za,Zb,Zc,Zd,Ze,Zf,Zg,Zh,Zi,Zj,Zk,Zl,Zm,Zn,Zo,Zp,Zq,Zr,Zs,Zt,Zu,Zv,Zw,Zx,Zy,Zz,YA,YB,YC,YD,YE,YF,YG,YH,YI,YJ,YK,YL,YM,YN,YO,YP,YQ,YR,Env.set,cond_true,cond_false,String.reduceBEq,YS,YT,YU,YV,YW,YX,YY,YZ,Ya,Yb,Yc,Yd,Ye,Yf] | simp only [Yg,Yh,true_and,Yi,Yj,Yk,Yl,Ym,Yn,Yo,Yp,Yq,Yr,Yt,Yu,Yv,Yw,Yx,Yy,Yz,XA,XB,XC,XD,XE,beq_self_eq_true,reduceIte,reduceCtorEq,↓reduceIte,XF,XG,XH, ov]))
      by_cases hac : a = c
      · subst hac
        (repeat (first | with_reducible refine XK ?_ | with_reducible refine XL ?_ | dsimp only [ZA,ZB,ZC,ZD,ZE,ZF,ZG,ZH,ZI,ZJ,ZK,ZL,ZM,ZN,ZO,ZP,ZQ,ZR,ZS,ZT,ZU,ZV,ZW,ZX,ZY,ZZ,Za,Zb,Zc,Zd,Ze,Zf,Zg,Zh,Zi,Zj,Zk,Zl,Zm,Zn,Zo,Zp,Zq,Zr,Zs,Zt,Zu,Zv,Zw,Zx,Zy,Zz,YA,YB,YC,YD,YE,YF,YG,YH,YI,YJ,YK,YL,YM,YN,YO,YP,YQ,YR,Env.set,cond_true,cond_false,String.reduceBEq,YS,YT,YU,YV,YW,YX,YY,YZ,Ya,Yb,Yc,Yd,Ye,Yf] | simp only [Yg,Yh,true_and,Yi,Yj,Yk,Yl,Ym,Yn,Yo,Yp,Yq,Yr,Yt,Yu,Yv,Yw,Yx,Yy,Yz,XA,XB,XC,XD,XE,beq_self_eq_true,reduceIte,reduceCtorEq,↓reduceIte,XF,XG,XH]))
        simpa [soonerP] using h
      · have e : ((a : Int) == (c : Int)) = false := beq_eq_false_iff_ne.mpr (by omega)
        (repeat (first | with_reducible refine XK ?_ | with_reducible refine XL ?_ | dsimp only [ZA,ZB,ZC,ZD,ZE,ZF,ZG,ZH,ZI,ZJ,ZK,ZL,ZM,ZN,ZO,ZP,ZQ,ZR,ZS,ZT,ZU,ZV,ZW,ZX,ZY,ZZ,Za,Zb,Zc,Zd,Ze,Zf,Zg,Zh,Zi,Zj,Zk,Zl,Zm,Zn,Zo,Zp,Zq,Zr,Zs,Zt,Zu,Zv,Zw,Zx,Zy,Zz,YA,YB,YC,YD,YE,YF,YG,YH,YI,YJ,YK,YL,YM,YN,YO,YP,YQ,YR,Env.set,cond_true,cond_false,String.reduceBEq,YS,YT,YU,YV,YW,YX,YY,YZ,Ya,Yb,Yc,Yd,Ye,Yf] | simp only [Yg,Yh,true_and,Yi,Yj,Yk,Yl,Ym,Yn,Yo,Yp,Yq,Yr,Yt,Yu,Yv,Yw,Yx,Yy,Yz,XA,XB,XC,XD,XE,beq_self_eq_true,reduceIte,reduceCtorEq,↓reduceIte,XF,XG,XH, e]))
        refine s_both_wish hP1 hw hg ha ?_
        simp only [soonerP] at h
        have e' : (a != c) = true := by simp [hac]
        rw [e'] at h
        cases ea : both W g a with
        | false => rw [ea] at h; (repeat (first | with_reducible refine XK ?_ | with_reducible refine XL ?_ | dsimp only [ZA,ZB,ZC,ZD,ZE,ZF,ZG,ZH,ZI,ZJ,ZK,ZL,ZM,ZN,ZO,ZP,ZQ,ZR,ZS,ZT,ZU,ZV,ZW,ZX,ZY,ZZ,Za,Zb,Zc,Zd,Ze,Zf,Zg,Zh,Zi,Zj,Zk,Zl,Zm,Zn,Zo,Zp,Zq,Zr,Zs,Zt,Zu,Zv,Zw,Zx,Zy,Zz,YA,YB,YC,YD,YE,YF,YG,YH,YI,YJ,YK,YL,YM,YN,YO,YP,YQ,YR,Env.set,cond_true,cond_false,String.reduceBEq,YS,YT,YU,YV,YW,YX,YY,YZ,Ya,Yb,Yc,Yd,Ye,Yf] | simp only [Yg,Yh,true_and,Yi,Yj,Yk,Yl,Ym,Yn,Yo,Yp,Yq,Yr,Yt,Yu,Yv,Yw,Yx,Yy,Yz,XA,XB,XC,XD,XE,beq_self_eq_true,reduceIte,reduceCtorEq,↓reduceIte,XF,XG,XH])); exact h
        | true =>
          rw [ea] at h
          (repeat (first | with_reducible refine XK ?_ | with_reducible refine XL ?_ | dsimp only [ZA,ZB,ZC,ZD,ZE,ZF,ZG,ZH,ZI,ZJ,ZK,ZL,ZM,ZN,ZO,ZP,ZQ,ZR,ZS,ZT,ZU,ZV,ZW,ZX,ZY,ZZ,Za,Zb,Zc,Zd,Ze,Zf,Zg,Zh,Zi,Zj,Zk,Zl,Zm,Zn,Zo,Zp,Zq,Zr,Zs,Zt,Zu,Zv,Zw,Zx,Zy,Zz,YA,YB,YC,YD,YE,YF,YG,YH,YI,YJ,YK,YL,YM,YN,YO,YP,YQ,YR,Env.set,cond_true,cond_false,String.reduceBEq,YS,YT,YU,YV,YW,YX,YY,YZ,Ya,Yb,Yc,Yd,Ye,Yf] | simp only [Yg,Yh,true_and,Yi,Yj,Yk,Yl,Ym,Yn,Yo,Yp,Yq,Yr,Yt,Yu,Yv,Yw,Yx,Yy,Yz,XA,XB,XC,XD,XE,beq_self_eq_true,reduceIte,reduceCtorEq,↓reduceIte,XF,XG,XH]))
          refine s_both_wish hP1 hw hg hc ?_
          cases ec : both W g c with
          | false => rw [ec] at h; (repeat (first | with_reducible refine XK ?_ | with_reducible refine XL ?_ | dsimp only [ZA,ZB,ZC,ZD,ZE,ZF,ZG,ZH,ZI,ZJ,ZK,ZL,ZM,ZN,ZO,ZP,ZQ,ZR,ZS,ZT,ZU,ZV,ZW,ZX,ZY,ZZ,Za,Zb,Zc,Zd,Ze,Zf,Zg,Zh,Zi,Zj,Zk,Zl,Zm,Zn,Zo,Zp,Zq,Zr,Zs,Zt,Zu,Zv,Zw,Zx,Zy,Zz,YA,YB,YC,YD,YE,YF,YG,YH,YI,YJ,YK,YL,YM,YN,YO,YP,YQ,YR,Env.set,cond_true,cond_false,String.reduceBEq,YS,YT,YU,YV,YW,YX,YY,YZ,Ya,Yb,Yc,Yd,Ye,Yf] | simp only [Yg,Yh,true_and,Yi,Yj,Yk,Yl,Ym,Yn,Yo,Yp,Yq,Yr,Yt,Yu,Yv,Yw,Yx,Yy,Yz,XA,XB,XC,XD,XE,beq_self_eq_true,reduceIte,reduceCtorEq,↓reduceIte,XF,XG,XH])); simpa using h
          | true =>
            rw [ec] at h
            have ma : (a : Int) ∈ row W g := by unfold both at ea; simp at ea; exact ea.1
            have mc : (c : Int) ∈ row W g := by unfold both at ec; simp at ec; exact ec.1
            (repeat (first | with_reducible refine XK ?_ | with_reducible refine XL ?_ | dsimp only [ZA,ZB,ZC,ZD,ZE,ZF,ZG,ZH,ZI,ZJ,ZK,ZL,ZM,ZN,ZO,ZP,ZQ,ZR,ZS,ZT,ZU,ZV,ZW,ZX,ZY,ZZ,Za,Zb,Zc,Zd,Ze,Zf,Zg,Zh,Zi,Zj,Zk,Zl,Zm,Zn,Zo,Zp,Zq,Zr,Zs,Zt,Zu,Zv,Zw,Zx,Zy,Zz,YA,YB,YC,YD,YE,YF,YG,YH,YI,YJ,YK,YL,YM,YN,YO,YP,YQ,YR,Env.set,cond_true,cond_false,String.reduceBEq,YS,YT,YU,YV,YW,YX,YY,YZ,Ya,Yb,Yc,Yd,Ye,Yf] | simp only [Yg,Yh,true_and,Yi,Yj,Yk,Yl,Ym,Yn,Yo,Yp,Yq,Yr,Yt,Yu,Yv,Yw,Yx,Yy,Yz,XA,XB,XC,XD,XE,beq_self_eq_true,reduceIte,reduceCtorEq,↓reduceIte,XF,XG,XH, hr, (recvL hl).2.2, hl.index ma, hl.index mc]))
            have hcast : decide (((row W g).idxOf (a : Int) : Int) < ((row W g).idxOf (c : Int) : Int)) = decide ((row W g).idxOf (a : Int) < (row W g).idxOf (c : Int)) := by simp
            rw [hcast]
            simpa using h

theorem s_cell_at (hP : P.fn "_law_cell_at" = some f__law_cell_at) {a : Nat} {is : List Int} (hs : seqOf H a = some (is.map .int)) {k : Nat} (h : Q (.int (is.getD k 0)) H) : callN P b (n + 1) "_law_cell_at" [.ref a, .int (k : Int)] H Q X := by
  have hl : lenV (.ref a) H = some (is.length : Int) := by unfold lenV; simp [hs]
  (refine callN_in hP rfl ?_; unfold f__law_cell_at)
  (repeat (first | dsimp only [XI, XJ] | dsimp only [ZA,ZB,ZC,ZD,ZE,ZF,ZG,ZH,ZI,ZJ,ZK,ZL,ZM,ZN,ZO,ZP,ZQ,ZR,ZS,ZT,ZU,ZV,ZW,ZX,ZY,ZZ,Za,Zb,Zc,Zd,Ze,Zf,Zg,Zh,Zi,Zj,Zk,Zl,Zm,Zn,Zo,Zp,Zq,Zr,Zs,Zt,Zu,Zv,Zw,Zx,Zy,Zz,YA,YB,YC,YD,YE,YF,YG,YH,YI,YJ,YK,YL,YM,YN,YO,YP,YQ,YR,Env.set,cond_true,cond_false,String.reduceBEq,YS,YT,YU,YV,YW,YX,YY,YZ,Ya,Yb,Yc,Yd,Ye,Yf] | simp only [Yg,Yh,true_and,Yi,Yj,Yk,Yl,Ym,Yn,Yo,Yp,Yq,Yr,Yt,Yu,Yv,Yw,Yx,Yy,Yz,XA,XB,XC,XD,XE,beq_self_eq_true,reduceIte,reduceCtorEq,↓reduceIte,XF,XG,XH, hl]))
  refine ⟨fun q => ?_, fun q => ?_⟩
  · have hk : k < is.length := by simp at q; exact q
    have : is[k]? = some is[k] := List.getElem?_eq_getElem hk
    (repeat (first | dsimp only [XI, XJ] | dsimp only [ZA,ZB,ZC,ZD,ZE,ZF,ZG,ZH,ZI,ZJ,ZK,ZL,ZM,ZN,ZO,ZP,ZQ,ZR,ZS,ZT,ZU,ZV,ZW,ZX,ZY,ZZ,Za,Zb,Zc,Zd,Ze,Zf,Zg,Zh,Zi,Zj,Zk,Zl,Zm,Zn,Zo,Zp,Zq,Zr,Zs,Zt,Zu,Zv,Zw,Zx,Zy,Zz,YA,YB,YC,YD,YE,YF,YG,YH,YI,YJ,YK,YL,YM,YN,YO,YP,YQ,YR,Env.set,cond_true,cond_false,String.reduceBEq,YS,YT,YU,YV,YW,YX,YY,YZ,Ya,Yb,Yc,Yd,Ye,Yf] | simp only [Yg,Yh,true_and,Yi,Yj,Yk,Yl,Ym,Yn,Yo,Yp,Yq,Yr,Yt,Yu,Yv,Yw,Yx,Yy,Yz,XA,XB,XC,XD,XE,beq_self_eq_true,reduceIte,reduceCtorEq,↓reduceIte,XF,XG,XH, item_seq hs (i := k) (v := .int is[k]) (by rw [List.getElem?_map, this]; rfl)]))
    rw [List.getD_eq_getElem?_getD, this] at h
    exact h
  · have hk : ¬ k < is.length := by simp at q; omega
    rw [List.getD_eq_getElem?_getD, List.getElem?_eq_none (by omega)] at h
    exact h

theorem get2a (H : Hp) (x y : O) : (H ++ [x, y])[H.length]? = some x := by simp
theorem get2b (H : Hp) (x y : O) : (H ++ [x, y])[H.length + 1]? = some y := by simp
theorem set2a (H : Hp) (x y z : O) : (H ++ [x, y]).set H.length z = H ++ [z, y] := by simp
theorem set2b (H : Hp) (x y z : O) : (H ++ [x, y]).set (H.length + 1) z = H ++ [x, z] := by simp

theorem rowOk_take {row : List Int} {g m : Int} (h : RowOk row g m) (k : Nat) : RowOk (row.take k) g m :=
  ⟨fun x hx => h.low x (List.mem_of_mem_take hx), fun hx => h.ne (List.mem_of_mem_take hx), h.nodup.sublist (List.take_sublist _ _), by have := h.len; rw [List.length_take]; omega⟩

theorem pop_at {a : Nat} {xs : List V} {i : Nat} {v : V} (h : H[a]? = some (.list xs)) (hi : xs[i]? = some v) : methV .pop [.ref a, .int (i : Int)] H = some (v, H.set a (.list (xs.eraseIdx i))) := by
  have hl := (List.getElem?_eq_some_iff.mp hi).1
  rw [m_pop, listOf_eq h, Option.bind_some, normIdx_nat hl, Option.bind_some, hi]; rfl
theorem append_at {a : Nat} {xs : List V} {v : V} (h : H[a]? = some (.list xs)) (hl : xs.length < lim) : methV .append [.ref a, v] H = some (.none, H.set a (.list (xs ++ [v]))) := by
  rw [m_app, listOf_eq h, Option.bind_some, if_pos hl]

theorem fmod_nat (c : Int) {m : Nat} (hm : 0 < m) : ∃ i : Nat, i < m ∧ c.fmod (m : Int) = (i : Int) := by
  have h1 : 0 ≤ c.fmod (m : Int) := Int.fmod_nonneg_of_pos _ (by omega)
  have h2 : c.fmod (m : Int) < m := Int.fmod_lt_of_pos _ (by omega)
  exact ⟨(c.fmod m).toNat, by omega, by omega⟩

theorem map_erase (l : List Int) (i : Nat) : (l.map V.int).eraseIdx i = (l.eraseIdx i).map V.int := by
  induction l generalizing i with
  | nil => rfl
  | cons a l ih => cases i with
    | zero => rfl
    | succ i => simp [ih]

theorem erase_perm {α : Type} {x : α} : ∀ {l : List α} {i : Nat}, l[i]? = some x → List.Perm l (x :: l.eraseIdx i)
  | a :: l, 0, h => by simp at h; subst h; exact List.Perm.refl _
  | a :: l, i + 1, h => by
    have := erase_perm (l := l) (i := i) (by simpa using h)
    exact (this.cons a).trans (List.Perm.swap _ _ _)

theorem s_row_by2 (hP : P.fn "_law_row_by" = some f__law_row_by) {c : Int} {g m : Nat} {full : Bool} (hm : m ≤ 6)
    (h : ∀ H' r l, H <+: H' → H.length ≤ r → LI H' r l → RowOk l g m → Q (.ref r) H') : callN P b (n + 1) "_law_row_by" [.int c, .int (g : Int), .int (m : Int), .bool full] H Q X := by
  have hml : m ≤ lim := Nat.le_trans hm (by decide)
  (refine callN_in hP rfl ?_; unfold f__law_row_by)
  (repeat (first | with_reducible refine XK ?_ | with_reducible refine XL ?_ | dsimp only [ZA,ZB,ZC,ZD,ZE,ZF,ZG,ZH,ZI,ZJ,ZK,ZL,ZM,ZN,ZO,ZP,ZQ,ZR,ZS,ZT,ZU,ZV,ZW,ZX,ZY,ZZ,Za,Zb,Zc,Zd,Ze,Zf,Zg,Zh,Zi,Zj,Zk,Zl,Zm,Zn,Zo,Zp,Zq,Zr,Zs,Zt,Zu,Zv,Zw,Zx,Zy,Zz,YA,YB,YC,YD,YE,YF,YG,YH,YI,YJ,YK,YL,YM,YN,YO,YP,YQ,YR,Env.set,cond_true,cond_false,String.reduceBEq,YS,YT,YU,YV,YW,YX,YY,YZ,Ya,Yb,Yc,Yd,Ye,Yf] | simp only [Yg,Yh,true_and,Yi,Yj,Yk,Yl,Ym,Yn,Yo,Yp,Yq,Yr,Yt,Yu,Yv,Yw,Yx,Yy,Yz,XA,XB,XC,XD,XE,beq_self_eq_true,reduceIte,reduceCtorEq,↓reduceIte,XF,XG,XH, range_nat hml]))
  refine wLoop_idx (fun i acc H' => H' = H ∧ ∃ l : List Int, acc = l.map .int ∧ l.length ≤ i ∧ l.Nodup ∧ (g : Int) ∉ l ∧ ∀ x ∈ l, 0 ≤ x ∧ x < i) ⟨rfl, [], rfl, by simp, by simp, by simp, by simp⟩ (fun i v acc H' hv hI => ⟨trivial, fun k' h1 h2 => ?_⟩) fun acc H' hI => ⟨trivial, ?_⟩
  · obtain ⟨hi, rfl⟩ := rng_get hv
    obtain ⟨rfl, l, rfl, hl, nd, hn, hlow⟩ := hI
    (repeat (first | with_reducible refine XK ?_ | with_reducible refine XL ?_ | dsimp only [ZA,ZB,ZC,ZD,ZE,ZF,ZG,ZH,ZI,ZJ,ZK,ZL,ZM,ZN,ZO,ZP,ZQ,ZR,ZS,ZT,ZU,ZV,ZW,ZX,ZY,ZZ,Za,Zb,Zc,Zd,Ze,Zf,Zg,Zh,Zi,Zj,Zk,Zl,Zm,Zn,Zo,Zp,Zq,Zr,Zs,Zt,Zu,Zv,Zw,Zx,Zy,Zz,YA,YB,YC,YD,YE,YF,YG,YH,YI,YJ,YK,YL,YM,YN,YO,YP,YQ,YR,Env.set,cond_true,cond_false,String.reduceBEq,YS,YT,YU,YV,YW,YX,YY,YZ,Ya,Yb,Yc,Yd,Ye,Yf] | simp only [Yg,Yh,true_and,Yi,Yj,Yk,Yl,Ym,Yn,Yo,Yp,Yq,Yr,Yt,Yu,Yv,Yw,Yx,Yy,Yz,XA,XB,XC,XD,XE,beq_self_eq_true,reduceIte,reduceCtorEq,↓reduceIte,XF,XG,XH]))
    refine ⟨fun q => ?_, fun q => ?_⟩
    · refine h1 _ _ ⟨rfl, l ++ [(i : Int)], by simp, by simp; omega, ?_, ?_, ?_⟩
      · rw [List.nodup_append]
        refine ⟨nd, by simp, fun a ha b hb => ?_⟩
        simp at hb; subst hb
        have := hlow a ha; omega
      · simp only [List.mem_append, List.mem_singleton, not_or]
        refine ⟨hn, fun e => ?_⟩
        simp at q; omega
      · intro x hx
        rcases List.mem_append.mp hx with hx | hx
        · have := hlow x hx; omega
        · simp at hx; omega
    · exact h2 _ ⟨rfl, l, rfl, by omega, nd, hn, fun x hx => by have := hlow x hx; omega⟩
  · obtain ⟨rfl, l, rfl, hl, nd, hn, hlow⟩ := hI
    rw [rng_len] at hl hlow
    (repeat (first | with_reducible refine XK ?_ | with_reducible refine XL ?_ | dsimp only [ZA,ZB,ZC,ZD,ZE,ZF,ZG,ZH,ZI,ZJ,ZK,ZL,ZM,ZN,ZO,ZP,ZQ,ZR,ZS,ZT,ZU,ZV,ZW,ZX,ZY,ZZ,Za,Zb,Zc,Zd,Ze,Zf,Zg,Zh,Zi,Zj,Zk,Zl,Zm,Zn,Zo,Zp,Zq,Zr,Zs,Zt,Zu,Zv,Zw,Zx,Zy,Zz,YA,YB,YC,YD,YE,YF,YG,YH,YI,YJ,YK,YL,YM,YN,YO,YP,YQ,YR,Env.set,cond_true,cond_false,String.reduceBEq,YS,YT,YU,YV,YW,YX,YY,YZ,Ya,Yb,Yc,Yd,Ye,Yf] | simp only [Yg,Yh,true_and,Yi,Yj,Yk,Yl,Ym,Yn,Yo,Yp,Yq,Yr,Yt,Yu,Yv,Yw,Yx,Yy,Yz,XA,XB,XC,XD,XE,beq_self_eq_true,reduceIte,reduceCtorEq,↓reduceIte,XF,XG,XH]))
    refine wWhile_ex (fun k ρ H1 => ∃ (l r : List Int) (c : Int), H1 = H' ++ [.list (l.map .int), .list (r.map .int)] ∧ k = l.length ∧ (l ++ r).length ≤ 6 ∧ (l ++ r).Nodup ∧ (g : Int) ∉ l ++ r ∧ (∀ x ∈ l ++ r, 0 ≤ x ∧ x < (m : Int)) ∧
      ρ "_law_left" = some (.ref H'.length) ∧ ρ "_law_row" = some (.ref (H'.length + 1)) ∧ ρ "_law_cell" = some (.int c) ∧ ρ "_law_full" = some (.bool full)) (m := l.length) ⟨l, [], c, by simp, rfl, by simp; omega, by simpa using nd, by simpa using hn, by simpa using hlow, by (repeat (first | with_reducible refine XK ?_ | with_reducible refine XL ?_ | dsimp only [ZA,ZB,ZC,ZD,ZE,ZF,ZG,ZH,ZI,ZJ,ZK,ZL,ZM,ZN,ZO,ZP,ZQ,ZR,ZS,ZT,ZU,ZV,ZW,ZX,ZY,ZZ,Za,Zb,Zc,Zd,Ze,Zf,Zg,Zh,Zi,Zj,Zk,Zl,Zm,Zn,Zo,Zp,Zq,Zr,Zs,Zt,Zu,Zv,Zw,Zx,Zy,Zz,YA,YB,YC,YD,YE,YF,YG,YH,YI,YJ,YK,YL,YM,YN,YO,YP,YQ,YR,Env.set,cond_true,cond_false,String.reduceBEq,YS,YT,YU,YV,YW,YX,YY,YZ,Ya,Yb,Yc,Yd,Ye,Yf] | simp only [Yg,Yh,true_and,Yi,Yj,Yk,Yl,Ym,Yn,Yo,Yp,Yq,Yr,Yt,Yu,Yv,Yw,Yx,Yy,Yz,XA,XB,XC,XD,XE,beq_self_eq_true,reduceIte,reduceCtorEq,↓reduceIte,XF,XG,XH])), by (repeat (first | with_reducible refine XK ?_ | with_reducible refine XL ?_ | dsimp only [ZA,ZB,ZC,ZD,ZE,ZF,ZG,ZH,ZI,ZJ,ZK,ZL,ZM,ZN,ZO,ZP,ZQ,ZR,ZS,ZT,ZU,ZV,ZW,ZX,ZY,ZZ,Za,Zb,Zc,Zd,Ze,Zf,Zg,Zh,Zi,Zj,Zk,Zl,Zm,Zn,Zo,Zp,Zq,Zr,Zs,Zt,Zu,Zv,Zw,Zx,Zy,Zz,YA,YB,YC,YD,YE,YF,YG,YH,YI,YJ,YK,YL,YM,YN,YO,YP,YQ,YR,Env.set,cond_true,cond_false,String.reduceBEq,YS,YT,YU,YV,YW,YX,YY,YZ,Ya,Yb,Yc,Yd,Ye,Yf] | simp only [Yg,Yh,true_and,Yi,Yj,Yk,Yl,Ym,Yn,Yo,Yp,Yq,Yr,Yt,Yu,Yv,Yw,Yx,Yy,Yz,XA,XB,XC,XD,XE,beq_self_eq_true,reduceIte,reduceCtorEq,↓reduceIte,XF,XG,XH])); simp, by (repeat (first | with_reducible refine XK ?_ | with_reducible refine XL ?_ | dsimp only [ZA,ZB,ZC,ZD,ZE,ZF,ZG,ZH,ZI,ZJ,ZK,ZL,ZM,ZN,ZO,ZP,ZQ,ZR,ZS,ZT,ZU,ZV,ZW,ZX,ZY,ZZ,Za,Zb,Zc,Zd,Ze,Zf,Zg,Zh,Zi,Zj,Zk,Zl,Zm,Zn,Zo,Zp,Zq,Zr,Zs,Zt,Zu,Zv,Zw,Zx,Zy,Zz,YA,YB,YC,YD,YE,YF,YG,YH,YI,YJ,YK,YL,YM,YN,YO,YP,YQ,YR,Env.set,cond_true,cond_false,String.reduceBEq,YS,YT,YU,YV,YW,YX,YY,YZ,Ya,Yb,Yc,Yd,Ye,Yf] | simp only [Yg,Yh,true_and,Yi,Yj,Yk,Yl,Ym,Yn,Yo,Yp,Yq,Yr,Yt,Yu,Yv,Yw,Yx,Yy,Yz,XA,XB,XC,XD,XE,beq_self_eq_true,reduceIte,reduceCtorEq,↓reduceIte,XF,XG,XH])), by (repeat (first | with_reducible refine XK ?_ | with_reducible refine XL ?_ | dsimp only [ZA,ZB,ZC,ZD,ZE,ZF,ZG,ZH,ZI,ZJ,ZK,ZL,ZM,ZN,ZO,ZP,ZQ,ZR,ZS,ZT,ZU,ZV,ZW,ZX,ZY,ZZ,Za,Zb,Zc,Zd,Ze,Zf,Zg,Zh,Zi,Zj,Zk,Zl,Zm,Zn,Zo,Zp,Zq,Zr,Zs,Zt,Zu,Zv,Zw,Zx,Zy,Zz,YA,YB,YC,YD,YE,YF,YG,YH,YI,YJ,YK,YL,YM,YN,YO,YP,YQ,YR,Env.set,cond_true,cond_false,String.reduceBEq,YS,YT,YU,YV,YW,YX,YY,YZ,Ya,Yb,Yc,Yd,Ye,Yf] | simp only [Yg,Yh,true_and,Yi,Yj,Yk,Yl,Ym,Yn,Yo,Yp,Yq,Yr,Yt,Yu,Yv,Yw,Yx,Yy,Yz,XA,XB,XC,XD,XE,beq_self_eq_true,reduceIte,reduceCtorEq,↓reduceIte,XF,XG,XH]))⟩ fun k ρ H1 hI k' h1 h2 => ?_
    obtain ⟨l, r, c, rfl, rfl, hlen, nd, hn, hlow, e1, e2, e3, e4⟩ := hI
    have hL : LI (H' ++ [.list (l.map .int), .list (r.map .int)]) H'.length l := get2a _ _ _
    have hR : LI (H' ++ [.list (l.map .int), .list (r.map .int)]) (H'.length + 1) r := get2b _ _ _
    (repeat (first | with_reducible refine XK ?_ | with_reducible refine XL ?_ | dsimp only [ZA,ZB,ZC,ZD,ZE,ZF,ZG,ZH,ZI,ZJ,ZK,ZL,ZM,ZN,ZO,ZP,ZQ,ZR,ZS,ZT,ZU,ZV,ZW,ZX,ZY,ZZ,Za,Zb,Zc,Zd,Ze,Zf,Zg,Zh,Zi,Zj,Zk,Zl,Zm,Zn,Zo,Zp,Zq,Zr,Zs,Zt,Zu,Zv,Zw,Zx,Zy,Zz,YA,YB,YC,YD,YE,YF,YG,YH,YI,YJ,YK,YL,YM,YN,YO,YP,YQ,YR,Env.set,cond_true,cond_false,String.reduceBEq,YS,YT,YU,YV,YW,YX,YY,YZ,Ya,Yb,Yc,Yd,Ye,Yf] | simp only [Yg,Yh,true_and,Yi,Yj,Yk,Yl,Ym,Yn,Yo,Yp,Yq,Yr,Yt,Yu,Yv,Yw,Yx,Yy,Yz,XA,XB,XC,XD,XE,beq_self_eq_true,reduceIte,reduceCtorEq,↓reduceIte,XF,XG,XH, e1, e2, e3, e4, hL.len]))
    refine ⟨fun q => ?_, fun q => ?_⟩
    · have hpos : 0 < l.length := by simp at q; exact q
      obtain ⟨i, hi, ei⟩ := fmod_nat c hpos
      have hz : ((l.length : Int) = 0) = False := by simp; intro e; simp [e] at hpos
      obtain ⟨x, hx⟩ : ∃ x, l[i]? = some x := ⟨_, List.getElem?_eq_getElem hi⟩
      have hp := pop_at (i := i) (v := .int x) hL (by rw [List.getElem?_map, hx]; rfl)
      rw [set2a, map_erase] at hp
      have hL' : LI (H' ++ [.list ((l.eraseIdx i).map .int), .list (r.map .int)]) H'.length (l.eraseIdx i) := get2a _ _ _
      have hR' : LI (H' ++ [.list ((l.eraseIdx i).map .int), .list (r.map .int)]) (H'.length + 1) r := get2b _ _ _
      have hlr : l.length + r.length ≤ 6 := by simpa using hlen
      have ha := append_at (v := .int x) hR' (by rw [List.length_map]; exact Nat.lt_of_le_of_lt (Nat.le_trans (Nat.le_add_left _ _) hlr) (by decide))
      rw [set2b] at ha
      have hL2 : LI (H' ++ [.list ((l.eraseIdx i).map .int), .list (r.map .int ++ [.int x])]) H'.length (l.eraseIdx i) := get2a _ _ _
      have hz2 : (((l.eraseIdx i).length : Int) + 1 = 0 ∨ 2 ^ 30 ≤ (((l.eraseIdx i).length : Int) + 1).natAbs) = False := by
        have : (l.eraseIdx i).length ≤ 6 := by rw [List.length_eraseIdx]; split <;> omega
        simp; omega
      (repeat (first | with_reducible refine XK ?_ | with_reducible refine XL ?_ | dsimp only [ZA,ZB,ZC,ZD,ZE,ZF,ZG,ZH,ZI,ZJ,ZK,ZL,ZM,ZN,ZO,ZP,ZQ,ZR,ZS,ZT,ZU,ZV,ZW,ZX,ZY,ZZ,Za,Zb,Zc,Zd,Ze,Zf,Zg,Zh,Zi,Zj,Zk,Zl,Zm,Zn,Zo,Zp,Zq,Zr,Zs,Zt,Zu,Zv,Zw,Zx,Zy,Zz,YA,YB,YC,YD,YE,YF,YG,YH,YI,YJ,YK,YL,YM,YN,YO,YP,YQ,YR,Env.set,cond_true,cond_false,String.reduceBEq,YS,YT,YU,YV,YW,YX,YY,YZ,Ya,Yb,Yc,Yd,Ye,Yf] | simp only [Yg,Yh,true_and,Yi,Yj,Yk,Yl,Ym,Yn,Yo,Yp,Yq,Yr,Yt,Yu,Yv,Yw,Yx,Yy,Yz,XA,XB,XC,XD,XE,beq_self_eq_true,reduceIte,reduceCtorEq,↓reduceIte,XF,XG,XH, (recvL hL).2.1, (recvL hR).1, hz, ei, hp, ha, hL2.len, hL.len, e1, e2, e3, hz2]))
      have pm : List.Perm (l.eraseIdx i ++ (r ++ [x])) (l ++ r) := by
        have h1 : List.Perm l (x :: l.eraseIdx i) := erase_perm hx
        refine List.Perm.symm (List.Perm.trans (h1.append_right r) ?_)
        rw [← List.append_assoc]
        refine List.Perm.trans ?_ (List.perm_append_singleton _ _).symm
        exact List.Perm.refl _
      refine h1 (l.eraseIdx i).length _ _ (by rw [List.length_eraseIdx, if_pos hi]; omega) ⟨l.eraseIdx i, r ++ [x], c.fdiv (((l.eraseIdx i).length : Int) + 1), by simp, rfl, by rw [pm.length_eq]; exact hlen, pm.nodup_iff.mpr nd, fun hm => hn (pm.mem_iff.mp hm), fun y hy => hlow y (pm.mem_iff.mp hy), ?_⟩
      (repeat (first | with_reducible refine XK ?_ | with_reducible refine XL ?_ | dsimp only [ZA,ZB,ZC,ZD,ZE,ZF,ZG,ZH,ZI,ZJ,ZK,ZL,ZM,ZN,ZO,ZP,ZQ,ZR,ZS,ZT,ZU,ZV,ZW,ZX,ZY,ZZ,Za,Zb,Zc,Zd,Ze,Zf,Zg,Zh,Zi,Zj,Zk,Zl,Zm,Zn,Zo,Zp,Zq,Zr,Zs,Zt,Zu,Zv,Zw,Zx,Zy,Zz,YA,YB,YC,YD,YE,YF,YG,YH,YI,YJ,YK,YL,YM,YN,YO,YP,YQ,YR,Env.set,cond_true,cond_false,String.reduceBEq,YS,YT,YU,YV,YW,YX,YY,YZ,Ya,Yb,Yc,Yd,Ye,Yf] | simp only [Yg,Yh,true_and,Yi,Yj,Yk,Yl,Ym,Yn,Yo,Yp,Yq,Yr,Yt,Yu,Yv,Yw,Yx,Yy,Yz,XA,XB,XC,XD,XE,beq_self_eq_true,reduceIte,reduceCtorEq,↓reduceIte,XF,XG,XH, e1, e2, e4]))
    · have hpos : l = [] := by simp at q; exact q
      subst hpos
      have rok : RowOk r g m := ⟨by simpa using hlow, by simpa using hn, by simpa using nd, by simpa using hlen⟩
      have hR' : LI (H' ++ [.list (([] : List Int).map .int), .list (r.map .int)]) (H'.length + 1) r := get2b _ _ _
      obtain ⟨i, hi, ei⟩ := fmod_nat c (m := r.length + 1) (by omega)
      have hz : ((r.length : Int) + 1 = 0) = False := by simp; omega
      have ei' : c.fmod ((r.length : Int) + 1) = (i : Int) := ei
      (repeat (first | with_reducible refine XK ?_ | with_reducible refine XL ?_ | dsimp only [ZA,ZB,ZC,ZD,ZE,ZF,ZG,ZH,ZI,ZJ,ZK,ZL,ZM,ZN,ZO,ZP,ZQ,ZR,ZS,ZT,ZU,ZV,ZW,ZX,ZY,ZZ,Za,Zb,Zc,Zd,Ze,Zf,Zg,Zh,Zi,Zj,Zk,Zl,Zm,Zn,Zo,Zp,Zq,Zr,Zs,Zt,Zu,Zv,Zw,Zx,Zy,Zz,YA,YB,YC,YD,YE,YF,YG,YH,YI,YJ,YK,YL,YM,YN,YO,YP,YQ,YR,Env.set,cond_true,cond_false,String.reduceBEq,YS,YT,YU,YV,YW,YX,YY,YZ,Ya,Yb,Yc,Yd,Ye,Yf] | simp only [Yg,Yh,true_and,Yi,Yj,Yk,Yl,Ym,Yn,Yo,Yp,Yq,Yr,Yt,Yu,Yv,Yw,Yx,Yy,Yz,XA,XB,XC,XD,XE,beq_self_eq_true,reduceIte,reduceCtorEq,↓reduceIte,XF,XG,XH, e2, e3, e4, hR'.len, hz, ei', hR'.sliceTo i]))
      refine ⟨fun _ => ?_, fun _ => ?_⟩
      · (repeat (first | with_reducible refine XK ?_ | with_reducible refine XL ?_ | dsimp only [ZA,ZB,ZC,ZD,ZE,ZF,ZG,ZH,ZI,ZJ,ZK,ZL,ZM,ZN,ZO,ZP,ZQ,ZR,ZS,ZT,ZU,ZV,ZW,ZX,ZY,ZZ,Za,Zb,Zc,Zd,Ze,Zf,Zg,Zh,Zi,Zj,Zk,Zl,Zm,Zn,Zo,Zp,Zq,Zr,Zs,Zt,Zu,Zv,Zw,Zx,Zy,Zz,YA,YB,YC,YD,YE,YF,YG,YH,YI,YJ,YK,YL,YM,YN,YO,YP,YQ,YR,Env.set,cond_true,cond_false,String.reduceBEq,YS,YT,YU,YV,YW,YX,YY,YZ,Ya,Yb,Yc,Yd,Ye,Yf] | simp only [Yg,Yh,true_and,Yi,Yj,Yk,Yl,Ym,Yn,Yo,Yp,Yq,Yr,Yt,Yu,Yv,Yw,Yx,Yy,Yz,XA,XB,XC,XD,XE,beq_self_eq_true,reduceIte,reduceCtorEq,↓reduceIte,XF,XG,XH, e2]))
        exact h _ _ r (List.prefix_append _ _) (Nat.le_succ _) hR' rok
      · (repeat (first | with_reducible refine XK ?_ | with_reducible refine XL ?_ | dsimp only [ZA,ZB,ZC,ZD,ZE,ZF,ZG,ZH,ZI,ZJ,ZK,ZL,ZM,ZN,ZO,ZP,ZQ,ZR,ZS,ZT,ZU,ZV,ZW,ZX,ZY,ZZ,Za,Zb,Zc,Zd,Ze,Zf,Zg,Zh,Zi,Zj,Zk,Zl,Zm,Zn,Zo,Zp,Zq,Zr,Zs,Zt,Zu,Zv,Zw,Zx,Zy,Zz,YA,YB,YC,YD,YE,YF,YG,YH,YI,YJ,YK,YL,YM,YN,YO,YP,YQ,YR,Env.set,cond_true,cond_false,String.reduceBEq,YS,YT,YU,YV,YW,YX,YY,YZ,Ya,Yb,Yc,Yd,Ye,Yf] | simp only [Yg,Yh,true_and,Yi,Yj,Yk,Yl,Ym,Yn,Yo,Yp,Yq,Yr,Yt,Yu,Yv,Yw,Yx,Yy,Yz,XA,XB,XC,XD,XE,beq_self_eq_true,reduceIte,reduceCtorEq,↓reduceIte,XF,XG,XH, e2, e3, hR'.len, hz, ei', hR'.sliceTo i]))
        exact h _ _ (r.take i) ((List.prefix_append _ _).trans (pre_new _ _)) (by simp) (LI.new _ _) (rowOk_take rok i)

noncomputable def hitP (W : List (List Int)) (g : Nat) (other : Option Nat) (t : Int) : Bool := match other with
  | some c => t == (c : Int) && both W g c
  | none => false
noncomputable def scanP (W : List (List Int)) (g a : Nat) (other : Option Nat) : List Int → Bool
  | [] => false
  | t :: r => if hitP W g other t then false else if t == (a : Int) then true else scanP W g a other r

theorem scanP_cons {W : List (List Int)} {g a : Nat} {other : Option Nat} {t : Int} {r : List Int} : scanP W g a other (t :: r) = if hitP W g other t then false else if t == (a : Int) then true else scanP W g a other r := rfl

theorem scan_sooner {W : List (List Int)} {g a : Nat} (ha : both W g a = true) (other : Option Nat) : scanP W g a other (row W g) = soonerP W g (some a) other := by
  have hm : (a : Int) ∈ row W g := by unfold both at ha; simp at ha; exact ha.1
  have plain : ∀ l : List Int, (a : Int) ∈ l → (∀ t, hitP W g other t = false) → scanP W g a other l = true := by
    intro l hl hno
    induction l with
    | nil => cases hl
    | cons t r ih =>
      unfold scanP
      rw [hno t]
      by_cases e : t = (a : Int)
      · simp [e]
      · have : (a : Int) ∈ r := by
          rcases List.mem_cons.mp hl with q | q
          · exact absurd q.symm e
          · exact q
        simp [e, ih this]
  cases other with
  | none => simp only [soonerP, ha]; exact plain _ hm fun _ => rfl
  | some c =>
    by_cases hac : a = c
    · subst hac
      simp only [soonerP, bne_self_eq_false, Bool.false_and]
      generalize row W g = l
      induction l with
      | nil => rfl
      | cons t r ih =>
        unfold scanP
        by_cases e : t = (a : Int)
        · simp [e, ha, hitP]
        · simp [e, ih, hitP]
    · have e0 : (a != c) = true := by simp [hac]
      cases hc : both W g c with
      | false => simp only [soonerP, e0, ha, hc]; exact plain _ hm fun t => by simp [hc, hitP]
      | true =>
        simp only [soonerP, e0, ha, hc, Bool.true_and, Bool.not_true, Bool.false_or]
        generalize row W g = l
        induction l with
        | nil => simp [scanP]
        | cons t r ih =>
          unfold scanP
          rw [List.idxOf_cons, List.idxOf_cons]
          have hac' : (a : Int) ≠ (c : Int) := by omega
          by_cases e1 : t = (c : Int)
          · have : (t == (a : Int)) = false := by simp [e1]; omega
            simp [e1, hc, hitP]
          · have e1' : (t == (c : Int)) = false := by simpa using e1
            by_cases e2 : t = (a : Int)
            · have e2' : (t == (a : Int)) = true := by simpa using e2
              simp only [hitP, e1', e2']; simp
            · have e2' : (t == (a : Int)) = false := by simpa using e2
              simp only [hitP, e1', e2', ih]; simp

theorem s_law_rather (hP : P.fn "_law_rather" = some f__law_rather) (hP1 : P.fn "_law_suits" = some f__law_suits) {w : Nat} {W : List (List Int)} (hw : WH H w W) {g : Nat} (hg : g < W.length) {one other : Option Nat} (h1 : ∀ i, one = some i → i < W.length) (h2 : ∀ i, other = some i → i < W.length)
    (h : Q (.bool (soonerP W g one other)) H) : callN P b (n + 2) "_law_rather" [.ref w, .int (g : Int), ov one, ov other] H Q X := by
  (refine callN_in hP rfl ?_; unfold f__law_rather)
  cases one with
  | none => (repeat (first | with_reducible refine XK ?_ | with_reducible refine XL ?_ | dsimp only [ZA,ZB,ZC,ZD,ZE,ZF,ZG,ZH,ZI,ZJ,ZK,ZL,ZM,ZN,ZO,ZP,ZQ,ZR,ZS,ZT,ZU,ZV,ZW,ZX,ZY,ZZ,Za,Zb,Zc,Zd,Ze,Zf,Zg,Zh,Zi,Zj,Zk,Zl,Zm,Zn,Zo,Zp,Zq,Zr,Zs,Zt,Zu,Zv,Zw,Zx,Zy,Zz,YA,YB,YC,YD,YE,YF,YG,YH,YI,YJ,YK,YL,YM,YN,YO,YP,YQ,YR,Env.set,cond_true,cond_false,String.reduceBEq,YS,YT,YU,YV,YW,YX,YY,YZ,Ya,Yb,Yc,Yd,Ye,Yf] | simp only [Yg,Yh,true_and,Yi,Yj,Yk,Yl,Ym,Yn,Yo,Yp,Yq,Yr,Yt,Yu,Yv,Yw,Yx,Yy,Yz,XA,XB,XC,XD,XE,beq_self_eq_true,reduceIte,reduceCtorEq,↓reduceIte,XF,XG,XH, ov])); exact h
  | some a =>
    have ha := h1 a rfl
    obtain ⟨r, hr, hl⟩ := hw.item (row_get hg)
    (repeat (first | with_reducible refine XK ?_ | with_reducible refine XL ?_ | dsimp only [ZA,ZB,ZC,ZD,ZE,ZF,ZG,ZH,ZI,ZJ,ZK,ZL,ZM,ZN,ZO,ZP,ZQ,ZR,ZS,ZT,ZU,ZV,ZW,ZX,ZY,ZZ,Za,Zb,Zc,Zd,Ze,Zf,Zg,Zh,Zi,Zj,Zk,Zl,Zm,Zn,Zo,Zp,Zq,Zr,Zs,Zt,Zu,Zv,Zw,Zx,Zy,Zz,YA,YB,YC,YD,YE,YF,YG,YH,YI,YJ,YK,YL,YM,YN,YO,YP,YQ,YR,Env.set,cond_true,cond_false,String.reduceBEq,YS,YT,YU,YV,YW,YX,YY,YZ,Ya,Yb,Yc,Yd,Ye,Yf] | simp only [Yg,Yh,true_and,Yi,Yj,Yk,Yl,Ym,Yn,Yo,Yp,Yq,Yr,Yt,Yu,Yv,Yw,Yx,Yy,Yz,XA,XB,XC,XD,XE,beq_self_eq_true,reduceIte,reduceCtorEq,↓reduceIte,XF,XG,XH, ov]))
    refine s_law_suits hP1 hw hg ha ?_
    cases ea : both W g a with
    | false =>
      have : soonerP W g (some a) other = false := by cases other <;> simp [soonerP, ea]
      rw [this] at h
      (repeat (first | with_reducible refine XK ?_ | with_reducible refine XL ?_ | dsimp only [ZA,ZB,ZC,ZD,ZE,ZF,ZG,ZH,ZI,ZJ,ZK,ZL,ZM,ZN,ZO,ZP,ZQ,ZR,ZS,ZT,ZU,ZV,ZW,ZX,ZY,ZZ,Za,Zb,Zc,Zd,Ze,Zf,Zg,Zh,Zi,Zj,Zk,Zl,Zm,Zn,Zo,Zp,Zq,Zr,Zs,Zt,Zu,Zv,Zw,Zx,Zy,Zz,YA,YB,YC,YD,YE,YF,YG,YH,YI,YJ,YK,YL,YM,YN,YO,YP,YQ,YR,Env.set,cond_true,cond_false,String.reduceBEq,YS,YT,YU,YV,YW,YX,YY,YZ,Ya,Yb,Yc,Yd,Ye,Yf] | simp only [Yg,Yh,true_and,Yi,Yj,Yk,Yl,Ym,Yn,Yo,Yp,Yq,Yr,Yt,Yu,Yv,Yw,Yx,Yy,Yz,XA,XB,XC,XD,XE,beq_self_eq_true,reduceIte,reduceCtorEq,↓reduceIte,XF,XG,XH])); exact h
    | true =>
      rw [← scan_sooner ea other] at h
      (repeat (first | with_reducible refine XK ?_ | with_reducible refine XL ?_ | dsimp only [ZA,ZB,ZC,ZD,ZE,ZF,ZG,ZH,ZI,ZJ,ZK,ZL,ZM,ZN,ZO,ZP,ZQ,ZR,ZS,ZT,ZU,ZV,ZW,ZX,ZY,ZZ,Za,Zb,Zc,Zd,Ze,Zf,Zg,Zh,Zi,Zj,Zk,Zl,Zm,Zn,Zo,Zp,Zq,Zr,Zs,Zt,Zu,Zv,Zw,Zx,Zy,Zz,YA,YB,YC,YD,YE,YF,YG,YH,YI,YJ,YK,YL,YM,YN,YO,YP,YQ,YR,Env.set,cond_true,cond_false,String.reduceBEq,YS,YT,YU,YV,YW,YX,YY,YZ,Ya,Yb,Yc,Yd,Ye,Yf] | simp only [Yg,Yh,true_and,Yi,Yj,Yk,Yl,Ym,Yn,Yo,Yp,Yq,Yr,Yt,Yu,Yv,Yw,Yx,Yy,Yz,XA,XB,XC,XD,XE,beq_self_eq_true,reduceIte,reduceCtorEq,↓reduceIte,XF,XG,XH, hr, hl.seq]))
      refine wFor_idx (fun i ρ H' => H' = H ∧ scanP W g a other ((row W g).drop i) = scanP W g a other (row W g) ∧ ρ "_law_wishes" = some (.ref w) ∧ ρ "_law_guest" = some (.int (g : Int)) ∧ ρ "_law_one" = some (.int (a : Int)) ∧ ρ "_law_other" = some (ov other)) ⟨rfl, by simp, rfl, rfl, rfl, rfl⟩ (fun i v ρ H' hv hI => ⟨by rw [hI.1], fun k' k1 k2 => ?_⟩) fun ρ H' hI => ⟨by rw [hI.1], ?_⟩
      · obtain ⟨rfl, hsc, e1, e2, e3, e4⟩ := hI
        rw [List.getElem?_map] at hv
        obtain ⟨t, ht, rfl⟩ := Option.map_eq_some_iff.mp hv
        obtain ⟨hti, het⟩ := List.getElem?_eq_some_iff.mp ht
        rw [List.drop_eq_getElem_cons hti, het] at hsc
        rw [scanP_cons] at hsc
        have rest : ∀ (hno : hitP W g other t = false), wIf (t == (a : Int)) (k' (some (.bool true)) (ρ.set "_law_thing" (.int t)) H') (k' none (ρ.set "_law_thing" (.int t)) H') := by
          intro hno
          rw [hno] at hsc
          simp only [Bool.false_eq_true, if_false] at hsc
          refine ⟨fun q => k2 _ _ _ ?_, fun q => k1 _ _ ⟨rfl, ?_, ?_⟩⟩
          · rw [q] at hsc; simp only [if_true] at hsc; rw [← hsc] at h; exact h
          · rw [q] at hsc; simpa using hsc
          · (repeat (first | with_reducible refine XK ?_ | with_reducible refine XL ?_ | dsimp only [ZA,ZB,ZC,ZD,ZE,ZF,ZG,ZH,ZI,ZJ,ZK,ZL,ZM,ZN,ZO,ZP,ZQ,ZR,ZS,ZT,ZU,ZV,ZW,ZX,ZY,ZZ,Za,Zb,Zc,Zd,Ze,Zf,Zg,Zh,Zi,Zj,Zk,Zl,Zm,Zn,Zo,Zp,Zq,Zr,Zs,Zt,Zu,Zv,Zw,Zx,Zy,Zz,YA,YB,YC,YD,YE,YF,YG,YH,YI,YJ,YK,YL,YM,YN,YO,YP,YQ,YR,Env.set,cond_true,cond_false,String.reduceBEq,YS,YT,YU,YV,YW,YX,YY,YZ,Ya,Yb,Yc,Yd,Ye,Yf] | simp only [Yg,Yh,true_and,Yi,Yj,Yk,Yl,Ym,Yn,Yo,Yp,Yq,Yr,Yt,Yu,Yv,Yw,Yx,Yy,Yz,XA,XB,XC,XD,XE,beq_self_eq_true,reduceIte,reduceCtorEq,↓reduceIte,XF,XG,XH, e1, e2, e3, e4]))
        cases other with
        | none => (repeat (first | with_reducible refine XK ?_ | with_reducible refine XL ?_ | dsimp only [ZA,ZB,ZC,ZD,ZE,ZF,ZG,ZH,ZI,ZJ,ZK,ZL,ZM,ZN,ZO,ZP,ZQ,ZR,ZS,ZT,ZU,ZV,ZW,ZX,ZY,ZZ,Za,Zb,Zc,Zd,Ze,Zf,Zg,Zh,Zi,Zj,Zk,Zl,Zm,Zn,Zo,Zp,Zq,Zr,Zs,Zt,Zu,Zv,Zw,Zx,Zy,Zz,YA,YB,YC,YD,YE,YF,YG,YH,YI,YJ,YK,YL,YM,YN,YO,YP,YQ,YR,Env.set,cond_true,cond_false,String.reduceBEq,YS,YT,YU,YV,YW,YX,YY,YZ,Ya,Yb,Yc,Yd,Ye,Yf] | simp only [Yg,Yh,true_and,Yi,Yj,Yk,Yl,Ym,Yn,Yo,Yp,Yq,Yr,Yt,Yu,Yv,Yw,Yx,Yy,Yz,XA,XB,XC,XD,XE,beq_self_eq_true,reduceIte,reduceCtorEq,↓reduceIte,XF,XG,XH, e1, e2, e3, e4, ov])); exact rest rfl
        | some c =>
          (repeat (first | with_reducible refine XK ?_ | with_reducible refine XL ?_ | dsimp only [ZA,ZB,ZC,ZD,ZE,ZF,ZG,ZH,ZI,ZJ,ZK,ZL,ZM,ZN,ZO,ZP,ZQ,ZR,ZS,ZT,ZU,ZV,ZW,ZX,ZY,ZZ,Za,Zb,Zc,Zd,Ze,Zf,Zg,Zh,Zi,Zj,Zk,Zl,Zm,Zn,Zo,Zp,Zq,Zr,Zs,Zt,Zu,Zv,Zw,Zx,Zy,Zz,YA,YB,YC,YD,YE,YF,YG,YH,YI,YJ,YK,YL,YM,YN,YO,YP,YQ,YR,Env.set,cond_true,cond_false,String.reduceBEq,YS,YT,YU,YV,YW,YX,YY,YZ,Ya,Yb,Yc,Yd,Ye,Yf] | simp only [Yg,Yh,true_and,Yi,Yj,Yk,Yl,Ym,Yn,Yo,Yp,Yq,Yr,Yt,Yu,Yv,Yw,Yx,Yy,Yz,XA,XB,XC,XD,XE,beq_self_eq_true,reduceIte,reduceCtorEq,↓reduceIte,XF,XG,XH, e1, e2, e3, e4, ov]))
          refine ⟨fun q => ?_, fun q => ?_⟩
          · refine s_law_suits hP1 hw hg (h2 c rfl) ?_
            cases ec : both W g c with
            | true =>
              (repeat (first | with_reducible refine XK ?_ | with_reducible refine XL ?_ | dsimp only [ZA,ZB,ZC,ZD,ZE,ZF,ZG,ZH,ZI,ZJ,ZK,ZL,ZM,ZN,ZO,ZP,ZQ,ZR,ZS,ZT,ZU,ZV,ZW,ZX,ZY,ZZ,Za,Zb,Zc,Zd,Ze,Zf,Zg,Zh,Zi,Zj,Zk,Zl,Zm,Zn,Zo,Zp,Zq,Zr,Zs,Zt,Zu,Zv,Zw,Zx,Zy,Zz,YA,YB,YC,YD,YE,YF,YG,YH,YI,YJ,YK,YL,YM,YN,YO,YP,YQ,YR,Env.set,cond_true,cond_false,String.reduceBEq,YS,YT,YU,YV,YW,YX,YY,YZ,Ya,Yb,Yc,Yd,Ye,Yf] | simp only [Yg,Yh,true_and,Yi,Yj,Yk,Yl,Ym,Yn,Yo,Yp,Yq,Yr,Yt,Yu,Yv,Yw,Yx,Yy,Yz,XA,XB,XC,XD,XE,beq_self_eq_true,reduceIte,reduceCtorEq,↓reduceIte,XF,XG,XH]))
              refine k2 _ _ _ ?_
              have : scanP W g a (some c) (row W g) = false := by rw [← hsc]; simp [q, ec, hitP]
              rw [this] at h; exact h
            | false => (repeat (first | with_reducible refine XK ?_ | with_reducible refine XL ?_ | dsimp only [ZA,ZB,ZC,ZD,ZE,ZF,ZG,ZH,ZI,ZJ,ZK,ZL,ZM,ZN,ZO,ZP,ZQ,ZR,ZS,ZT,ZU,ZV,ZW,ZX,ZY,ZZ,Za,Zb,Zc,Zd,Ze,Zf,Zg,Zh,Zi,Zj,Zk,Zl,Zm,Zn,Zo,Zp,Zq,Zr,Zs,Zt,Zu,Zv,Zw,Zx,Zy,Zz,YA,YB,YC,YD,YE,YF,YG,YH,YI,YJ,YK,YL,YM,YN,YO,YP,YQ,YR,Env.set,cond_true,cond_false,String.reduceBEq,YS,YT,YU,YV,YW,YX,YY,YZ,Ya,Yb,Yc,Yd,Ye,Yf] | simp only [Yg,Yh,true_and,Yi,Yj,Yk,Yl,Ym,Yn,Yo,Yp,Yq,Yr,Yt,Yu,Yv,Yw,Yx,Yy,Yz,XA,XB,XC,XD,XE,beq_self_eq_true,reduceIte,reduceCtorEq,↓reduceIte,XF,XG,XH, e1, e2, e3, e4])); exact rest (by simp [ec, hitP])
          · (repeat (first | with_reducible refine XK ?_ | with_reducible refine XL ?_ | dsimp only [ZA,ZB,ZC,ZD,ZE,ZF,ZG,ZH,ZI,ZJ,ZK,ZL,ZM,ZN,ZO,ZP,ZQ,ZR,ZS,ZT,ZU,ZV,ZW,ZX,ZY,ZZ,Za,Zb,Zc,Zd,Ze,Zf,Zg,Zh,Zi,Zj,Zk,Zl,Zm,Zn,Zo,Zp,Zq,Zr,Zs,Zt,Zu,Zv,Zw,Zx,Zy,Zz,YA,YB,YC,YD,YE,YF,YG,YH,YI,YJ,YK,YL,YM,YN,YO,YP,YQ,YR,Env.set,cond_true,cond_false,String.reduceBEq,YS,YT,YU,YV,YW,YX,YY,YZ,Ya,Yb,Yc,Yd,Ye,Yf] | simp only [Yg,Yh,true_and,Yi,Yj,Yk,Yl,Ym,Yn,Yo,Yp,Yq,Yr,Yt,Yu,Yv,Yw,Yx,Yy,Yz,XA,XB,XC,XD,XE,beq_self_eq_true,reduceIte,reduceCtorEq,↓reduceIte,XF,XG,XH, e1, e2, e3, e4])); exact rest (by simp [q, hitP])
      · obtain ⟨rfl, hsc, _⟩ := hI
        (repeat (first | with_reducible refine XK ?_ | with_reducible refine XL ?_ | dsimp only [ZA,ZB,ZC,ZD,ZE,ZF,ZG,ZH,ZI,ZJ,ZK,ZL,ZM,ZN,ZO,ZP,ZQ,ZR,ZS,ZT,ZU,ZV,ZW,ZX,ZY,ZZ,Za,Zb,Zc,Zd,Ze,Zf,Zg,Zh,Zi,Zj,Zk,Zl,Zm,Zn,Zo,Zp,Zq,Zr,Zs,Zt,Zu,Zv,Zw,Zx,Zy,Zz,YA,YB,YC,YD,YE,YF,YG,YH,YI,YJ,YK,YL,YM,YN,YO,YP,YQ,YR,Env.set,cond_true,cond_false,String.reduceBEq,YS,YT,YU,YV,YW,YX,YY,YZ,Ya,Yb,Yc,Yd,Ye,Yf] | simp only [Yg,Yh,true_and,Yi,Yj,Yk,Yl,Ym,Yn,Yo,Yp,Yq,Yr,Yt,Yu,Yv,Yw,Yx,Yy,Yz,XA,XB,XC,XD,XE,beq_self_eq_true,reduceIte,reduceCtorEq,↓reduceIte,XF,XG,XH]))
        rw [List.length_map, List.drop_length] at hsc
        rw [← hsc] at h; exact h
end
end Mine

namespace Mine
open PySem

noncomputable def copyE (x y : String) : E := .compS (.op .list [.var y]) (.one y) (.var x) []

theorem w_copy2 {C : Ctx} {x y : String} {ρ : Env} {H : Hp} {Q : Post} {X : XP} {w : Nat} {W : List (List Int)} (hρ : ρ x = some (.ref w)) (hw : WH H w W) (h : ∀ H' r, H <+: H' → H.length ≤ r → WH H' r W → Q (.ref r) H') : wE C (copyE x y) ρ H Q X := by
  obtain ⟨rs, h1, h2⟩ := hw
  unfold copyE
  (repeat (first | dsimp only [XI, XJ] | dsimp only [ZA,ZB,ZC,ZD,ZE,ZF,ZG,ZH,ZI,ZJ,ZK,ZL,ZM,ZN,ZO,ZP,ZQ,ZR,ZS,ZT,ZU,ZV,ZW,ZX,ZY,ZZ,Za,Zb,Zc,Zd,Ze,Zf,Zg,Zh,Zi,Zj,Zk,Zl,Zm,Zn,Zo,Zp,Zq,Zr,Zs,Zt,Zu,Zv,Zw,Zx,Zy,Zz,YA,YB,YC,YD,YE,YF,YG,YH,YI,YJ,YK,YL,YM,YN,YO,YP,YQ,YR,Env.set,cond_true,cond_false,String.reduceBEq,YS,YT,YU,YV,YW,YX,YY,YZ,Ya,Yb,Yc,Yd,Ye,Yf] | simp only [Yg,Yh,true_and,Yi,Yj,Yk,Yl,Ym,Yn,Yo,Yp,Yq,Yr,Yt,Yu,Yv,Yw,Yx,Yy,Yz,XA,XB,XC,XD,XE,beq_self_eq_true,reduceIte,reduceCtorEq,↓reduceIte,XF,XG,XH, hρ, seqOf_list h1]))
  have hkeep : ∀ H' : Hp, H <+: H' → H'[w]? = H[w]? := fun H' hp => by rw [h1]; exact pre_get hp h1
  refine wLoop_idx (fun i acc H' => H <+: H' ∧ All2 (fun r is => ∃ b, r = V.ref b ∧ LI H' b is) acc (W.take i)) ⟨List.prefix_refl _, by rw [List.take_zero]; exact .nil⟩ (fun i v acc H' hv hI => ⟨hkeep _ hI.1, fun k' k1 k2 => ?_⟩) fun acc H' hI => ⟨hkeep _ hI.1, ?_⟩
  · obtain ⟨hp, hA⟩ := hI
    obtain ⟨l, hl, b, rfl, hb⟩ := h2.get hv
    (repeat (first | dsimp only [XI, XJ] | dsimp only [ZA,ZB,ZC,ZD,ZE,ZF,ZG,ZH,ZI,ZJ,ZK,ZL,ZM,ZN,ZO,ZP,ZQ,ZR,ZS,ZT,ZU,ZV,ZW,ZX,ZY,ZZ,Za,Zb,Zc,Zd,Ze,Zf,Zg,Zh,Zi,Zj,Zk,Zl,Zm,Zn,Zo,Zp,Zq,Zr,Zs,Zt,Zu,Zv,Zw,Zx,Zy,Zz,YA,YB,YC,YD,YE,YF,YG,YH,YI,YJ,YK,YL,YM,YN,YO,YP,YQ,YR,Env.set,cond_true,cond_false,String.reduceBEq,YS,YT,YU,YV,YW,YX,YY,YZ,Ya,Yb,Yc,Yd,Ye,Yf] | simp only [Yg,Yh,true_and,Yi,Yj,Yk,Yl,Ym,Yn,Yo,Yp,Yq,Yr,Yt,Yu,Yv,Yw,Yx,Yy,Yz,XA,XB,XC,XD,XE,beq_self_eq_true,reduceIte,reduceCtorEq,↓reduceIte,XF,XG,XH, (hb.pre hp).seq]))
    refine k1 _ _ ⟨hp.trans (pre_new _ _), ?_⟩
    have : W.take (i + 1) = W.take i ++ [l] := by
      obtain ⟨hi, e⟩ := List.getElem?_eq_some_iff.mp hl
      rw [List.take_succ_eq_append_getElem hi, e]
    rw [this]
    exact (hA.mono fun _ _ ⟨b, e, q⟩ => ⟨b, e, q.pre (pre_new _ _)⟩).append (.cons ⟨_, rfl, LI.new _ _⟩ .nil)
  · obtain ⟨hp, hA⟩ := hI
    have : W.take rs.length = W := by rw [h2.length]; exact List.take_length
    rw [this] at hA
    exact h _ _ (hp.trans (pre_new _ _)) hp.length_le ⟨acc, get_new _ _, hA.mono fun _ _ ⟨b, e, q⟩ => ⟨b, e, q.pre (pre_new _ _)⟩⟩

theorem w_copy {C : Ctx} {x y : String} {ρ : Env} {H : Hp} {Q : Post} {X : XP} {w : Nat} {W : List (List Int)} (hρ : ρ x = some (.ref w)) (hw : WH H w W) (h : ∀ H' r, H <+: H' → WH H' r W → Q (.ref r) H') : wE C (copyE x y) ρ H Q X :=
  w_copy2 hρ hw fun H' r hp _ q => h H' r hp q

theorem WH.read {H : Hp} {w : Nat} {W : List (List Int)} (h : WH H w W) : readD 8 H (.ref w) = some (.list (W.map fun l => .list (l.map .int))) := by
  obtain ⟨rs, h1, h2⟩ := h
  have : rs.mapM (readD 7 H) = some (W.map fun l => PyData.list (l.map .int)) := by
    clear h1
    induction h2 with
    | nil => rfl
    | cons hr _ ih =>
      obtain ⟨b, rfl, hb⟩ := hr
      unfold LI at hb
      rw [List.mapM_cons, ih]
      simp only [rd_n, rd_b, rd_i, rd_s, rd_r, hb, mapM_read]; rfl
  simp [rd_n, rd_b, rd_i, rd_s, rd_r, h1, this]

section
variable {P : Prog} {b : Bool} {n : Nat} {H : Hp} {Q : Post} {X : XP}

end


end Mine

namespace Mine
open PySem

/-- mates -/
noncomputable def MT (H : Hp) (a : Nat) (M : List (Option Nat)) : Prop := H[a]? = some (.list (M.map ov))
theorem MT.pre {H H' : Hp} {a : Nat} {M : List (Option Nat)} (h : MT H a M) (hp : H <+: H') : MT H' a M := pre_get hp h
theorem MT.item {H : Hp} {a : Nat} {M : List (Option Nat)} (h : MT H a M) {i : Nat} (hi : i < M.length) : itemV (.ref a) (.int (i : Int)) H = some (ov (M.getD i none)) :=
  item_seq (seqOf_list h) (by rw [List.getElem?_map, List.getElem?_eq_getElem hi, List.getD_eq_getElem?_getD, List.getElem?_eq_getElem hi]; rfl)
theorem MT.len {H : Hp} {w : Nat} {M : List (Option Nat)} (h : MT H w M) : lenV (.ref w) H = some (M.length : Int) := by
  unfold lenV; simp [seqOf_list h]
theorem MT.isList {H : Hp} {w : Nat} {M : List (Option Nat)} (h : MT H w M) : isInst (.ref w) ["list"] H = true := by
  unfold MT at h; simp [isInst, typesOf, h]

structure MOk (W : List (List Int)) (M : List (Option Nat)) : Prop where
  len : M.length = W.length
  two : ∀ i j, M.getD i none = some j → j < W.length ∧ M.getD j none = some i ∧ both W i j = true

noncomputable def PRv (H : Hp) (v : V) (p : Nat × Nat) : Prop := ∃ b, v = .ref b ∧ H[b]? = some (.tuple [.int (p.1 : Int), .int (p.2 : Int)])
/-- a list of pairs -/
noncomputable def PR (H : Hp) (r : Nat) (ps : List (Nat × Nat)) : Prop := ∃ rs, H[r]? = some (.list rs) ∧ All2 (PRv H) rs ps
theorem PRv.pre {H H' : Hp} {v : V} {p : Nat × Nat} (h : PRv H v p) (hp : H <+: H') : PRv H' v p := let ⟨b, e, q⟩ := h; ⟨b, e, pre_get hp q⟩
theorem PR.pre {H H' : Hp} {a : Nat} {ps : List (Nat × Nat)} (h : PR H a ps) (hp : H <+: H') : PR H' a ps :=
  let ⟨rs, h1, h2⟩ := h; ⟨rs, pre_get hp h1, h2.mono fun _ _ q => q.pre hp⟩
theorem PR.len {H : Hp} {w : Nat} {ps : List (Nat × Nat)} (h : PR H w ps) : lenV (.ref w) H = some (ps.length : Int) := by
  obtain ⟨rs, h1, h2⟩ := h
  unfold lenV; simp [seqOf_list h1, h2.length]
theorem pre_set {H H' : Hp} (hp : H <+: H') {r : Nat} (hr : H.length ≤ r) (o : O) : H <+: H'.set r o := by
  obtain ⟨t, rfl⟩ := hp
  rw [List.set_append_right _ _ hr]; exact List.prefix_append _ _
theorem get_set_ne {H : Hp} {r b : Nat} (h : b ≠ r) (o : O) : (H.set r o)[b]? = H[b]? := List.getElem?_set_ne (Ne.symm h)
theorem get_set_eq {H : Hp} {r : Nat} {o' : O} (h : H[r]? = some o') (o : O) : (H.set r o)[r]? = some o := by
  rw [List.getElem?_set_self (List.getElem?_eq_some_iff.mp h).1]

/-- a pair put behind -/
theorem PR.push {H : Hp} {r : Nat} {ps : List (Nat × Nat)} (h : PR H r ps) (hl : ps.length < lim) {i j : Nat} : ∃ H', methV .append [.ref r, .ref H.length] (H ++ [.tuple [.int (i : Int), .int (j : Int)]]) = some (.none, H') ∧ PR H' r (ps ++ [(i, j)]) ∧
    ∀ H₀, H₀ <+: H → H₀.length ≤ r → H₀ <+: H' := by
  obtain ⟨rs, h1, h2⟩ := h
  have h1' := pre_get (pre_new H (.tuple [.int (i : Int), .int (j : Int)])) h1
  refine ⟨_, append_at h1' (by rw [h2.length]; exact hl), ⟨_, get_set_eq h1' _, ?_⟩, fun H₀ hp hr => pre_set (hp.trans (pre_new _ _)) hr _⟩
  have keep : ∀ v p, PRv H v p → PRv ((H ++ [O.tuple [.int (i : Int), .int (j : Int)]]).set r (O.list (rs ++ [V.ref H.length]))) v p := fun v p ⟨b, e, q⟩ => ⟨b, e, by
    rw [get_set_ne (by rintro rfl; rw [h1] at q; cases q)]; exact pre_get (pre_new _ _) q⟩
  refine (h2.mono keep).append (.cons ⟨H.length, rfl, ?_⟩ .nil)
  have hlt := (List.getElem?_eq_some_iff.mp h1).1
  rw [get_set_ne (by omega)]; exact get_new _ _

noncomputable def restAt (W : List (List Int)) (M : List (Option Nat)) (i j : Nat) : Bool := soonerP W i (some j) (M.getD i none) && soonerP W j (some i) (M.getD j none)
noncomputable def rowP (W : List (List Int)) (M : List (Option Nat)) (i d : Nat) : List (Nat × Nat) := ((List.range d).filter fun k => restAt W M i (i + 1 + k)).map fun k => (i, i + 1 + k)
noncomputable def restTo (W : List (List Int)) (M : List (Option Nat)) (i : Nat) : List (Nat × Nat) := (List.range i).flatMap fun i => rowP W M i (W.length - (i + 1))
/-- the pairs that are restless -/
noncomputable def restP (W : List (List Int)) (M : List (Option Nat)) : List (Nat × Nat) := restTo W M W.length

theorem rowP_succ (W : List (List Int)) (M : List (Option Nat)) (i d : Nat) : rowP W M i (d + 1) = rowP W M i d ++ (if restAt W M i (i + 1 + d) then [(i, i + 1 + d)] else []) := by
  unfold rowP
  rw [List.range_succ, List.filter_append, List.map_append]
  congr 1
  by_cases h : restAt W M i (i + 1 + d) <;> simp [h]
theorem restTo_succ (W : List (List Int)) (M : List (Option Nat)) (i : Nat) : restTo W M (i + 1) = restTo W M i ++ rowP W M i (W.length - (i + 1)) := by
  unfold restTo
  rw [List.range_succ, List.flatMap_append]; simp
theorem rowP_len (W : List (List Int)) (M : List (Option Nat)) (i d : Nat) : (rowP W M i d).length ≤ d := by
  unfold rowP
  rw [List.length_map]; exact Nat.le_trans (List.length_filter_le _ _) (by simp)
theorem restTo_len (W : List (List Int)) (M : List (Option Nat)) (i : Nat) : (restTo W M i).length ≤ i * W.length := by
  induction i with
  | zero => simp [restTo]
  | succ i ih =>
    rw [restTo_succ, List.length_append, Nat.succ_mul]
    have := rowP_len W M i (W.length - (i + 1)); omega

noncomputable def rng2 (a b : Nat) : List V := (List.range (b - a)).map fun k : Nat => V.int ((a + k : Nat) : Int)
theorem rangeI_rng2 (a b : Nat) : (rangeI (a : Int) (b : Int) 1).map V.int = rng2 a b := by
  unfold rangeI rng2
  rw [List.map_map]
  have : (if (a : Int) < b then ((b : Int) - a - 1) / 1 + 1 else 0).toNat = b - a := by split <;> omega
  rw [this]
  refine List.map_congr_left fun k _ => ?_
  simp
theorem rng2_len (a b : Nat) : (rng2 a b).length = b - a := by simp [rng2]
theorem rng2_get {a b i : Nat} {v : V} (h : (rng2 a b)[i]? = some v) : a + i < b ∧ v = .int ((a + i : Nat) : Int) := by
  unfold rng2 at h
  rw [List.getElem?_map] at h
  obtain ⟨j, hj, rfl⟩ := Option.map_eq_some_iff.mp h
  obtain ⟨hl, e⟩ := List.getElem?_eq_some_iff.mp hj
  simp at hl e; subst e; exact ⟨by omega, rfl⟩
theorem range2_nat {a b : Nat} (ha : a ≤ lim) (hb : b ≤ lim) : rangeOf [.int (a : Int), .int (b : Int)] = some (rangeI (a : Int) (b : Int) 1) := by
  unfold rangeOf; simp [ha, hb]

noncomputable def SoonSpec (P : Prog) (b : Bool) (n : Nat) (f : String) : Prop := ∀ {H : Hp} {Q : Post} {X : XP} {w : Nat} {W : List (List Int)}, WH H w W → ∀ {g : Nat}, g < W.length → ∀ {one other : Option Nat}, (∀ i, one = some i → i < W.length) → (∀ i, other = some i → i < W.length) →
  Q (.bool (soonerP W g one other)) H → callN P b n f [.ref w, .int (g : Int), ov one, ov other] H Q X

/-- found_restless, in all its spellings -/
noncomputable def restFn (w m p o t f : String) : Fn := ⟨[w, m], [.assign p (.op .mkList []),
  .forR o [.op .len [.var w]]
    [.forR t [.op (.bin .add) [.var o, .int 1], .op .len [.var w]]
      [.ite (.and_ [.call f [.var w, .var o, .var t, .op .item [.var m, .var o]], .call f [.var w, .var t, .var o, .op .item [.var m, .var t]]])
        [.expr (.mcall .append (.var p) [.op .mkTuple [.var o, .var t]])]
        []]],
  .ret (.var p)]⟩

section
variable {P : Prog} {b : Bool} {n : Nat} {H : Hp} {Q : Post} {X : XP}

theorem s_restFn {w m p o t f g : String} (hP : P.fn g = some (restFn w m p o t f)) (hf : SoonSpec P b n f) (hn : [w, m, p, o, t].Nodup) {aw am : Nat} {W : List (List Int)} {M : List (Option Nat)} (hw : WH H aw W) (ok : WOk W) (hm : MT H am M) (mok : MOk W M)
    (h : ∀ H' r, H <+: H' → H.length ≤ r → PR H' r (restP W M) → Q (.ref r) H') : callN P b (n + 1) g [.ref aw, .ref am] H Q X := by
  simp only [List.nodup_cons, List.mem_cons, List.not_mem_nil, or_false, not_or, not_false_eq_true, List.nodup_nil, _root_.and_true] at hn
  obtain ⟨⟨wm, wp, wo, wt⟩, ⟨mp, mo, mt⟩, ⟨po, pt⟩, ot⟩ := hn
  have bq : ∀ {a b : String}, ¬ a = b → (a == b) = false := fun h => beq_eq_false_iff_ne.mpr h
  have hl : W.length ≤ lim := Nat.le_trans ok.le (by decide)
  have l6 := ok.le
  have mlen := mok.len
  (refine callN_in hP rfl ?_; unfold restFn)
  (repeat (first | dsimp only [XI, XJ] | dsimp only [ZA,ZB,ZC,ZD,ZE,ZF,ZG,ZH,ZI,ZJ,ZK,ZL,ZM,ZN,ZO,ZP,ZQ,ZR,ZS,ZT,ZU,ZV,ZW,ZX,ZY,ZZ,Za,Zb,Zc,Zd,Ze,Zf,Zg,Zh,Zi,Zj,Zk,Zl,Zm,Zn,Zo,Zp,Zq,Zr,Zs,Zt,Zu,Zv,Zw,Zx,Zy,Zz,YA,YB,YC,YD,YE,YF,YG,YH,YI,YJ,YK,YL,YM,YN,YO,YP,YQ,YR,Env.set,cond_true,cond_false,String.reduceBEq,YS,YT,YU,YV,YW,YX,YY,YZ,Ya,Yb,Yc,Yd,Ye,Yf] | simp only [Yg,Yh,true_and,Yi,Yj,Yk,Yl,Ym,Yn,Yo,Yp,Yq,Yr,Yt,Yu,Yv,Yw,Yx,Yy,Yz,XA,XB,XC,XD,XE,beq_self_eq_true,reduceIte,reduceCtorEq,↓reduceIte,XF,XG,XH, bq wm, (bq (Ne.symm wm)), bq wp, (bq (Ne.symm wp)), hw.pre (pre_new _ _) |>.len, range_nat hl]))
  refine wFor_idx (fun i ρ H' => H <+: H' ∧ PR H' H.length (restTo W M i) ∧ ρ w = some (.ref aw) ∧ ρ m = some (.ref am) ∧ ρ p = some (.ref H.length)) ⟨pre_new _ _, ⟨[], get_new _ _, .nil⟩, by (repeat (first | dsimp only [XI, XJ] | dsimp only [ZA,ZB,ZC,ZD,ZE,ZF,ZG,ZH,ZI,ZJ,ZK,ZL,ZM,ZN,ZO,ZP,ZQ,ZR,ZS,ZT,ZU,ZV,ZW,ZX,ZY,ZZ,Za,Zb,Zc,Zd,Ze,Zf,Zg,Zh,Zi,Zj,Zk,Zl,Zm,Zn,Zo,Zp,Zq,Zr,Zs,Zt,Zu,Zv,Zw,Zx,Zy,Zz,YA,YB,YC,YD,YE,YF,YG,YH,YI,YJ,YK,YL,YM,YN,YO,YP,YQ,YR,Env.set,cond_true,cond_false,String.reduceBEq,YS,YT,YU,YV,YW,YX,YY,YZ,Ya,Yb,Yc,Yd,Ye,Yf] | simp only [Yg,Yh,true_and,Yi,Yj,Yk,Yl,Ym,Yn,Yo,Yp,Yq,Yr,Yt,Yu,Yv,Yw,Yx,Yy,Yz,XA,XB,XC,XD,XE,beq_self_eq_true,reduceIte,reduceCtorEq,↓reduceIte,XF,XG,XH, bq wp, bq wm])), by (repeat (first | dsimp only [XI, XJ] | dsimp only [ZA,ZB,ZC,ZD,ZE,ZF,ZG,ZH,ZI,ZJ,ZK,ZL,ZM,ZN,ZO,ZP,ZQ,ZR,ZS,ZT,ZU,ZV,ZW,ZX,ZY,ZZ,Za,Zb,Zc,Zd,Ze,Zf,Zg,Zh,Zi,Zj,Zk,Zl,Zm,Zn,Zo,Zp,Zq,Zr,Zs,Zt,Zu,Zv,Zw,Zx,Zy,Zz,YA,YB,YC,YD,YE,YF,YG,YH,YI,YJ,YK,YL,YM,YN,YO,YP,YQ,YR,Env.set,cond_true,cond_false,String.reduceBEq,YS,YT,YU,YV,YW,YX,YY,YZ,Ya,Yb,Yc,Yd,Ye,Yf] | simp only [Yg,Yh,true_and,Yi,Yj,Yk,Yl,Ym,Yn,Yo,Yp,Yq,Yr,Yt,Yu,Yv,Yw,Yx,Yy,Yz,XA,XB,XC,XD,XE,beq_self_eq_true,reduceIte,reduceCtorEq,↓reduceIte,XF,XG,XH, bq mp, (bq (Ne.symm wm))])), by (repeat (first | dsimp only [XI, XJ] | dsimp only [ZA,ZB,ZC,ZD,ZE,ZF,ZG,ZH,ZI,ZJ,ZK,ZL,ZM,ZN,ZO,ZP,ZQ,ZR,ZS,ZT,ZU,ZV,ZW,ZX,ZY,ZZ,Za,Zb,Zc,Zd,Ze,Zf,Zg,Zh,Zi,Zj,Zk,Zl,Zm,Zn,Zo,Zp,Zq,Zr,Zs,Zt,Zu,Zv,Zw,Zx,Zy,Zz,YA,YB,YC,YD,YE,YF,YG,YH,YI,YJ,YK,YL,YM,YN,YO,YP,YQ,YR,Env.set,cond_true,cond_false,String.reduceBEq,YS,YT,YU,YV,YW,YX,YY,YZ,Ya,Yb,Yc,Yd,Ye,Yf] | simp only [Yg,Yh,true_and,Yi,Yj,Yk,Yl,Ym,Yn,Yo,Yp,Yq,Yr,Yt,Yu,Yv,Yw,Yx,Yy,Yz,XA,XB,XC,XD,XE,beq_self_eq_true,reduceIte,reduceCtorEq,↓reduceIte,XF,XG,XH]))⟩ (fun i v ρ H' hv hI => ⟨trivial, fun k' h1 h2 => ?_⟩) fun ρ H' hI => ⟨trivial, ?_⟩
  · obtain ⟨hi, rfl⟩ := rng_get hv
    obtain ⟨hp, hpr, e1, e2, e3⟩ := hI
    have ec : (i : Int) + 1 = ((i + 1 : Nat) : Int) := by omega
    (repeat (first | dsimp only [XI, XJ] | dsimp only [ZA,ZB,ZC,ZD,ZE,ZF,ZG,ZH,ZI,ZJ,ZK,ZL,ZM,ZN,ZO,ZP,ZQ,ZR,ZS,ZT,ZU,ZV,ZW,ZX,ZY,ZZ,Za,Zb,Zc,Zd,Ze,Zf,Zg,Zh,Zi,Zj,Zk,Zl,Zm,Zn,Zo,Zp,Zq,Zr,Zs,Zt,Zu,Zv,Zw,Zx,Zy,Zz,YA,YB,YC,YD,YE,YF,YG,YH,YI,YJ,YK,YL,YM,YN,YO,YP,YQ,YR,Env.set,cond_true,cond_false,String.reduceBEq,YS,YT,YU,YV,YW,YX,YY,YZ,Ya,Yb,Yc,Yd,Ye,Yf] | simp only [Yg,Yh,true_and,Yi,Yj,Yk,Yl,Ym,Yn,Yo,Yp,Yq,Yr,Yt,Yu,Yv,Yw,Yx,Yy,Yz,XA,XB,XC,XD,XE,beq_self_eq_true,reduceIte,reduceCtorEq,↓reduceIte,XF,XG,XH, e1, e2, e3, bq wo, (hw.pre hp).len, ec, range2_nat (show i + 1 ≤ lim by omega) hl, rangeI_rng2]))
    refine wFor_idx (fun d ρ H' => H <+: H' ∧ PR H' H.length (restTo W M i ++ rowP W M i d) ∧ ρ w = some (.ref aw) ∧ ρ m = some (.ref am) ∧ ρ p = some (.ref H.length) ∧ ρ o = some (.int (i : Int))) ⟨hp, by simpa [rowP] using hpr, by (repeat (first | dsimp only [XI, XJ] | dsimp only [ZA,ZB,ZC,ZD,ZE,ZF,ZG,ZH,ZI,ZJ,ZK,ZL,ZM,ZN,ZO,ZP,ZQ,ZR,ZS,ZT,ZU,ZV,ZW,ZX,ZY,ZZ,Za,Zb,Zc,Zd,Ze,Zf,Zg,Zh,Zi,Zj,Zk,Zl,Zm,Zn,Zo,Zp,Zq,Zr,Zs,Zt,Zu,Zv,Zw,Zx,Zy,Zz,YA,YB,YC,YD,YE,YF,YG,YH,YI,YJ,YK,YL,YM,YN,YO,YP,YQ,YR,Env.set,cond_true,cond_false,String.reduceBEq,YS,YT,YU,YV,YW,YX,YY,YZ,Ya,Yb,Yc,Yd,Ye,Yf] | simp only [Yg,Yh,true_and,Yi,Yj,Yk,Yl,Ym,Yn,Yo,Yp,Yq,Yr,Yt,Yu,Yv,Yw,Yx,Yy,Yz,XA,XB,XC,XD,XE,beq_self_eq_true,reduceIte,reduceCtorEq,↓reduceIte,XF,XG,XH, bq wo, e1])), by (repeat (first | dsimp only [XI, XJ] | dsimp only [ZA,ZB,ZC,ZD,ZE,ZF,ZG,ZH,ZI,ZJ,ZK,ZL,ZM,ZN,ZO,ZP,ZQ,ZR,ZS,ZT,ZU,ZV,ZW,ZX,ZY,ZZ,Za,Zb,Zc,Zd,Ze,Zf,Zg,Zh,Zi,Zj,Zk,Zl,Zm,Zn,Zo,Zp,Zq,Zr,Zs,Zt,Zu,Zv,Zw,Zx,Zy,Zz,YA,YB,YC,YD,YE,YF,YG,YH,YI,YJ,YK,YL,YM,YN,YO,YP,YQ,YR,Env.set,cond_true,cond_false,String.reduceBEq,YS,YT,YU,YV,YW,YX,YY,YZ,Ya,Yb,Yc,Yd,Ye,Yf] | simp only [Yg,Yh,true_and,Yi,Yj,Yk,Yl,Ym,Yn,Yo,Yp,Yq,Yr,Yt,Yu,Yv,Yw,Yx,Yy,Yz,XA,XB,XC,XD,XE,beq_self_eq_true,reduceIte,reduceCtorEq,↓reduceIte,XF,XG,XH, bq mo, e2])), by (repeat (first | dsimp only [XI, XJ] | dsimp only [ZA,ZB,ZC,ZD,ZE,ZF,ZG,ZH,ZI,ZJ,ZK,ZL,ZM,ZN,ZO,ZP,ZQ,ZR,ZS,ZT,ZU,ZV,ZW,ZX,ZY,ZZ,Za,Zb,Zc,Zd,Ze,Zf,Zg,Zh,Zi,Zj,Zk,Zl,Zm,Zn,Zo,Zp,Zq,Zr,Zs,Zt,Zu,Zv,Zw,Zx,Zy,Zz,YA,YB,YC,YD,YE,YF,YG,YH,YI,YJ,YK,YL,YM,YN,YO,YP,YQ,YR,Env.set,cond_true,cond_false,String.reduceBEq,YS,YT,YU,YV,YW,YX,YY,YZ,Ya,Yb,Yc,Yd,Ye,Yf] | simp only [Yg,Yh,true_and,Yi,Yj,Yk,Yl,Ym,Yn,Yo,Yp,Yq,Yr,Yt,Yu,Yv,Yw,Yx,Yy,Yz,XA,XB,XC,XD,XE,beq_self_eq_true,reduceIte,reduceCtorEq,↓reduceIte,XF,XG,XH, bq po, e3])), by (repeat (first | dsimp only [XI, XJ] | dsimp only [ZA,ZB,ZC,ZD,ZE,ZF,ZG,ZH,ZI,ZJ,ZK,ZL,ZM,ZN,ZO,ZP,ZQ,ZR,ZS,ZT,ZU,ZV,ZW,ZX,ZY,ZZ,Za,Zb,Zc,Zd,Ze,Zf,Zg,Zh,Zi,Zj,Zk,Zl,Zm,Zn,Zo,Zp,Zq,Zr,Zs,Zt,Zu,Zv,Zw,Zx,Zy,Zz,YA,YB,YC,YD,YE,YF,YG,YH,YI,YJ,YK,YL,YM,YN,YO,YP,YQ,YR,Env.set,cond_true,cond_false,String.reduceBEq,YS,YT,YU,YV,YW,YX,YY,YZ,Ya,Yb,Yc,Yd,Ye,Yf] | simp only [Yg,Yh,true_and,Yi,Yj,Yk,Yl,Ym,Yn,Yo,Yp,Yq,Yr,Yt,Yu,Yv,Yw,Yx,Yy,Yz,XA,XB,XC,XD,XE,beq_self_eq_true,reduceIte,reduceCtorEq,↓reduceIte,XF,XG,XH]))⟩ (fun d v ρ H' hv hI => ⟨trivial, fun k'' g1 g2 => ?_⟩) fun ρ H' hI => ⟨trivial, ?_⟩
    · obtain ⟨hd, rfl⟩ := rng2_get hv
      obtain ⟨hp, hpr, e1, e2, e3, e4⟩ := hI
      have hw' := hw.pre hp
      have hm' := hm.pre hp
      have ho : ∀ {i k}, M.getD i none = some k → k < W.length := fun q => (mok.two _ _ q).1
      (repeat (first | dsimp only [XI, XJ] | dsimp only [ZA,ZB,ZC,ZD,ZE,ZF,ZG,ZH,ZI,ZJ,ZK,ZL,ZM,ZN,ZO,ZP,ZQ,ZR,ZS,ZT,ZU,ZV,ZW,ZX,ZY,ZZ,Za,Zb,Zc,Zd,Ze,Zf,Zg,Zh,Zi,Zj,Zk,Zl,Zm,Zn,Zo,Zp,Zq,Zr,Zs,Zt,Zu,Zv,Zw,Zx,Zy,Zz,YA,YB,YC,YD,YE,YF,YG,YH,YI,YJ,YK,YL,YM,YN,YO,YP,YQ,YR,Env.set,cond_true,cond_false,String.reduceBEq,YS,YT,YU,YV,YW,YX,YY,YZ,Ya,Yb,Yc,Yd,Ye,Yf] | simp only [Yg,Yh,true_and,Yi,Yj,Yk,Yl,Ym,Yn,Yo,Yp,Yq,Yr,Yt,Yu,Yv,Yw,Yx,Yy,Yz,XA,XB,XC,XD,XE,beq_self_eq_true,reduceIte,reduceCtorEq,↓reduceIte,XF,XG,XH, e1, e2, e3, e4, bq wt, bq mt, bq pt, bq ot, hm'.item (show i < M.length by omega), hm'.item (show i + 1 + d < M.length by omega)]))
      refine hf hw' hi (one := some (i + 1 + d)) (fun k q => by cases q; omega) (fun k q => ho q) ?_
      have fin : ∀ q, restAt W M i (i + 1 + d) = q → q = false → k'' none (ρ.set t (.int ((i + 1 + d : Nat) : Int))) H' := fun q hq hf => by
        refine g1 _ _ ⟨hp, ?_, by (repeat (first | dsimp only [XI, XJ] | dsimp only [ZA,ZB,ZC,ZD,ZE,ZF,ZG,ZH,ZI,ZJ,ZK,ZL,ZM,ZN,ZO,ZP,ZQ,ZR,ZS,ZT,ZU,ZV,ZW,ZX,ZY,ZZ,Za,Zb,Zc,Zd,Ze,Zf,Zg,Zh,Zi,Zj,Zk,Zl,Zm,Zn,Zo,Zp,Zq,Zr,Zs,Zt,Zu,Zv,Zw,Zx,Zy,Zz,YA,YB,YC,YD,YE,YF,YG,YH,YI,YJ,YK,YL,YM,YN,YO,YP,YQ,YR,Env.set,cond_true,cond_false,String.reduceBEq,YS,YT,YU,YV,YW,YX,YY,YZ,Ya,Yb,Yc,Yd,Ye,Yf] | simp only [Yg,Yh,true_and,Yi,Yj,Yk,Yl,Ym,Yn,Yo,Yp,Yq,Yr,Yt,Yu,Yv,Yw,Yx,Yy,Yz,XA,XB,XC,XD,XE,beq_self_eq_true,reduceIte,reduceCtorEq,↓reduceIte,XF,XG,XH, bq wt, e1])), by (repeat (first | dsimp only [XI, XJ] | dsimp only [ZA,ZB,ZC,ZD,ZE,ZF,ZG,ZH,ZI,ZJ,ZK,ZL,ZM,ZN,ZO,ZP,ZQ,ZR,ZS,ZT,ZU,ZV,ZW,ZX,ZY,ZZ,Za,Zb,Zc,Zd,Ze,Zf,Zg,Zh,Zi,Zj,Zk,Zl,Zm,Zn,Zo,Zp,Zq,Zr,Zs,Zt,Zu,Zv,Zw,Zx,Zy,Zz,YA,YB,YC,YD,YE,YF,YG,YH,YI,YJ,YK,YL,YM,YN,YO,YP,YQ,YR,Env.set,cond_true,cond_false,String.reduceBEq,YS,YT,YU,YV,YW,YX,YY,YZ,Ya,Yb,Yc,Yd,Ye,Yf] | simp only [Yg,Yh,true_and,Yi,Yj,Yk,Yl,Ym,Yn,Yo,Yp,Yq,Yr,Yt,Yu,Yv,Yw,Yx,Yy,Yz,XA,XB,XC,XD,XE,beq_self_eq_true,reduceIte,reduceCtorEq,↓reduceIte,XF,XG,XH, bq mt, e2])), by (repeat (first | dsimp only [XI, XJ] | dsimp only [ZA,ZB,ZC,ZD,ZE,ZF,ZG,ZH,ZI,ZJ,ZK,ZL,ZM,ZN,ZO,ZP,ZQ,ZR,ZS,ZT,ZU,ZV,ZW,ZX,ZY,ZZ,Za,Zb,Zc,Zd,Ze,Zf,Zg,Zh,Zi,Zj,Zk,Zl,Zm,Zn,Zo,Zp,Zq,Zr,Zs,Zt,Zu,Zv,Zw,Zx,Zy,Zz,YA,YB,YC,YD,YE,YF,YG,YH,YI,YJ,YK,YL,YM,YN,YO,YP,YQ,YR,Env.set,cond_true,cond_false,String.reduceBEq,YS,YT,YU,YV,YW,YX,YY,YZ,Ya,Yb,Yc,Yd,Ye,Yf] | simp only [Yg,Yh,true_and,Yi,Yj,Yk,Yl,Ym,Yn,Yo,Yp,Yq,Yr,Yt,Yu,Yv,Yw,Yx,Yy,Yz,XA,XB,XC,XD,XE,beq_self_eq_true,reduceIte,reduceCtorEq,↓reduceIte,XF,XG,XH, bq pt, e3])), by (repeat (first | dsimp only [XI, XJ] | dsimp only [ZA,ZB,ZC,ZD,ZE,ZF,ZG,ZH,ZI,ZJ,ZK,ZL,ZM,ZN,ZO,ZP,ZQ,ZR,ZS,ZT,ZU,ZV,ZW,ZX,ZY,ZZ,Za,Zb,Zc,Zd,Ze,Zf,Zg,Zh,Zi,Zj,Zk,Zl,Zm,Zn,Zo,Zp,Zq,Zr,Zs,Zt,Zu,Zv,Zw,Zx,Zy,Zz,YA,YB,YC,YD,YE,YF,YG,YH,YI,YJ,YK,YL,YM,YN,YO,YP,YQ,YR,Env.set,cond_true,cond_false,String.reduceBEq,YS,YT,YU,YV,YW,YX,YY,YZ,Ya,Yb,Yc,Yd,Ye,Yf] | simp only [Yg,Yh,true_and,Yi,Yj,Yk,Yl,Ym,Yn,Yo,Yp,Yq,Yr,Yt,Yu,Yv,Yw,Yx,Yy,Yz,XA,XB,XC,XD,XE,beq_self_eq_true,reduceIte,reduceCtorEq,↓reduceIte,XF,XG,XH, bq ot, e4]))⟩
        rw [rowP_succ, hq, hf]; simpa using hpr
      cases q1 : soonerP W i (some (i + 1 + d)) (M.getD i none) with
      | false => (repeat (first | dsimp only [XI, XJ] | dsimp only [ZA,ZB,ZC,ZD,ZE,ZF,ZG,ZH,ZI,ZJ,ZK,ZL,ZM,ZN,ZO,ZP,ZQ,ZR,ZS,ZT,ZU,ZV,ZW,ZX,ZY,ZZ,Za,Zb,Zc,Zd,Ze,Zf,Zg,Zh,Zi,Zj,Zk,Zl,Zm,Zn,Zo,Zp,Zq,Zr,Zs,Zt,Zu,Zv,Zw,Zx,Zy,Zz,YA,YB,YC,YD,YE,YF,YG,YH,YI,YJ,YK,YL,YM,YN,YO,YP,YQ,YR,Env.set,cond_true,cond_false,String.reduceBEq,YS,YT,YU,YV,YW,YX,YY,YZ,Ya,Yb,Yc,Yd,Ye,Yf] | simp only [Yg,Yh,true_and,Yi,Yj,Yk,Yl,Ym,Yn,Yo,Yp,Yq,Yr,Yt,Yu,Yv,Yw,Yx,Yy,Yz,XA,XB,XC,XD,XE,beq_self_eq_true,reduceIte,reduceCtorEq,↓reduceIte,XF,XG,XH])); exact fin _ rfl (by unfold restAt; rw [q1]; rfl)
      | true =>
        (repeat (first | dsimp only [XI, XJ] | dsimp only [ZA,ZB,ZC,ZD,ZE,ZF,ZG,ZH,ZI,ZJ,ZK,ZL,ZM,ZN,ZO,ZP,ZQ,ZR,ZS,ZT,ZU,ZV,ZW,ZX,ZY,ZZ,Za,Zb,Zc,Zd,Ze,Zf,Zg,Zh,Zi,Zj,Zk,Zl,Zm,Zn,Zo,Zp,Zq,Zr,Zs,Zt,Zu,Zv,Zw,Zx,Zy,Zz,YA,YB,YC,YD,YE,YF,YG,YH,YI,YJ,YK,YL,YM,YN,YO,YP,YQ,YR,Env.set,cond_true,cond_false,String.reduceBEq,YS,YT,YU,YV,YW,YX,YY,YZ,Ya,Yb,Yc,Yd,Ye,Yf] | simp only [Yg,Yh,true_and,Yi,Yj,Yk,Yl,Ym,Yn,Yo,Yp,Yq,Yr,Yt,Yu,Yv,Yw,Yx,Yy,Yz,XA,XB,XC,XD,XE,beq_self_eq_true,reduceIte,reduceCtorEq,↓reduceIte,XF,XG,XH, hm'.item (show i + 1 + d < M.length by omega)]))
        refine hf hw' (show i + 1 + d < W.length by omega) (one := some i) (fun k q => by cases q; omega) (fun k q => ho q) ?_
        cases q2 : soonerP W (i + 1 + d) (some i) (M.getD (i + 1 + d) none) with
        | false => (repeat (first | dsimp only [XI, XJ] | dsimp only [ZA,ZB,ZC,ZD,ZE,ZF,ZG,ZH,ZI,ZJ,ZK,ZL,ZM,ZN,ZO,ZP,ZQ,ZR,ZS,ZT,ZU,ZV,ZW,ZX,ZY,ZZ,Za,Zb,Zc,Zd,Ze,Zf,Zg,Zh,Zi,Zj,Zk,Zl,Zm,Zn,Zo,Zp,Zq,Zr,Zs,Zt,Zu,Zv,Zw,Zx,Zy,Zz,YA,YB,YC,YD,YE,YF,YG,YH,YI,YJ,YK,YL,YM,YN,YO,YP,YQ,YR,Env.set,cond_true,cond_false,String.reduceBEq,YS,YT,YU,YV,YW,YX,YY,YZ,Ya,Yb,Yc,Yd,Ye,Yf] | simp only [Yg,Yh,true_and,Yi,Yj,Yk,Yl,Ym,Yn,Yo,Yp,Yq,Yr,Yt,Yu,Yv,Yw,Yx,Yy,Yz,XA,XB,XC,XD,XE,beq_self_eq_true,reduceIte,reduceCtorEq,↓reduceIte,XF,XG,XH])); exact fin _ rfl (by unfold restAt; rw [q1, q2]; rfl)
        | true =>
          have hlen : (restTo W M i ++ rowP W M i d).length < lim := by
            rw [List.length_append]
            have a1 := restTo_len W M i
            have a2 := rowP_len W M i d
            have a3 : i * W.length ≤ 6 * 6 := Nat.mul_le_mul (by omega) (by omega)
            unfold lim; omega
          obtain ⟨H'', hap, hpr', hpre⟩ := hpr.push hlen (i := i) (j := i + 1 + d)
          obtain ⟨rs, hrs, _⟩ := hpr
          (repeat (first | dsimp only [XI, XJ] | dsimp only [ZA,ZB,ZC,ZD,ZE,ZF,ZG,ZH,ZI,ZJ,ZK,ZL,ZM,ZN,ZO,ZP,ZQ,ZR,ZS,ZT,ZU,ZV,ZW,ZX,ZY,ZZ,Za,Zb,Zc,Zd,Ze,Zf,Zg,Zh,Zi,Zj,Zk,Zl,Zm,Zn,Zo,Zp,Zq,Zr,Zs,Zt,Zu,Zv,Zw,Zx,Zy,Zz,YA,YB,YC,YD,YE,YF,YG,YH,YI,YJ,YK,YL,YM,YN,YO,YP,YQ,YR,Env.set,cond_true,cond_false,String.reduceBEq,YS,YT,YU,YV,YW,YX,YY,YZ,Ya,Yb,Yc,Yd,Ye,Yf] | simp only [Yg,Yh,true_and,Yi,Yj,Yk,Yl,Ym,Yn,Yo,Yp,Yq,Yr,Yt,Yu,Yv,Yw,Yx,Yy,Yz,XA,XB,XC,XD,XE,beq_self_eq_true,reduceIte,reduceCtorEq,↓reduceIte,XF,XG,XH, e1, e2, e3, e4, bq wt, bq mt, bq pt, bq ot, (recvL hrs).1, hap]))
          refine g1 _ _ ⟨hpre H hp (Nat.le_refl _), ?_, by (repeat (first | dsimp only [XI, XJ] | dsimp only [ZA,ZB,ZC,ZD,ZE,ZF,ZG,ZH,ZI,ZJ,ZK,ZL,ZM,ZN,ZO,ZP,ZQ,ZR,ZS,ZT,ZU,ZV,ZW,ZX,ZY,ZZ,Za,Zb,Zc,Zd,Ze,Zf,Zg,Zh,Zi,Zj,Zk,Zl,Zm,Zn,Zo,Zp,Zq,Zr,Zs,Zt,Zu,Zv,Zw,Zx,Zy,Zz,YA,YB,YC,YD,YE,YF,YG,YH,YI,YJ,YK,YL,YM,YN,YO,YP,YQ,YR,Env.set,cond_true,cond_false,String.reduceBEq,YS,YT,YU,YV,YW,YX,YY,YZ,Ya,Yb,Yc,Yd,Ye,Yf] | simp only [Yg,Yh,true_and,Yi,Yj,Yk,Yl,Ym,Yn,Yo,Yp,Yq,Yr,Yt,Yu,Yv,Yw,Yx,Yy,Yz,XA,XB,XC,XD,XE,beq_self_eq_true,reduceIte,reduceCtorEq,↓reduceIte,XF,XG,XH, bq wt, e1])), by (repeat (first | dsimp only [XI, XJ] | dsimp only [ZA,ZB,ZC,ZD,ZE,ZF,ZG,ZH,ZI,ZJ,ZK,ZL,ZM,ZN,ZO,ZP,ZQ,ZR,ZS,ZT,ZU,ZV,ZW,ZX,ZY,ZZ,Za,Zb,Zc,Zd,Ze,Zf,Zg,Zh,Zi,Zj,Zk,Zl,Zm,Zn,Zo,Zp,Zq,Zr,Zs,Zt,Zu,Zv,Zw,Zx,Zy,Zz,YA,YB,YC,YD,YE,YF,YG,YH,YI,YJ,YK,YL,YM,YN,YO,YP,YQ,YR,Env.set,cond_true,cond_false,String.reduceBEq,YS,YT,YU,YV,YW,YX,YY,YZ,Ya,Yb,Yc,Yd,Ye,Yf] | simp only [Yg,Yh,true_and,Yi,Yj,Yk,Yl,Ym,Yn,Yo,Yp,Yq,Yr,Yt,Yu,Yv,Yw,Yx,Yy,Yz,XA,XB,XC,XD,XE,beq_self_eq_true,reduceIte,reduceCtorEq,↓reduceIte,XF,XG,XH, bq mt, e2])), by (repeat (first | dsimp only [XI, XJ] | dsimp only [ZA,ZB,ZC,ZD,ZE,ZF,ZG,ZH,ZI,ZJ,ZK,ZL,ZM,ZN,ZO,ZP,ZQ,ZR,ZS,ZT,ZU,ZV,ZW,ZX,ZY,ZZ,Za,Zb,Zc,Zd,Ze,Zf,Zg,Zh,Zi,Zj,Zk,Zl,Zm,Zn,Zo,Zp,Zq,Zr,Zs,Zt,Zu,Zv,Zw,Zx,Zy,Zz,YA,YB,YC,YD,YE,YF,YG,YH,YI,YJ,YK,YL,YM,YN,YO,YP,YQ,YR,Env.set,cond_true,cond_false,String.reduceBEq,YS,YT,YU,YV,YW,YX,YY,YZ,Ya,Yb,Yc,Yd,Ye,Yf] | simp only [Yg,Yh,true_and,Yi,Yj,Yk,Yl,Ym,Yn,Yo,Yp,Yq,Yr,Yt,Yu,Yv,Yw,Yx,Yy,Yz,XA,XB,XC,XD,XE,beq_self_eq_true,reduceIte,reduceCtorEq,↓reduceIte,XF,XG,XH, bq pt, e3])), by (repeat (first | dsimp only [XI, XJ] | dsimp only [ZA,ZB,ZC,ZD,ZE,ZF,ZG,ZH,ZI,ZJ,ZK,ZL,ZM,ZN,ZO,ZP,ZQ,ZR,ZS,ZT,ZU,ZV,ZW,ZX,ZY,ZZ,Za,Zb,Zc,Zd,Ze,Zf,Zg,Zh,Zi,Zj,Zk,Zl,Zm,Zn,Zo,Zp,Zq,Zr,Zs,Zt,Zu,Zv,Zw,Zx,Zy,Zz,YA,YB,YC,YD,YE,YF,YG,YH,YI,YJ,YK,YL,YM,YN,YO,YP,YQ,YR,Env.set,cond_true,cond_false,String.reduceBEq,YS,YT,YU,YV,YW,YX,YY,YZ,Ya,Yb,Yc,Yd,Ye,Yf] | simp only [Yg,Yh,true_and,Yi,Yj,Yk,Yl,Ym,Yn,Yo,Yp,Yq,Yr,Yt,Yu,Yv,Yw,Yx,Yy,Yz,XA,XB,XC,XD,XE,beq_self_eq_true,reduceIte,reduceCtorEq,↓reduceIte,XF,XG,XH, bq ot, e4]))⟩
          rw [rowP_succ, ← List.append_assoc]
          have : restAt W M i (i + 1 + d) = true := by unfold restAt; rw [q1, q2]; rfl
          rw [this]; exact hpr'
    · obtain ⟨hp, hpr, e1, e2, e3, e4⟩ := hI
      rw [rng2_len] at hpr
      refine h1 _ _ ⟨hp, ?_, e1, e2, e3⟩
      rw [restTo_succ]; exact hpr
  · obtain ⟨hp, hpr, e1, e2, e3⟩ := hI
    rw [rng_len] at hpr
    (repeat (first | dsimp only [XI, XJ] | dsimp only [ZA,ZB,ZC,ZD,ZE,ZF,ZG,ZH,ZI,ZJ,ZK,ZL,ZM,ZN,ZO,ZP,ZQ,ZR,ZS,ZT,ZU,ZV,ZW,ZX,ZY,ZZ,Za,Zb,Zc,Zd,Ze,Zf,Zg,Zh,Zi,Zj,Zk,Zl,Zm,Zn,Zo,Zp,Zq,Zr,Zs,Zt,Zu,Zv,Zw,Zx,Zy,Zz,YA,YB,YC,YD,YE,YF,YG,YH,YI,YJ,YK,YL,YM,YN,YO,YP,YQ,YR,Env.set,cond_true,cond_false,String.reduceBEq,YS,YT,YU,YV,YW,YX,YY,YZ,Ya,Yb,Yc,Yd,Ye,Yf] | simp only [Yg,Yh,true_and,Yi,Yj,Yk,Yl,Ym,Yn,Yo,Yp,Yq,Yr,Yt,Yu,Yv,Yw,Yx,Yy,Yz,XA,XB,XC,XD,XE,beq_self_eq_true,reduceIte,reduceCtorEq,↓reduceIte,XF,XG,XH, e3]))
    exact h _ _ hp (Nat.le_refl _) hpr

end
end Mine

namespace Mine
open PySem

section
variable {P : Prog} {b : Bool} {n : Nat} {H : Hp} {Q : Post} {X : XP}

theorem getD_set {α : Type} (l : List α) (i j : Nat) (x d : α) (hi : i < l.length) : (l.set i x).getD j d = if i = j then x else l.getD j d := by
  rw [List.getD_eq_getElem?_getD, List.getD_eq_getElem?_getD, List.getElem?_set]
  split
  · rename_i e; subst e; simp [hi]
  · rfl

theorem MOk.pair {W : List (List Int)} {M : List (Option Nat)} (h : MOk W M) {g x : Nat} (hg : g < W.length) (hx : x < W.length) (hne : x ≠ g) (eg : M.getD g none = none) (ex : M.getD x none = none) (hb : both W g x = true) : MOk W ((M.set g (some x)).set x (some g)) := by
  have hl := h.len
  have hb' : both W x g = true := by unfold both at hb ⊢; rw [Bool.and_comm]; exact hb
  refine ⟨by simp [hl], fun i j hij => ?_⟩
  rw [getD_set _ _ _ _ _ (by simp; omega), getD_set _ _ _ _ _ (by omega)] at hij
  rw [getD_set _ _ _ _ _ (by simp; omega), getD_set _ _ _ _ _ (by omega)]
  by_cases hxi : x = i
  · rw [if_pos hxi] at hij; cases hij
    subst hxi
    exact ⟨hg, by rw [if_neg hne, if_pos rfl], hb'⟩
  · rw [if_neg hxi] at hij
    by_cases hgi : g = i
    · rw [if_pos hgi] at hij; cases hij
      subst hgi
      exact ⟨hx, by rw [if_pos rfl], hb⟩
    · rw [if_neg hgi] at hij
      obtain ⟨a1, a2, a3⟩ := h.two i j hij
      have n1 : x ≠ j := by rintro rfl; rw [ex] at a2; cases a2
      have n2 : g ≠ j := by rintro rfl; rw [eg] at a2; cases a2
      exact ⟨a1, by rw [if_neg n1, if_neg n2]; exact a2, a3⟩

theorem MT.set {a : Nat} {M : List (Option Nat)} (h : MT H a M) {i : Nat} (hi : i < M.length) (x : Option Nat) : setV (.ref a) (.int (i : Int)) (ov x) H = some (H.set a (.list ((M.set i x).map ov))) ∧ MT (H.set a (.list ((M.set i x).map ov))) a (M.set i x) := by
  have h' := h
  unfold MT at h'
  have e : (M.map ov).set i (ov x) = (M.set i x).map ov := by rw [List.map_set]
  refine ⟨?_, get_set_eq h' _⟩
  rw [set_seq h' (by rw [List.length_map]; exact hi), e]

theorem is_ov (x : Option Nat) : isSame (ov x) .none = some (decide (x = none)) := by cases x <;> simp [ov, isSame]

theorem s_whole (hP : P.fn "_law_whole" = some f__law_whole) {i : Int} (h : Q (.bool true) H) : callN P b (n + 1) "_law_whole" [.int i] H Q X := by
  (refine callN_in hP rfl ?_; unfold f__law_whole)
  (repeat (first | dsimp only [XI, XJ] | dsimp only [ZA,ZB,ZC,ZD,ZE,ZF,ZG,ZH,ZI,ZJ,ZK,ZL,ZM,ZN,ZO,ZP,ZQ,ZR,ZS,ZT,ZU,ZV,ZW,ZX,ZY,ZZ,Za,Zb,Zc,Zd,Ze,Zf,Zg,Zh,Zi,Zj,Zk,Zl,Zm,Zn,Zo,Zp,Zq,Zr,Zs,Zt,Zu,Zv,Zw,Zx,Zy,Zz,YA,YB,YC,YD,YE,YF,YG,YH,YI,YJ,YK,YL,YM,YN,YO,YP,YQ,YR,Env.set,cond_true,cond_false,String.reduceBEq,YS,YT,YU,YV,YW,YX,YY,YZ,Ya,Yb,Yc,Yd,Ye,Yf] | simp only [Yg,Yh,true_and,Yi,Yj,Yk,Yl,Ym,Yn,Yo,Yp,Yq,Yr,Yt,Yu,Yv,Yw,Yx,Yy,Yz,XA,XB,XC,XD,XE,beq_self_eq_true,reduceIte,reduceCtorEq,↓reduceIte,XF,XG,XH]))
  exact h
end

noncomputable def od : Option Nat → PyData
  | none => .none
  | some i => .int (i : Int)

theorem MT.readN {H : Hp} {w : Nat} {M : List (Option Nat)} (h : MT H w M) (n : Nat) : readD (n + 1) H (.ref w) = some (.list (M.map od)) := by
  unfold MT at h
  have : ∀ M : List (Option Nat), (M.map ov).mapM (readD n H) = some (M.map od) := by
    intro M
    induction M with
    | nil => rfl
    | cons x M ih =>
      rw [List.map_cons, List.mapM_cons, ih]
      cases x <;> cases n <;> rfl
  simp only [rd_n, rd_b, rd_i, rd_s, rd_r, h, this]; rfl
theorem PR.readN {H : Hp} {w : Nat} {ps : List (Nat × Nat)} (h : PR H w ps) (n : Nat) : readD (n + 2) H (.ref w) = some (.list (ps.map fun p => .tuple [.int (p.1 : Int), .int (p.2 : Int)])) := by
  obtain ⟨rs, h1, h2⟩ := h
  have : rs.mapM (readD (n + 1) H) = some (ps.map fun p => PyData.tuple [.int (p.1 : Int), .int (p.2 : Int)]) := by
    clear h1
    induction h2 with
    | nil => rfl
    | @cons v p vs ps hr _ ih =>
      obtain ⟨b, rfl, hb⟩ := hr
      rw [List.mapM_cons, ih]
      have : [V.int (p.1 : Int), V.int (p.2 : Int)].mapM (readD n H) = some [.int (p.1 : Int), .int (p.2 : Int)] := mapM_read n H [(p.1 : Int), (p.2 : Int)]
      simp only [rd_n, rd_b, rd_i, rd_s, rd_r, hb, this]; rfl
  simp only [rd_n, rd_b, rd_i, rd_s, rd_r, h1, this]; rfl

theorem canLay_od : ∀ M : List (Option Nat), PyData.canLayAll0 (M.map od) = true
  | [] => rfl
  | none :: M => by simp [ca_n, ca_c, cl_n, cl_b, cl_i, cl_s, cl_l, cl_t, od, canLay_od M]
  | some _ :: M => by simp [ca_n, ca_c, cl_n, cl_b, cl_i, cl_s, cl_l, cl_t, od, canLay_od M]
theorem eqv_od : ∀ M M' : List (Option Nat), PyData.eqvAll (M.map od) (M'.map od) = decide (M = M')
  | [], [] => rfl
  | [], _ :: _ => by simp [da_nn, da_cc, da_nc, da_cn]
  | _ :: _, [] => by simp [da_nn, da_cc, da_nc, da_cn]
  | x :: M, y :: M' => by
    rw [List.map_cons, List.map_cons, da_cc, eqv_od M M']
    cases x with
    | none => cases y <;> simp [od, dq_ii, dq_nn, dq_in, dq_ni, dq_bb, dq_ss, dq_ll, dq_tt]
    | some a => cases y with
      | none => simp [od, dq_ii, dq_nn, dq_in, dq_ni, dq_bb, dq_ss, dq_ll, dq_tt]
      | some c =>
        simp only [od, dq_ii, dq_nn, dq_in, dq_ni, dq_bb, dq_ss, dq_ll, dq_tt, List.cons.injEq, Option.some.injEq]
        by_cases e : a = c
        · subst e; simp
        · have : ((a : Int) == (c : Int)) = false := beq_eq_false_iff_ne.mpr (by omega)
          simp [e, this]
theorem canLay_ps : ∀ ps : List (Nat × Nat), PyData.canLayAll0 (ps.map fun p => .tuple [.int (p.1 : Int), .int (p.2 : Int)]) = true
  | [] => rfl
  | _ :: M => by simp [ca_n, ca_c, cl_n, cl_b, cl_i, cl_s, cl_l, cl_t, canLay_ps M]
theorem eqv_ps : ∀ ps qs : List (Nat × Nat), PyData.eqvAll (ps.map fun p => .tuple [.int (p.1 : Int), .int (p.2 : Int)]) (qs.map fun p => .tuple [.int (p.1 : Int), .int (p.2 : Int)]) = decide (ps = qs)
  | [], [] => rfl
  | [], _ :: _ => by simp [da_nn, da_cc, da_nc, da_cn]
  | _ :: _, [] => by simp [da_nn, da_cc, da_nc, da_cn]
  | (a, c) :: M, (a', c') :: M' => by
    rw [List.map_cons, List.map_cons, da_cc, eqv_ps M M']
    simp only [dq_ii, dq_nn, dq_in, dq_ni, dq_bb, dq_ss, dq_ll, dq_tt, da_nn, da_cc, da_nc, da_cn, List.cons.injEq, Prod.mk.injEq]
    by_cases e : a = a'
    · by_cases e' : c = c'
      · subst e; subst e'; simp
      · have : ((c : Int) == (c' : Int)) = false := beq_eq_false_iff_ne.mpr (by omega)
        simp [e', this]
    · have : ((a : Int) == (a' : Int)) = false := beq_eq_false_iff_ne.mpr (by omega)
      simp [e, this]
theorem PR.eq {H : Hp} {w w' : Nat} {ps qs : List (Nat × Nat)} (h : PR H w ps) (h' : PR H w' qs) : eqD H (.ref w) (.ref w') = some (decide (ps = qs)) := by
  simp [eqD, h.readN 6, h'.readN 6, cl_n, cl_b, cl_i, cl_s, cl_l, cl_t, canLay_ps, dq_ii, dq_nn, dq_in, dq_ni, dq_bb, dq_ss, dq_ll, dq_tt, eqv_ps]
end Mine

namespace Mine

abbrev Mt := List (Option Nat)

noncomputable def pairM (M : Mt) (g o : Nat) : Mt := (M.set g (some o)).set o (some g)

noncomputable def twos (bo : Nat → Nat → Bool) : Nat → List Nat → Mt → List Mt
  | 0, _, M => [M]
  | _ + 1, [], M => [M]
  | k + 1, g :: r, M => twos bo k r M ++ (r.filter (bo g)).flatMap fun o => twos bo k (r.filter (· != o)) (pairM M g o)

noncomputable def cnt (bo : Nat → Nat → Bool) : Nat → List Nat → Nat
  | 0, _ => 1
  | _ + 1, [] => 1
  | k + 1, g :: r => cnt bo k r + ((r.filter (bo g)).map fun o => cnt bo k (r.filter (· != o))).sum

theorem twos_len (bo : Nat → Nat → Bool) : ∀ (k : Nat) (l : List Nat) (M : Mt), (twos bo k l M).length = cnt bo k l
  | 0, _, _ => rfl
  | _ + 1, [], _ => rfl
  | k + 1, g :: r, M => by
    rw [twos, cnt, List.length_append, twos_len bo k, List.length_flatMap]
    congr 2
    exact List.map_congr_left fun o _ => twos_len bo k _ _

theorem pairM_len (M : Mt) (g o : Nat) : (pairM M g o).length = M.length := by simp [pairM]
theorem pairM_ne {M : Mt} {g o i : Nat} (h1 : i ≠ g) (h2 : i ≠ o) : (pairM M g o).getD i none = M.getD i none := by
  simp only [pairM, List.getD_eq_getElem?_getD]
  rw [List.getElem?_set_ne (Ne.symm h2), List.getElem?_set_ne (Ne.symm h1)]
theorem pairM_fst {M : Mt} {g o : Nat} (h : g < M.length) (hg : g ≠ o) : (pairM M g o).getD g none = some o := by
  simp only [pairM, List.getD_eq_getElem?_getD]
  rw [List.getElem?_set_ne (Ne.symm hg), List.getElem?_set_self h]; rfl
theorem pairM_snd {M : Mt} {g o : Nat} (h : o < M.length) : (pairM M g o).getD o none = some g := by
  simp only [pairM, List.getD_eq_getElem?_getD]
  rw [List.getElem?_set_self (by simpa using h)]; rfl

/-- all of them have a property that putting two together keeps -/
theorem twos_all (bo : Nat → Nat → Bool) (p : Mt → Prop) : ∀ (k : Nat) (l : List Nat) (M : Mt), l.Nodup → p M → (∀ x ∈ l, x < M.length ∧ M.getD x none = none) →
    (∀ M g o, p M → g < M.length → o < M.length → g ≠ o → M.getD g none = none → M.getD o none = none → bo g o = true → p (pairM M g o)) → ∀ X ∈ twos bo k l M, p X
  | 0, _, M, _, hp, _, _, X, h => by rw [twos, List.mem_singleton] at h; subst h; exact hp
  | _ + 1, [], M, _, hp, _, _, X, h => by rw [twos, List.mem_singleton] at h; subst h; exact hp
  | k + 1, g :: r, M, hs, hp, hl, step, X, h => by
    rw [twos, List.mem_append, List.mem_flatMap] at h
    obtain ⟨gr, hr⟩ := List.nodup_cons.mp hs
    rcases h with h | ⟨o, ho, h⟩
    · exact twos_all bo p k r M hr hp (fun x hx => hl x (.tail _ hx)) step X h
    · obtain ⟨hor, hb⟩ := List.mem_filter.mp ho
      obtain ⟨g1, g2⟩ := hl g (.head _)
      obtain ⟨o1, o2⟩ := hl o (.tail _ hor)
      have hgo : g ≠ o := fun e => gr (e ▸ hor)
      refine twos_all bo p k _ _ (hr.sublist List.filter_sublist) (step M g o hp g1 o1 hgo g2 o2 hb) (fun x hx => ?_) step X h
      obtain ⟨hxr, hxo⟩ := List.mem_filter.mp hx
      have hxo : x ≠ o := by simpa using hxo
      obtain ⟨q1, q2⟩ := hl x (.tail _ hxr)
      refine ⟨by rw [pairM_len]; exact q1, ?_⟩
      rw [pairM_ne (fun e : x = g => gr (e ▸ hxr)) hxo]; exact q2

theorem nodup_le {α : Type} [DecidableEq α] : ∀ {l m : List α}, l.Nodup → (∀ x ∈ l, x ∈ m) → l.length ≤ m.length
  | [], _, _, _ => Nat.zero_le _
  | a :: l, m, hn, hs => by
    obtain ⟨h1, h2⟩ := List.nodup_cons.mp hn
    have ha := hs a (.head _)
    have := nodup_le (m := m.erase a) h2 fun x hx => (List.mem_erase_of_ne (fun e : x = a => h1 (e ▸ hx))).mpr (hs x (.tail _ hx))
    rw [List.length_erase_of_mem ha] at this
    have : 0 < m.length := List.length_pos_of_mem ha
    simp only [List.length_cons]; omega
theorem nodup_mapF {α β : Type} (f : α → β) : ∀ {l : List α}, l.Nodup → (∀ x ∈ l, ∀ y ∈ l, f x = f y → x = y) → (l.map f).Nodup
  | [], _, _ => List.nodup_nil
  | a :: l, hn, hi => by
    obtain ⟨h1, h2⟩ := List.nodup_cons.mp hn
    rw [List.map_cons, List.nodup_cons]
    refine ⟨fun q => ?_, nodup_mapF f h2 fun x hx y hy => hi x (.tail _ hx) y (.tail _ hy)⟩
    obtain ⟨y, hy, e⟩ := List.mem_map.mp q
    exact h1 (hi y (.tail _ hy) a (.head _) e ▸ hy)
end Mine

namespace Mine
open PySem

noncomputable def Fd (H₀ H : Hp) (m t f : Nat) (v : V) (M : Mt) : Prop := ∃ r, v = .ref r ∧ H₀.length ≤ r ∧ r ≠ m ∧ r ≠ t ∧ r ≠ f ∧ MT H r M

structure SS (H₀ H : Hp) (m t f : Nat) (M : Mt) (B : List Bool) (Xs : List Mt) : Prop where
  pre : H₀ <+: H
  m0 : H₀.length ≤ m
  t0 : H₀.length ≤ t
  f0 : H₀.length ≤ f
  mt : m ≠ t
  mf : m ≠ f
  tf : t ≠ f
  hm : MT H m M
  ht : H[t]? = some (.list (B.map .bool))
  hf : ∃ fs, H[f]? = some (.list fs) ∧ All2 (Fd H₀ H m t f) fs Xs

section
variable {H₀ H : Hp} {m t f : Nat} {M : Mt} {B : List Bool} {Xs : List Mt}

theorem SS.setM (h : SS H₀ H m t f M B Xs) {i : Nat} (hi : i < M.length) (x : Option Nat) : ∃ H', setV (.ref m) (.int (i : Int)) (ov x) H = some H' ∧ SS H₀ H' m t f (M.set i x) B Xs := by
  obtain ⟨a, b⟩ := h.hm.set hi x
  obtain ⟨fs, f1, f2⟩ := h.hf
  refine ⟨_, a, pre_set h.pre h.m0 _, h.m0, h.t0, h.f0, h.mt, h.mf, h.tf, b, by rw [get_set_ne (Ne.symm h.mt)]; exact h.ht, fs, by rw [get_set_ne (Ne.symm h.mf)]; exact f1, f2.mono fun v X ⟨r, e, r0, r1, r2, r3, r4⟩ => ⟨r, e, r0, r1, r2, r3, ?_⟩⟩
  unfold MT; rw [get_set_ne r1]; exact r4

theorem SS.setB (h : SS H₀ H m t f M B Xs) {i : Nat} (hi : i < B.length) (x : Bool) : ∃ H', setV (.ref t) (.int (i : Int)) (.bool x) H = some H' ∧ SS H₀ H' m t f M (B.set i x) Xs := by
  have a := set_seq h.ht (i := i) (by rw [List.length_map]; exact hi) (.bool x)
  obtain ⟨fs, f1, f2⟩ := h.hf
  refine ⟨_, a, pre_set h.pre h.t0 _, h.m0, h.t0, h.f0, h.mt, h.mf, h.tf, by unfold MT; rw [get_set_ne h.mt]; exact h.hm, by rw [get_set_eq h.ht, List.map_set], fs, by rw [get_set_ne (Ne.symm h.tf)]; exact f1, f2.mono fun v X ⟨r, e, r0, r1, r2, r3, r4⟩ => ⟨r, e, r0, r1, r2, r3, ?_⟩⟩
  unfold MT; rw [get_set_ne r2]; exact r4

theorem SS.grow (h : SS H₀ H m t f M B Xs) (o : O) : SS H₀ (H ++ [o]) m t f M B Xs := by
  obtain ⟨fs, f1, f2⟩ := h.hf
  exact ⟨h.pre.trans (pre_new _ _), h.m0, h.t0, h.f0, h.mt, h.mf, h.tf, h.hm.pre (pre_new _ _), pre_get (pre_new _ _) h.ht, fs, pre_get (pre_new _ _) f1, f2.mono fun v X ⟨r, e, r0, r1, r2, r3, r4⟩ => ⟨r, e, r0, r1, r2, r3, r4.pre (pre_new _ _)⟩⟩

theorem SS.push (h : SS H₀ H m t f M B Xs) (hl : Xs.length < lim) : ∃ H', methV .append [.ref f, .ref H.length] (H ++ [.list (M.map ov)]) = some (.none, H') ∧ SS H₀ H' m t f M B (Xs ++ [M]) := by
  have g := h.grow (.list (M.map ov))
  obtain ⟨fs, f1, f2⟩ := g.hf
  have hlt : ∀ {a o}, H[a]? = some o → a < H.length := fun q => (List.getElem?_eq_some_iff.mp q).1
  obtain ⟨fs', f1', _⟩ := h.hf
  have a := append_at (v := .ref H.length) f1 (by rw [f2.length]; exact hl)
  refine ⟨_, a, pre_set g.pre h.f0 _, h.m0, h.t0, h.f0, h.mt, h.mf, h.tf, by unfold MT; rw [get_set_ne h.mf]; exact g.hm, by rw [get_set_ne h.tf]; exact g.ht, _, get_set_eq f1 _, ?_⟩
  refine (f2.mono fun v X ⟨r, e, r0, r1, r2, r3, r4⟩ => ⟨r, e, r0, r1, r2, r3, ?_⟩).append (.cons ⟨H.length, rfl, h.pre.length_le, Ne.symm (Nat.ne_of_lt (hlt h.hm)), Ne.symm (Nat.ne_of_lt (hlt h.ht)), Ne.symm (Nat.ne_of_lt (hlt f1')), ?_⟩ .nil)
  · unfold MT; rw [get_set_ne (Ne.symm (Nat.ne_of_lt (hlt f1')))]; exact get_new _ _
  · unfold MT; rw [get_set_ne r3]; exact r4

theorem SS.itemB (h : SS H₀ H m t f M B Xs) {i : Nat} (hi : i < B.length) : itemV (.ref t) (.int (i : Int)) H = some (.bool (B.getD i true)) :=
  item_seq (seqOf_list h.ht) (by rw [List.getElem?_map, List.getElem?_eq_getElem hi, List.getD_eq_getElem?_getD, List.getElem?_eq_getElem hi]; rfl)
end

/-- the guests from g on who are not met -/
noncomputable def lf (B : List Bool) (g n : Nat) : List Nat := (List.range' g (n - g)).filter fun i => !B.getD i true

theorem lf_end (B : List Bool) (n : Nat) : lf B n n = [] := by simp [lf]
theorem lf_cons {B : List Bool} {g n : Nat} (h : g < n) : lf B g n = if B.getD g true then lf B (g + 1) n else g :: lf B (g + 1) n := by
  unfold lf
  obtain ⟨d, rfl⟩ : ∃ d, n = g + 1 + d := ⟨n - (g + 1), by omega⟩
  rw [show g + 1 + d - g = d + 1 by omega, show g + 1 + d - (g + 1) = d by omega, List.range'_succ, List.filter_cons]
  cases B.getD g true <;> simp
theorem lf_set {B : List Bool} {g n : Nat} (h : g < B.length) : lf (B.set g true) (g + 1) n = lf B (g + 1) n := by
  unfold lf
  refine List.filter_congr fun i hi => ?_
  have : g + 1 ≤ i := by have := List.mem_range'.mp hi; omega
  rw [getD_set _ _ _ _ _ h, if_neg (by omega)]
theorem lf_set2 {B : List Bool} {g o n : Nat} (hg : g < B.length) (ho : o < B.length) : lf ((B.set g true).set o true) (g + 1) n = (lf B (g + 1) n).filter (· != o) := by
  unfold lf
  rw [List.filter_filter]
  refine List.filter_congr fun i hi => ?_
  have : g + 1 ≤ i := by have := List.mem_range'.mp hi; omega
  rw [getD_set _ _ _ _ _ (by simpa using ho), getD_set _ _ _ _ _ hg, if_neg (show ¬ g = i by omega)]
  by_cases e : o = i
  · subst e; simp
  · have : (i != o) = true := by simp [Ne.symm e]
    rw [if_neg e, this]; simp
theorem lf_mem {B : List Bool} {g n i : Nat} : i ∈ lf B g n ↔ g ≤ i ∧ i < n ∧ B.getD i true = false := by
  unfold lf
  rw [List.mem_filter, List.mem_range'_1]
  constructor
  · rintro ⟨⟨a, b⟩, c⟩; exact ⟨a, by omega, by simpa using c⟩
  · rintro ⟨a, b, c⟩; exact ⟨⟨a, by omega⟩, by simpa using c⟩
theorem set_back {α : Type} {l : List α} {i : Nat} {x : α} (h : l[i]? = some x) (y : α) : (l.set i y).set i x = l := by
  rw [List.set_set]
  obtain ⟨hi, rfl⟩ := List.getElem?_eq_some_iff.mp h
  exact List.set_getElem_self hi
theorem getD_some {α : Type} {l : List α} {i : Nat} {d x : α} (hi : i < l.length) (h : l.getD i d = x) : l[i]? = some x := by
  rw [List.getD_eq_getElem?_getD, List.getElem?_eq_getElem hi] at h
  rw [List.getElem?_eq_getElem hi]; exact congrArg some h
theorem pair_back {M : Mt} {g o : Nat} (hg : M[g]? = some none) (ho : M[o]? = some none) (hne : g ≠ o) : ((pairM M g o).set g none).set o none = M := by
  unfold pairM
  rw [List.set_comm _ _ (Ne.symm hne), List.set_set, List.set_set]
  have e1 : M.set g none = M := by obtain ⟨q, e⟩ := List.getElem?_eq_some_iff.mp hg; rw [← e]; exact List.set_getElem_self q
  have e2 : M.set o none = M := by obtain ⟨q, e⟩ := List.getElem?_eq_some_iff.mp ho; rw [← e]; exact List.set_getElem_self q
  rw [e1, e2]
theorem sub_sum {l m : List Nat} (h : l.Sublist m) : l.sum ≤ m.sum := by
  induction h with
  | slnil => exact Nat.le_refl _
  | cons a _ ih => simp only [List.sum_cons]; omega
  | cons_cons a _ ih => simp only [List.sum_cons]; omega

section
variable {P : Prog} {b : Bool} {n : Nat} {Q : Post} {X : XP}

/-- as many as there are is few enough -/
noncomputable def room (bo : Nat → Nat → Bool) (k : Nat) (l : List Nat) (Xs : List Mt) : Prop := Xs.length + cnt bo k l < lim

set_option maxRecDepth 5000 in
theorem s_settled (hP : P.fn "settled" = some f_settled) (hP1 : P.fn "both_wish" = some f_both_wish) {H₀ : Hp} {w m t f : Nat} {W : List (List Int)} (hw : WH H₀ w W) (ok : WOk W) : ∀ (k : Nat) {H : Hp} {Q : Post} {g : Nat} {M : Mt} {B : List Bool} {Xs : List Mt},
    SS H₀ H m t f M B Xs → M.length = W.length → B.length = W.length → g ≤ W.length → (lf B g W.length).length ≤ k → (∀ i ∈ lf B g W.length, M.getD i none = none) → room (both W) k (lf B g W.length) Xs →
    (∀ H', SS H₀ H' m t f M B (Xs ++ twos (both W) k (lf B g W.length) M) → Q .none H') → callN P b (n + (k + 2)) "settled" [.ref w, .int (g : Int), .ref m, .ref t, .ref f] H Q X := by
  intro k
  induction k with
  | zero =>
    intro H Q g M B Xs ss lm lb hg hk hM hr h
    have hl0 : lf B g W.length = [] := List.length_eq_zero_iff.mp (Nat.le_zero.mp hk)
    rw [hl0] at h hr
    have hw' := hw.pre ss.pre
    (refine callN_in hP rfl ?_; unfold f_settled)
    refine wSs_step fun K hn hrr => ?_
    rw [s_while]
    refine wWhile_ex (fun d ρ H' => ∃ i : Nat, H' = H ∧ d = W.length - i ∧ i ≤ W.length ∧ lf B i W.length = [] ∧ ρ "wishes" = some (.ref w) ∧ ρ "guest" = some (.int (i : Int)) ∧ ρ "mates" = some (.ref m) ∧ ρ "met" = some (.ref t) ∧ ρ "found" = some (.ref f)) (m := W.length - g) ⟨g, rfl, rfl, hg, hl0, rfl, rfl, rfl, rfl, rfl⟩ fun d ρ H' hI k' h1 h2 => ?_
    obtain ⟨i, rfl, rfl, hi, hl, e1, e2, e3, e4, e5⟩ := hI
    (repeat (first | dsimp only [XI, XJ] | dsimp only [ZA,ZB,ZC,ZD,ZE,ZF,ZG,ZH,ZI,ZJ,ZK,ZL,ZM,ZN,ZO,ZP,ZQ,ZR,ZS,ZT,ZU,ZV,ZW,ZX,ZY,ZZ,Za,Zb,Zc,Zd,Ze,Zf,Zg,Zh,Zi,Zj,Zk,Zl,Zm,Zn,Zo,Zp,Zq,Zr,Zs,Zt,Zu,Zv,Zw,Zx,Zy,Zz,YA,YB,YC,YD,YE,YF,YG,YH,YI,YJ,YK,YL,YM,YN,YO,YP,YQ,YR,Env.set,cond_true,cond_false,String.reduceBEq,YS,YT,YU,YV,YW,YX,YY,YZ,Ya,Yb,Yc,Yd,Ye,Yf] | simp only [Yg,Yh,true_and,Yi,Yj,Yk,Yl,Ym,Yn,Yo,Yp,Yq,Yr,Yt,Yu,Yv,Yw,Yx,Yy,Yz,XA,XB,XC,XD,XE,beq_self_eq_true,reduceIte,reduceCtorEq,↓reduceIte,XF,XG,XH, e1, e2, e3, e4, e5, hw'.len]))
    refine ⟨fun q => ?_, fun q => ?_⟩
    · have hi' : i < W.length := by simp at q; exact q
      have hb : B.getD i true = true := by
        cases e : B.getD i true with
        | true => rfl
        | false => rw [lf_cons hi', e] at hl; simp at hl
      (repeat (first | dsimp only [XI, XJ] | dsimp only [ZA,ZB,ZC,ZD,ZE,ZF,ZG,ZH,ZI,ZJ,ZK,ZL,ZM,ZN,ZO,ZP,ZQ,ZR,ZS,ZT,ZU,ZV,ZW,ZX,ZY,ZZ,Za,Zb,Zc,Zd,Ze,Zf,Zg,Zh,Zi,Zj,Zk,Zl,Zm,Zn,Zo,Zp,Zq,Zr,Zs,Zt,Zu,Zv,Zw,Zx,Zy,Zz,YA,YB,YC,YD,YE,YF,YG,YH,YI,YJ,YK,YL,YM,YN,YO,YP,YQ,YR,Env.set,cond_true,cond_false,String.reduceBEq,YS,YT,YU,YV,YW,YX,YY,YZ,Ya,Yb,Yc,Yd,Ye,Yf] | simp only [Yg,Yh,true_and,Yi,Yj,Yk,Yl,Ym,Yn,Yo,Yp,Yq,Yr,Yt,Yu,Yv,Yw,Yx,Yy,Yz,XA,XB,XC,XD,XE,beq_self_eq_true,reduceIte,reduceCtorEq,↓reduceIte,XF,XG,XH, ss.itemB (show i < B.length by omega), hb, e2]))
      refine h1 _ _ _ ?_ ⟨i + 1, rfl, rfl, hi', ?_, by (repeat (first | dsimp only [XI, XJ] | dsimp only [ZA,ZB,ZC,ZD,ZE,ZF,ZG,ZH,ZI,ZJ,ZK,ZL,ZM,ZN,ZO,ZP,ZQ,ZR,ZS,ZT,ZU,ZV,ZW,ZX,ZY,ZZ,Za,Zb,Zc,Zd,Ze,Zf,Zg,Zh,Zi,Zj,Zk,Zl,Zm,Zn,Zo,Zp,Zq,Zr,Zs,Zt,Zu,Zv,Zw,Zx,Zy,Zz,YA,YB,YC,YD,YE,YF,YG,YH,YI,YJ,YK,YL,YM,YN,YO,YP,YQ,YR,Env.set,cond_true,cond_false,String.reduceBEq,YS,YT,YU,YV,YW,YX,YY,YZ,Ya,Yb,Yc,Yd,Ye,Yf] | simp only [Yg,Yh,true_and,Yi,Yj,Yk,Yl,Ym,Yn,Yo,Yp,Yq,Yr,Yt,Yu,Yv,Yw,Yx,Yy,Yz,XA,XB,XC,XD,XE,beq_self_eq_true,reduceIte,reduceCtorEq,↓reduceIte,XF,XG,XH, e1])), by (repeat (first | dsimp only [XI, XJ] | dsimp only [ZA,ZB,ZC,ZD,ZE,ZF,ZG,ZH,ZI,ZJ,ZK,ZL,ZM,ZN,ZO,ZP,ZQ,ZR,ZS,ZT,ZU,ZV,ZW,ZX,ZY,ZZ,Za,Zb,Zc,Zd,Ze,Zf,Zg,Zh,Zi,Zj,Zk,Zl,Zm,Zn,Zo,Zp,Zq,Zr,Zs,Zt,Zu,Zv,Zw,Zx,Zy,Zz,YA,YB,YC,YD,YE,YF,YG,YH,YI,YJ,YK,YL,YM,YN,YO,YP,YQ,YR,Env.set,cond_true,cond_false,String.reduceBEq,YS,YT,YU,YV,YW,YX,YY,YZ,Ya,Yb,Yc,Yd,Ye,Yf] | simp only [Yg,Yh,true_and,Yi,Yj,Yk,Yl,Ym,Yn,Yo,Yp,Yq,Yr,Yt,Yu,Yv,Yw,Yx,Yy,Yz,XA,XB,XC,XD,XE,beq_self_eq_true,reduceIte,reduceCtorEq,↓reduceIte,XF,XG,XH, e2])); rfl, by (repeat (first | dsimp only [XI, XJ] | dsimp only [ZA,ZB,ZC,ZD,ZE,ZF,ZG,ZH,ZI,ZJ,ZK,ZL,ZM,ZN,ZO,ZP,ZQ,ZR,ZS,ZT,ZU,ZV,ZW,ZX,ZY,ZZ,Za,Zb,Zc,Zd,Ze,Zf,Zg,Zh,Zi,Zj,Zk,Zl,Zm,Zn,Zo,Zp,Zq,Zr,Zs,Zt,Zu,Zv,Zw,Zx,Zy,Zz,YA,YB,YC,YD,YE,YF,YG,YH,YI,YJ,YK,YL,YM,YN,YO,YP,YQ,YR,Env.set,cond_true,cond_false,String.reduceBEq,YS,YT,YU,YV,YW,YX,YY,YZ,Ya,Yb,Yc,Yd,Ye,Yf] | simp only [Yg,Yh,true_and,Yi,Yj,Yk,Yl,Ym,Yn,Yo,Yp,Yq,Yr,Yt,Yu,Yv,Yw,Yx,Yy,Yz,XA,XB,XC,XD,XE,beq_self_eq_true,reduceIte,reduceCtorEq,↓reduceIte,XF,XG,XH, e3])), by (repeat (first | dsimp only [XI, XJ] | dsimp only [ZA,ZB,ZC,ZD,ZE,ZF,ZG,ZH,ZI,ZJ,ZK,ZL,ZM,ZN,ZO,ZP,ZQ,ZR,ZS,ZT,ZU,ZV,ZW,ZX,ZY,ZZ,Za,Zb,Zc,Zd,Ze,Zf,Zg,Zh,Zi,Zj,Zk,Zl,Zm,Zn,Zo,Zp,Zq,Zr,Zs,Zt,Zu,Zv,Zw,Zx,Zy,Zz,YA,YB,YC,YD,YE,YF,YG,YH,YI,YJ,YK,YL,YM,YN,YO,YP,YQ,YR,Env.set,cond_true,cond_false,String.reduceBEq,YS,YT,YU,YV,YW,YX,YY,YZ,Ya,Yb,Yc,Yd,Ye,Yf] | simp only [Yg,Yh,true_and,Yi,Yj,Yk,Yl,Ym,Yn,Yo,Yp,Yq,Yr,Yt,Yu,Yv,Yw,Yx,Yy,Yz,XA,XB,XC,XD,XE,beq_self_eq_true,reduceIte,reduceCtorEq,↓reduceIte,XF,XG,XH, e4])), by (repeat (first | dsimp only [XI, XJ] | dsimp only [ZA,ZB,ZC,ZD,ZE,ZF,ZG,ZH,ZI,ZJ,ZK,ZL,ZM,ZN,ZO,ZP,ZQ,ZR,ZS,ZT,ZU,ZV,ZW,ZX,ZY,ZZ,Za,Zb,Zc,Zd,Ze,Zf,Zg,Zh,Zi,Zj,Zk,Zl,Zm,Zn,Zo,Zp,Zq,Zr,Zs,Zt,Zu,Zv,Zw,Zx,Zy,Zz,YA,YB,YC,YD,YE,YF,YG,YH,YI,YJ,YK,YL,YM,YN,YO,YP,YQ,YR,Env.set,cond_true,cond_false,String.reduceBEq,YS,YT,YU,YV,YW,YX,YY,YZ,Ya,Yb,Yc,Yd,Ye,Yf] | simp only [Yg,Yh,true_and,Yi,Yj,Yk,Yl,Ym,Yn,Yo,Yp,Yq,Yr,Yt,Yu,Yv,Yw,Yx,Yy,Yz,XA,XB,XC,XD,XE,beq_self_eq_true,reduceIte,reduceCtorEq,↓reduceIte,XF,XG,XH, e5]))⟩
      · omega
      · rw [lf_cons hi', hb] at hl; simpa using hl
    · have hi' : i = W.length := by simp at q; omega
      subst hi'
      (repeat (first | dsimp only [XI, XJ] | dsimp only [ZA,ZB,ZC,ZD,ZE,ZF,ZG,ZH,ZI,ZJ,ZK,ZL,ZM,ZN,ZO,ZP,ZQ,ZR,ZS,ZT,ZU,ZV,ZW,ZX,ZY,ZZ,Za,Zb,Zc,Zd,Ze,Zf,Zg,Zh,Zi,Zj,Zk,Zl,Zm,Zn,Zo,Zp,Zq,Zr,Zs,Zt,Zu,Zv,Zw,Zx,Zy,Zz,YA,YB,YC,YD,YE,YF,YG,YH,YI,YJ,YK,YL,YM,YN,YO,YP,YQ,YR,Env.set,cond_true,cond_false,String.reduceBEq,YS,YT,YU,YV,YW,YX,YY,YZ,Ya,Yb,Yc,Yd,Ye,Yf] | simp only [Yg,Yh,true_and,Yi,Yj,Yk,Yl,Ym,Yn,Yo,Yp,Yq,Yr,Yt,Yu,Yv,Yw,Yx,Yy,Yz,XA,XB,XC,XD,XE,beq_self_eq_true,reduceIte,reduceCtorEq,↓reduceIte,XF,XG,XH]))
      refine hn _ _ ?_
      obtain ⟨H2, p1, p2⟩ := ss.push (by unfold room cnt at hr; omega)
      obtain ⟨fs, f1, _⟩ := ss.hf
      (repeat (first | dsimp only [XI, XJ] | dsimp only [ZA,ZB,ZC,ZD,ZE,ZF,ZG,ZH,ZI,ZJ,ZK,ZL,ZM,ZN,ZO,ZP,ZQ,ZR,ZS,ZT,ZU,ZV,ZW,ZX,ZY,ZZ,Za,Zb,Zc,Zd,Ze,Zf,Zg,Zh,Zi,Zj,Zk,Zl,Zm,Zn,Zo,Zp,Zq,Zr,Zs,Zt,Zu,Zv,Zw,Zx,Zy,Zz,YA,YB,YC,YD,YE,YF,YG,YH,YI,YJ,YK,YL,YM,YN,YO,YP,YQ,YR,Env.set,cond_true,cond_false,String.reduceBEq,YS,YT,YU,YV,YW,YX,YY,YZ,Ya,Yb,Yc,Yd,Ye,Yf] | simp only [Yg,Yh,true_and,Yi,Yj,Yk,Yl,Ym,Yn,Yo,Yp,Yq,Yr,Yt,Yu,Yv,Yw,Yx,Yy,Yz,XA,XB,XC,XD,XE,beq_self_eq_true,reduceIte,reduceCtorEq,↓reduceIte,XF,XG,XH, e1, e2, e3, e4, e5, hw'.len, seqOf_list ss.hm, (recvL f1).1, p1]))
      exact h _ p2
  | succ k ih =>
    intro H Q g M B Xs ss lm lb hg hk hM hr h
    have hw' := hw.pre ss.pre
    have l6 := ok.le
    have hll : W.length ≤ lim := Nat.le_trans ok.le (by decide)
    (refine callN_in hP rfl ?_; unfold f_settled)
    refine wSs_step fun K hn hrr => ?_
    rw [s_while]
    refine wWhile_ex (fun d ρ H' => ∃ i : Nat, H' = H ∧ d = W.length - i ∧ i ≤ W.length ∧ lf B i W.length = lf B g W.length ∧ ρ "wishes" = some (.ref w) ∧ ρ "guest" = some (.int (i : Int)) ∧ ρ "mates" = some (.ref m) ∧ ρ "met" = some (.ref t) ∧ ρ "found" = some (.ref f)) (m := W.length - g) ⟨g, rfl, rfl, hg, rfl, rfl, rfl, rfl, rfl, rfl⟩ fun d ρ H' hI k' h1 h2 => ?_
    obtain ⟨i, rfl, rfl, hi, hl, e1, e2, e3, e4, e5⟩ := hI
    (repeat (first | dsimp only [XI, XJ] | dsimp only [ZA,ZB,ZC,ZD,ZE,ZF,ZG,ZH,ZI,ZJ,ZK,ZL,ZM,ZN,ZO,ZP,ZQ,ZR,ZS,ZT,ZU,ZV,ZW,ZX,ZY,ZZ,Za,Zb,Zc,Zd,Ze,Zf,Zg,Zh,Zi,Zj,Zk,Zl,Zm,Zn,Zo,Zp,Zq,Zr,Zs,Zt,Zu,Zv,Zw,Zx,Zy,Zz,YA,YB,YC,YD,YE,YF,YG,YH,YI,YJ,YK,YL,YM,YN,YO,YP,YQ,YR,Env.set,cond_true,cond_false,String.reduceBEq,YS,YT,YU,YV,YW,YX,YY,YZ,Ya,Yb,Yc,Yd,Ye,Yf] | simp only [Yg,Yh,true_and,Yi,Yj,Yk,Yl,Ym,Yn,Yo,Yp,Yq,Yr,Yt,Yu,Yv,Yw,Yx,Yy,Yz,XA,XB,XC,XD,XE,beq_self_eq_true,reduceIte,reduceCtorEq,↓reduceIte,XF,XG,XH, e1, e2, e3, e4, e5, hw'.len]))
    refine ⟨fun q => ?_, fun q => ?_⟩
    · have hi' : i < W.length := by simp at q; exact q
      (repeat (first | dsimp only [XI, XJ] | dsimp only [ZA,ZB,ZC,ZD,ZE,ZF,ZG,ZH,ZI,ZJ,ZK,ZL,ZM,ZN,ZO,ZP,ZQ,ZR,ZS,ZT,ZU,ZV,ZW,ZX,ZY,ZZ,Za,Zb,Zc,Zd,Ze,Zf,Zg,Zh,Zi,Zj,Zk,Zl,Zm,Zn,Zo,Zp,Zq,Zr,Zs,Zt,Zu,Zv,Zw,Zx,Zy,Zz,YA,YB,YC,YD,YE,YF,YG,YH,YI,YJ,YK,YL,YM,YN,YO,YP,YQ,YR,Env.set,cond_true,cond_false,String.reduceBEq,YS,YT,YU,YV,YW,YX,YY,YZ,Ya,Yb,Yc,Yd,Ye,Yf] | simp only [Yg,Yh,true_and,Yi,Yj,Yk,Yl,Ym,Yn,Yo,Yp,Yq,Yr,Yt,Yu,Yv,Yw,Yx,Yy,Yz,XA,XB,XC,XD,XE,beq_self_eq_true,reduceIte,reduceCtorEq,↓reduceIte,XF,XG,XH, ss.itemB (show i < B.length by omega)]))
      cases hb : B.getD i true with
      | true =>
        (repeat (first | dsimp only [XI, XJ] | dsimp only [ZA,ZB,ZC,ZD,ZE,ZF,ZG,ZH,ZI,ZJ,ZK,ZL,ZM,ZN,ZO,ZP,ZQ,ZR,ZS,ZT,ZU,ZV,ZW,ZX,ZY,ZZ,Za,Zb,Zc,Zd,Ze,Zf,Zg,Zh,Zi,Zj,Zk,Zl,Zm,Zn,Zo,Zp,Zq,Zr,Zs,Zt,Zu,Zv,Zw,Zx,Zy,Zz,YA,YB,YC,YD,YE,YF,YG,YH,YI,YJ,YK,YL,YM,YN,YO,YP,YQ,YR,Env.set,cond_true,cond_false,String.reduceBEq,YS,YT,YU,YV,YW,YX,YY,YZ,Ya,Yb,Yc,Yd,Ye,Yf] | simp only [Yg,Yh,true_and,Yi,Yj,Yk,Yl,Ym,Yn,Yo,Yp,Yq,Yr,Yt,Yu,Yv,Yw,Yx,Yy,Yz,XA,XB,XC,XD,XE,beq_self_eq_true,reduceIte,reduceCtorEq,↓reduceIte,XF,XG,XH, e2]))
        refine h1 _ _ _ ?_ ⟨i + 1, rfl, rfl, hi', ?_, by (repeat (first | dsimp only [XI, XJ] | dsimp only [ZA,ZB,ZC,ZD,ZE,ZF,ZG,ZH,ZI,ZJ,ZK,ZL,ZM,ZN,ZO,ZP,ZQ,ZR,ZS,ZT,ZU,ZV,ZW,ZX,ZY,ZZ,Za,Zb,Zc,Zd,Ze,Zf,Zg,Zh,Zi,Zj,Zk,Zl,Zm,Zn,Zo,Zp,Zq,Zr,Zs,Zt,Zu,Zv,Zw,Zx,Zy,Zz,YA,YB,YC,YD,YE,YF,YG,YH,YI,YJ,YK,YL,YM,YN,YO,YP,YQ,YR,Env.set,cond_true,cond_false,String.reduceBEq,YS,YT,YU,YV,YW,YX,YY,YZ,Ya,Yb,Yc,Yd,Ye,Yf] | simp only [Yg,Yh,true_and,Yi,Yj,Yk,Yl,Ym,Yn,Yo,Yp,Yq,Yr,Yt,Yu,Yv,Yw,Yx,Yy,Yz,XA,XB,XC,XD,XE,beq_self_eq_true,reduceIte,reduceCtorEq,↓reduceIte,XF,XG,XH, e1])), by (repeat (first | dsimp only [XI, XJ] | dsimp only [ZA,ZB,ZC,ZD,ZE,ZF,ZG,ZH,ZI,ZJ,ZK,ZL,ZM,ZN,ZO,ZP,ZQ,ZR,ZS,ZT,ZU,ZV,ZW,ZX,ZY,ZZ,Za,Zb,Zc,Zd,Ze,Zf,Zg,Zh,Zi,Zj,Zk,Zl,Zm,Zn,Zo,Zp,Zq,Zr,Zs,Zt,Zu,Zv,Zw,Zx,Zy,Zz,YA,YB,YC,YD,YE,YF,YG,YH,YI,YJ,YK,YL,YM,YN,YO,YP,YQ,YR,Env.set,cond_true,cond_false,String.reduceBEq,YS,YT,YU,YV,YW,YX,YY,YZ,Ya,Yb,Yc,Yd,Ye,Yf] | simp only [Yg,Yh,true_and,Yi,Yj,Yk,Yl,Ym,Yn,Yo,Yp,Yq,Yr,Yt,Yu,Yv,Yw,Yx,Yy,Yz,XA,XB,XC,XD,XE,beq_self_eq_true,reduceIte,reduceCtorEq,↓reduceIte,XF,XG,XH, e2])); rfl, by (repeat (first | dsimp only [XI, XJ] | dsimp only [ZA,ZB,ZC,ZD,ZE,ZF,ZG,ZH,ZI,ZJ,ZK,ZL,ZM,ZN,ZO,ZP,ZQ,ZR,ZS,ZT,ZU,ZV,ZW,ZX,ZY,ZZ,Za,Zb,Zc,Zd,Ze,Zf,Zg,Zh,Zi,Zj,Zk,Zl,Zm,Zn,Zo,Zp,Zq,Zr,Zs,Zt,Zu,Zv,Zw,Zx,Zy,Zz,YA,YB,YC,YD,YE,YF,YG,YH,YI,YJ,YK,YL,YM,YN,YO,YP,YQ,YR,Env.set,cond_true,cond_false,String.reduceBEq,YS,YT,YU,YV,YW,YX,YY,YZ,Ya,Yb,Yc,Yd,Ye,Yf] | simp only [Yg,Yh,true_and,Yi,Yj,Yk,Yl,Ym,Yn,Yo,Yp,Yq,Yr,Yt,Yu,Yv,Yw,Yx,Yy,Yz,XA,XB,XC,XD,XE,beq_self_eq_true,reduceIte,reduceCtorEq,↓reduceIte,XF,XG,XH, e3])), by (repeat (first | dsimp only [XI, XJ] | dsimp only [ZA,ZB,ZC,ZD,ZE,ZF,ZG,ZH,ZI,ZJ,ZK,ZL,ZM,ZN,ZO,ZP,ZQ,ZR,ZS,ZT,ZU,ZV,ZW,ZX,ZY,ZZ,Za,Zb,Zc,Zd,Ze,Zf,Zg,Zh,Zi,Zj,Zk,Zl,Zm,Zn,Zo,Zp,Zq,Zr,Zs,Zt,Zu,Zv,Zw,Zx,Zy,Zz,YA,YB,YC,YD,YE,YF,YG,YH,YI,YJ,YK,YL,YM,YN,YO,YP,YQ,YR,Env.set,cond_true,cond_false,String.reduceBEq,YS,YT,YU,YV,YW,YX,YY,YZ,Ya,Yb,Yc,Yd,Ye,Yf] | simp only [Yg,Yh,true_and,Yi,Yj,Yk,Yl,Ym,Yn,Yo,Yp,Yq,Yr,Yt,Yu,Yv,Yw,Yx,Yy,Yz,XA,XB,XC,XD,XE,beq_self_eq_true,reduceIte,reduceCtorEq,↓reduceIte,XF,XG,XH, e4])), by (repeat (first | dsimp only [XI, XJ] | dsimp only [ZA,ZB,ZC,ZD,ZE,ZF,ZG,ZH,ZI,ZJ,ZK,ZL,ZM,ZN,ZO,ZP,ZQ,ZR,ZS,ZT,ZU,ZV,ZW,ZX,ZY,ZZ,Za,Zb,Zc,Zd,Ze,Zf,Zg,Zh,Zi,Zj,Zk,Zl,Zm,Zn,Zo,Zp,Zq,Zr,Zs,Zt,Zu,Zv,Zw,Zx,Zy,Zz,YA,YB,YC,YD,YE,YF,YG,YH,YI,YJ,YK,YL,YM,YN,YO,YP,YQ,YR,Env.set,cond_true,cond_false,String.reduceBEq,YS,YT,YU,YV,YW,YX,YY,YZ,Ya,Yb,Yc,Yd,Ye,Yf] | simp only [Yg,Yh,true_and,Yi,Yj,Yk,Yl,Ym,Yn,Yo,Yp,Yq,Yr,Yt,Yu,Yv,Yw,Yx,Yy,Yz,XA,XB,XC,XD,XE,beq_self_eq_true,reduceIte,reduceCtorEq,↓reduceIte,XF,XG,XH, e5]))⟩
        · omega
        · rw [lf_cons hi', hb] at hl; simpa using hl
      | false =>
        (repeat (first | dsimp only [XI, XJ] | dsimp only [ZA,ZB,ZC,ZD,ZE,ZF,ZG,ZH,ZI,ZJ,ZK,ZL,ZM,ZN,ZO,ZP,ZQ,ZR,ZS,ZT,ZU,ZV,ZW,ZX,ZY,ZZ,Za,Zb,Zc,Zd,Ze,Zf,Zg,Zh,Zi,Zj,Zk,Zl,Zm,Zn,Zo,Zp,Zq,Zr,Zs,Zt,Zu,Zv,Zw,Zx,Zy,Zz,YA,YB,YC,YD,YE,YF,YG,YH,YI,YJ,YK,YL,YM,YN,YO,YP,YQ,YR,Env.set,cond_true,cond_false,String.reduceBEq,YS,YT,YU,YV,YW,YX,YY,YZ,Ya,Yb,Yc,Yd,Ye,Yf] | simp only [Yg,Yh,true_and,Yi,Yj,Yk,Yl,Ym,Yn,Yo,Yp,Yq,Yr,Yt,Yu,Yv,Yw,Yx,Yy,Yz,XA,XB,XC,XD,XE,beq_self_eq_true,reduceIte,reduceCtorEq,↓reduceIte,XF,XG,XH]))
        refine hn _ _ ?_
        clear hn hrr h1 h2 q
        have hlc : lf B g W.length = i :: lf B (i + 1) W.length := by rw [← hl, lf_cons hi', hb]; simp
        rw [hlc] at hk hM hr h
        clear hl hlc
        have hne : ((i : Int) == (W.length : Int)) = false := beq_eq_false_iff_ne.mpr (by omega)
        have hBi : B[i]? = some false := getD_some (by omega) hb
        have hMi : M[i]? = some none := getD_some (by omega) (hM i (.head _))
        have ec : (i : Int) + 1 = ((i + 1 : Nat) : Int) := by omega
        have hrk : room (both W) k (lf B (i + 1) W.length) Xs := by unfold room cnt at hr; unfold room; omega
        have hkk : (lf B (i + 1) W.length).length ≤ k := by simp at hk; omega
        obtain ⟨H1, s1, ss1⟩ := ss.setB (show i < B.length by omega) true
        (repeat (first | dsimp only [XI, XJ] | dsimp only [ZA,ZB,ZC,ZD,ZE,ZF,ZG,ZH,ZI,ZJ,ZK,ZL,ZM,ZN,ZO,ZP,ZQ,ZR,ZS,ZT,ZU,ZV,ZW,ZX,ZY,ZZ,Za,Zb,Zc,Zd,Ze,Zf,Zg,Zh,Zi,Zj,Zk,Zl,Zm,Zn,Zo,Zp,Zq,Zr,Zs,Zt,Zu,Zv,Zw,Zx,Zy,Zz,YA,YB,YC,YD,YE,YF,YG,YH,YI,YJ,YK,YL,YM,YN,YO,YP,YQ,YR,Env.set,cond_true,cond_false,String.reduceBEq,YS,YT,YU,YV,YW,YX,YY,YZ,Ya,Yb,Yc,Yd,Ye,Yf] | simp only [Yg,Yh,true_and,Yi,Yj,Yk,Yl,Ym,Yn,Yo,Yp,Yq,Yr,Yt,Yu,Yv,Yw,Yx,Yy,Yz,XA,XB,XC,XD,XE,beq_self_eq_true,reduceIte,reduceCtorEq,↓reduceIte,XF,XG,XH, e1, e2, e3, e4, e5, hw'.len, hne, s1, ec]))
        have l1 := lf_set (B := B) (g := i) (n := W.length) (by omega)
        refine ih ss1 lm (by simpa using lb) hi' (by rw [l1]; exact hkk) (by rw [l1]; exact fun j hj => hM j (.tail _ hj)) (by rw [l1]; exact hrk) fun H2 ss2 => ?_
        rw [l1] at ss2
        have hw2 := hw.pre ss2.pre
        (repeat (first | dsimp only [XI, XJ] | dsimp only [ZA,ZB,ZC,ZD,ZE,ZF,ZG,ZH,ZI,ZJ,ZK,ZL,ZM,ZN,ZO,ZP,ZQ,ZR,ZS,ZT,ZU,ZV,ZW,ZX,ZY,ZZ,Za,Zb,Zc,Zd,Ze,Zf,Zg,Zh,Zi,Zj,Zk,Zl,Zm,Zn,Zo,Zp,Zq,Zr,Zs,Zt,Zu,Zv,Zw,Zx,Zy,Zz,YA,YB,YC,YD,YE,YF,YG,YH,YI,YJ,YK,YL,YM,YN,YO,YP,YQ,YR,Env.set,cond_true,cond_false,String.reduceBEq,YS,YT,YU,YV,YW,YX,YY,YZ,Ya,Yb,Yc,Yd,Ye,Yf] | simp only [Yg,Yh,true_and,Yi,Yj,Yk,Yl,Ym,Yn,Yo,Yp,Yq,Yr,Yt,Yu,Yv,Yw,Yx,Yy,Yz,XA,XB,XC,XD,XE,beq_self_eq_true,reduceIte,reduceCtorEq,↓reduceIte,XF,XG,XH, e1, e2, hw2.len, ec, range2_nat (show i + 1 ≤ lim by omega) hll, rangeI_rng2]))
        have F : ∀ d, d ≤ W.length - (i + 1) → (((List.range' (i + 1) d).filter fun i => !B.getD i true).filter (both W i)).Sublist ((lf B (i + 1) W.length).filter (both W i)) := fun d hd => by
          refine List.Sublist.filter _ (List.Sublist.filter _ ?_)
          obtain ⟨d', e⟩ : ∃ d', W.length - (i + 1) = d + d' := ⟨_, (Nat.add_sub_of_le hd).symm⟩
          rw [e, ← List.range'_append_1]
          exact List.sublist_append_left _ _
        refine wFor_idx (fun d ρ H' => SS H₀ H' m t f M (B.set i true) (Xs ++ twos (both W) k (lf B (i + 1) W.length) M ++ (((List.range' (i + 1) d).filter fun i => !B.getD i true).filter (both W i)).flatMap fun o => twos (both W) k ((lf B (i + 1) W.length).filter (· != o)) (pairM M i o)) ∧
          ρ "wishes" = some (.ref w) ∧ ρ "guest" = some (.int (i : Int)) ∧ ρ "mates" = some (.ref m) ∧ ρ "met" = some (.ref t) ∧ ρ "found" = some (.ref f)) ⟨by simpa using ss2, e1, e2, e3, e4, e5⟩ (fun d v ρ H' hv hI => ⟨trivial, fun k' h1 h2 => ?_⟩) fun ρ H' hI => ⟨trivial, ?_⟩
        · obtain ⟨hd, rfl⟩ := rng2_get hv
          obtain ⟨ss3, e1, e2, e3, e4, e5⟩ := hI
          have hw3 := hw.pre ss3.pre
          have it := ss3.itemB (i := i + 1 + d) (by simp; omega)
          rw [getD_set _ _ _ _ _ (by omega), if_neg (by omega)] at it
          have step : ((List.range' (i + 1) (d + 1)).filter fun i => !B.getD i true).filter (both W i) = ((List.range' (i + 1) d).filter fun i => !B.getD i true).filter (both W i) ++ if !B.getD (i + 1 + d) true && both W i (i + 1 + d) then [i + 1 + d] else [] := by
            rw [List.range'_1_concat, List.filter_append, List.filter_append]
            congr 1
            cases hB : B.getD (i + 1 + d) true <;> cases hq : both W i (i + 1 + d) <;> simp only [List.filter, hB, hq, Bool.not_true, Bool.not_false, Bool.false_and, Bool.true_and, if_true, if_false, Bool.false_eq_true]
          have skip : (!B.getD (i + 1 + d) true && both W i (i + 1 + d)) = false → k' none (ρ.set "other" (.int ((i + 1 + d : Nat) : Int))) H' := fun q => by
            refine h1 _ _ ⟨?_, by (repeat (first | dsimp only [XI, XJ] | dsimp only [ZA,ZB,ZC,ZD,ZE,ZF,ZG,ZH,ZI,ZJ,ZK,ZL,ZM,ZN,ZO,ZP,ZQ,ZR,ZS,ZT,ZU,ZV,ZW,ZX,ZY,ZZ,Za,Zb,Zc,Zd,Ze,Zf,Zg,Zh,Zi,Zj,Zk,Zl,Zm,Zn,Zo,Zp,Zq,Zr,Zs,Zt,Zu,Zv,Zw,Zx,Zy,Zz,YA,YB,YC,YD,YE,YF,YG,YH,YI,YJ,YK,YL,YM,YN,YO,YP,YQ,YR,Env.set,cond_true,cond_false,String.reduceBEq,YS,YT,YU,YV,YW,YX,YY,YZ,Ya,Yb,Yc,Yd,Ye,Yf] | simp only [Yg,Yh,true_and,Yi,Yj,Yk,Yl,Ym,Yn,Yo,Yp,Yq,Yr,Yt,Yu,Yv,Yw,Yx,Yy,Yz,XA,XB,XC,XD,XE,beq_self_eq_true,reduceIte,reduceCtorEq,↓reduceIte,XF,XG,XH, e1])), by (repeat (first | dsimp only [XI, XJ] | dsimp only [ZA,ZB,ZC,ZD,ZE,ZF,ZG,ZH,ZI,ZJ,ZK,ZL,ZM,ZN,ZO,ZP,ZQ,ZR,ZS,ZT,ZU,ZV,ZW,ZX,ZY,ZZ,Za,Zb,Zc,Zd,Ze,Zf,Zg,Zh,Zi,Zj,Zk,Zl,Zm,Zn,Zo,Zp,Zq,Zr,Zs,Zt,Zu,Zv,Zw,Zx,Zy,Zz,YA,YB,YC,YD,YE,YF,YG,YH,YI,YJ,YK,YL,YM,YN,YO,YP,YQ,YR,Env.set,cond_true,cond_false,String.reduceBEq,YS,YT,YU,YV,YW,YX,YY,YZ,Ya,Yb,Yc,Yd,Ye,Yf] | simp only [Yg,Yh,true_and,Yi,Yj,Yk,Yl,Ym,Yn,Yo,Yp,Yq,Yr,Yt,Yu,Yv,Yw,Yx,Yy,Yz,XA,XB,XC,XD,XE,beq_self_eq_true,reduceIte,reduceCtorEq,↓reduceIte,XF,XG,XH, e2])), by (repeat (first | dsimp only [XI, XJ] | dsimp only [ZA,ZB,ZC,ZD,ZE,ZF,ZG,ZH,ZI,ZJ,ZK,ZL,ZM,ZN,ZO,ZP,ZQ,ZR,ZS,ZT,ZU,ZV,ZW,ZX,ZY,ZZ,Za,Zb,Zc,Zd,Ze,Zf,Zg,Zh,Zi,Zj,Zk,Zl,Zm,Zn,Zo,Zp,Zq,Zr,Zs,Zt,Zu,Zv,Zw,Zx,Zy,Zz,YA,YB,YC,YD,YE,YF,YG,YH,YI,YJ,YK,YL,YM,YN,YO,YP,YQ,YR,Env.set,cond_true,cond_false,String.reduceBEq,YS,YT,YU,YV,YW,YX,YY,YZ,Ya,Yb,Yc,Yd,Ye,Yf] | simp only [Yg,Yh,true_and,Yi,Yj,Yk,Yl,Ym,Yn,Yo,Yp,Yq,Yr,Yt,Yu,Yv,Yw,Yx,Yy,Yz,XA,XB,XC,XD,XE,beq_self_eq_true,reduceIte,reduceCtorEq,↓reduceIte,XF,XG,XH, e3])), by (repeat (first | dsimp only [XI, XJ] | dsimp only [ZA,ZB,ZC,ZD,ZE,ZF,ZG,ZH,ZI,ZJ,ZK,ZL,ZM,ZN,ZO,ZP,ZQ,ZR,ZS,ZT,ZU,ZV,ZW,ZX,ZY,ZZ,Za,Zb,Zc,Zd,Ze,Zf,Zg,Zh,Zi,Zj,Zk,Zl,Zm,Zn,Zo,Zp,Zq,Zr,Zs,Zt,Zu,Zv,Zw,Zx,Zy,Zz,YA,YB,YC,YD,YE,YF,YG,YH,YI,YJ,YK,YL,YM,YN,YO,YP,YQ,YR,Env.set,cond_true,cond_false,String.reduceBEq,YS,YT,YU,YV,YW,YX,YY,YZ,Ya,Yb,Yc,Yd,Ye,Yf] | simp only [Yg,Yh,true_and,Yi,Yj,Yk,Yl,Ym,Yn,Yo,Yp,Yq,Yr,Yt,Yu,Yv,Yw,Yx,Yy,Yz,XA,XB,XC,XD,XE,beq_self_eq_true,reduceIte,reduceCtorEq,↓reduceIte,XF,XG,XH, e4])), by (repeat (first | dsimp only [XI, XJ] | dsimp only [ZA,ZB,ZC,ZD,ZE,ZF,ZG,ZH,ZI,ZJ,ZK,ZL,ZM,ZN,ZO,ZP,ZQ,ZR,ZS,ZT,ZU,ZV,ZW,ZX,ZY,ZZ,Za,Zb,Zc,Zd,Ze,Zf,Zg,Zh,Zi,Zj,Zk,Zl,Zm,Zn,Zo,Zp,Zq,Zr,Zs,Zt,Zu,Zv,Zw,Zx,Zy,Zz,YA,YB,YC,YD,YE,YF,YG,YH,YI,YJ,YK,YL,YM,YN,YO,YP,YQ,YR,Env.set,cond_true,cond_false,String.reduceBEq,YS,YT,YU,YV,YW,YX,YY,YZ,Ya,Yb,Yc,Yd,Ye,Yf] | simp only [Yg,Yh,true_and,Yi,Yj,Yk,Yl,Ym,Yn,Yo,Yp,Yq,Yr,Yt,Yu,Yv,Yw,Yx,Yy,Yz,XA,XB,XC,XD,XE,beq_self_eq_true,reduceIte,reduceCtorEq,↓reduceIte,XF,XG,XH, e5]))⟩
            rw [step, q]; simpa using ss3
          (repeat (first | dsimp only [XI, XJ] | dsimp only [ZA,ZB,ZC,ZD,ZE,ZF,ZG,ZH,ZI,ZJ,ZK,ZL,ZM,ZN,ZO,ZP,ZQ,ZR,ZS,ZT,ZU,ZV,ZW,ZX,ZY,ZZ,Za,Zb,Zc,Zd,Ze,Zf,Zg,Zh,Zi,Zj,Zk,Zl,Zm,Zn,Zo,Zp,Zq,Zr,Zs,Zt,Zu,Zv,Zw,Zx,Zy,Zz,YA,YB,YC,YD,YE,YF,YG,YH,YI,YJ,YK,YL,YM,YN,YO,YP,YQ,YR,Env.set,cond_true,cond_false,String.reduceBEq,YS,YT,YU,YV,YW,YX,YY,YZ,Ya,Yb,Yc,Yd,Ye,Yf] | simp only [Yg,Yh,true_and,Yi,Yj,Yk,Yl,Ym,Yn,Yo,Yp,Yq,Yr,Yt,Yu,Yv,Yw,Yx,Yy,Yz,XA,XB,XC,XD,XE,beq_self_eq_true,reduceIte,reduceCtorEq,↓reduceIte,XF,XG,XH, e1, e2, e3, e4, e5, it]))
          cases hb2 : B.getD (i + 1 + d) true with
          | true => (repeat (first | dsimp only [XI, XJ] | dsimp only [ZA,ZB,ZC,ZD,ZE,ZF,ZG,ZH,ZI,ZJ,ZK,ZL,ZM,ZN,ZO,ZP,ZQ,ZR,ZS,ZT,ZU,ZV,ZW,ZX,ZY,ZZ,Za,Zb,Zc,Zd,Ze,Zf,Zg,Zh,Zi,Zj,Zk,Zl,Zm,Zn,Zo,Zp,Zq,Zr,Zs,Zt,Zu,Zv,Zw,Zx,Zy,Zz,YA,YB,YC,YD,YE,YF,YG,YH,YI,YJ,YK,YL,YM,YN,YO,YP,YQ,YR,Env.set,cond_true,cond_false,String.reduceBEq,YS,YT,YU,YV,YW,YX,YY,YZ,Ya,Yb,Yc,Yd,Ye,Yf] | simp only [Yg,Yh,true_and,Yi,Yj,Yk,Yl,Ym,Yn,Yo,Yp,Yq,Yr,Yt,Yu,Yv,Yw,Yx,Yy,Yz,XA,XB,XC,XD,XE,beq_self_eq_true,reduceIte,reduceCtorEq,↓reduceIte,XF,XG,XH])); exact skip (by rw [hb2]; rfl)
          | false =>
            (repeat (first | dsimp only [XI, XJ] | dsimp only [ZA,ZB,ZC,ZD,ZE,ZF,ZG,ZH,ZI,ZJ,ZK,ZL,ZM,ZN,ZO,ZP,ZQ,ZR,ZS,ZT,ZU,ZV,ZW,ZX,ZY,ZZ,Za,Zb,Zc,Zd,Ze,Zf,Zg,Zh,Zi,Zj,Zk,Zl,Zm,Zn,Zo,Zp,Zq,Zr,Zs,Zt,Zu,Zv,Zw,Zx,Zy,Zz,YA,YB,YC,YD,YE,YF,YG,YH,YI,YJ,YK,YL,YM,YN,YO,YP,YQ,YR,Env.set,cond_true,cond_false,String.reduceBEq,YS,YT,YU,YV,YW,YX,YY,YZ,Ya,Yb,Yc,Yd,Ye,Yf] | simp only [Yg,Yh,true_and,Yi,Yj,Yk,Yl,Ym,Yn,Yo,Yp,Yq,Yr,Yt,Yu,Yv,Yw,Yx,Yy,Yz,XA,XB,XC,XD,XE,beq_self_eq_true,reduceIte,reduceCtorEq,↓reduceIte,XF,XG,XH]))
            refine s_both_wish hP1 hw3 hi' (show i + 1 + d < W.length by omega) ?_
            cases hbo : both W i (i + 1 + d) with
            | false => (repeat (first | dsimp only [XI, XJ] | dsimp only [ZA,ZB,ZC,ZD,ZE,ZF,ZG,ZH,ZI,ZJ,ZK,ZL,ZM,ZN,ZO,ZP,ZQ,ZR,ZS,ZT,ZU,ZV,ZW,ZX,ZY,ZZ,Za,Zb,Zc,Zd,Ze,Zf,Zg,Zh,Zi,Zj,Zk,Zl,Zm,Zn,Zo,Zp,Zq,Zr,Zs,Zt,Zu,Zv,Zw,Zx,Zy,Zz,YA,YB,YC,YD,YE,YF,YG,YH,YI,YJ,YK,YL,YM,YN,YO,YP,YQ,YR,Env.set,cond_true,cond_false,String.reduceBEq,YS,YT,YU,YV,YW,YX,YY,YZ,Ya,Yb,Yc,Yd,Ye,Yf] | simp only [Yg,Yh,true_and,Yi,Yj,Yk,Yl,Ym,Yn,Yo,Yp,Yq,Yr,Yt,Yu,Yv,Yw,Yx,Yy,Yz,XA,XB,XC,XD,XE,beq_self_eq_true,reduceIte,reduceCtorEq,↓reduceIte,XF,XG,XH])); exact skip (by rw [hb2, hbo]; rfl)
            | true =>
              have homem : i + 1 + d ∈ lf B (i + 1) W.length := lf_mem.mpr ⟨by omega, by omega, hb2⟩
              have hMo : M[i + 1 + d]? = some none := getD_some (by omega) (hM _ (.tail _ homem))
              have hBo : (B.set i true)[i + 1 + d]? = some false := by rw [List.getElem?_set_ne (by omega)]; exact getD_some (by omega) hb2
              obtain ⟨H4, s4, ss4⟩ := ss3.setB (i := i + 1 + d) (by simp; omega) true
              obtain ⟨H5, s5, ss5⟩ := ss4.setM (i := i) (by omega) (some (i + 1 + d))
              obtain ⟨H6, s6, ss6⟩ := ss5.setM (i := i + 1 + d) (by simp; omega) (some i)
              (repeat (first | dsimp only [XI, XJ] | dsimp only [ZA,ZB,ZC,ZD,ZE,ZF,ZG,ZH,ZI,ZJ,ZK,ZL,ZM,ZN,ZO,ZP,ZQ,ZR,ZS,ZT,ZU,ZV,ZW,ZX,ZY,ZZ,Za,Zb,Zc,Zd,Ze,Zf,Zg,Zh,Zi,Zj,Zk,Zl,Zm,Zn,Zo,Zp,Zq,Zr,Zs,Zt,Zu,Zv,Zw,Zx,Zy,Zz,YA,YB,YC,YD,YE,YF,YG,YH,YI,YJ,YK,YL,YM,YN,YO,YP,YQ,YR,Env.set,cond_true,cond_false,String.reduceBEq,YS,YT,YU,YV,YW,YX,YY,YZ,Ya,Yb,Yc,Yd,Ye,Yf] | simp only [Yg,Yh,true_and,Yi,Yj,Yk,Yl,Ym,Yn,Yo,Yp,Yq,Yr,Yt,Yu,Yv,Yw,Yx,Yy,Yz,XA,XB,XC,XD,XE,beq_self_eq_true,reduceIte,reduceCtorEq,↓reduceIte,XF,XG,XH, e1, e2, e3, e4, e5, s4, show setV (.ref m) (.int (i : Int)) (.int ((i + 1 + d : Nat) : Int)) H4 = some H5 from s5, show setV (.ref m) (.int ((i + 1 + d : Nat) : Int)) (.int (i : Int)) H5 = some H6 from s6, ec]))
              have l2 := lf_set2 (B := B) (g := i) (o := i + 1 + d) (n := W.length) (by omega) (by omega)
              have hsub := F (d + 1) (by omega)
              rw [step, hb2, hbo] at hsub
              have hroom : room (both W) k ((lf B (i + 1) W.length).filter (· != (i + 1 + d))) (Xs ++ twos (both W) k (lf B (i + 1) W.length) M ++ (((List.range' (i + 1) d).filter fun i => !B.getD i true).filter (both W i)).flatMap fun o => twos (both W) k ((lf B (i + 1) W.length).filter (· != o)) (pairM M i o)) := by
                unfold room at hr ⊢
                rw [cnt] at hr
                have := sub_sum (hsub.map fun o => cnt (both W) k ((lf B (i + 1) W.length).filter (· != o)))
                simp only [Bool.not_false, Bool.true_and, if_true, List.map_append, List.sum_append, List.map_cons, List.map_nil, List.sum_cons, List.sum_nil] at this
                simp only [List.length_append, twos_len, List.length_flatMap]
                omega
              refine ih ss6 (by simp; omega) (by simp; omega) hi' (by rw [l2]; exact Nat.le_trans (List.length_filter_le _ _) hkk) (fun j hj => ?_) (by rw [l2]; exact hroom) fun H7 ss7 => ?_
              · rw [l2] at hj
                obtain ⟨j1, j2⟩ := List.mem_filter.mp hj
                have j2 : j ≠ i + 1 + d := by simpa using j2
                have j3 := (lf_mem.mp j1).1
                show (pairM M i (i + 1 + d)).getD j none = none
                rw [pairM_ne (by omega) j2]; exact hM j (.tail _ j1)
              · rw [l2] at ss7
                obtain ⟨H8, s8, ss8⟩ := ss7.setM (i := i) (by simp; omega) none
                obtain ⟨H9, s9, ss9⟩ := ss8.setM (i := i + 1 + d) (by simp; omega) none
                have eM : ((((M.set i (some (i + 1 + d))).set (i + 1 + d) (some i)).set i none).set (i + 1 + d) none) = M := pair_back hMi hMo (by omega)
                rw [eM] at ss9
                obtain ⟨H10, s10, ss10⟩ := ss9.setB (i := i + 1 + d) (by simp; omega) false
                rw [set_back hBo] at ss10
                (repeat (first | dsimp only [XI, XJ] | dsimp only [ZA,ZB,ZC,ZD,ZE,ZF,ZG,ZH,ZI,ZJ,ZK,ZL,ZM,ZN,ZO,ZP,ZQ,ZR,ZS,ZT,ZU,ZV,ZW,ZX,ZY,ZZ,Za,Zb,Zc,Zd,Ze,Zf,Zg,Zh,Zi,Zj,Zk,Zl,Zm,Zn,Zo,Zp,Zq,Zr,Zs,Zt,Zu,Zv,Zw,Zx,Zy,Zz,YA,YB,YC,YD,YE,YF,YG,YH,YI,YJ,YK,YL,YM,YN,YO,YP,YQ,YR,Env.set,cond_true,cond_false,String.reduceBEq,YS,YT,YU,YV,YW,YX,YY,YZ,Ya,Yb,Yc,Yd,Ye,Yf] | simp only [Yg,Yh,true_and,Yi,Yj,Yk,Yl,Ym,Yn,Yo,Yp,Yq,Yr,Yt,Yu,Yv,Yw,Yx,Yy,Yz,XA,XB,XC,XD,XE,beq_self_eq_true,reduceIte,reduceCtorEq,↓reduceIte,XF,XG,XH, e1, e2, e3, e4, e5, show setV (.ref m) (.int (i : Int)) .none H7 = some H8 from s8, show setV (.ref m) (.int ((i + 1 + d : Nat) : Int)) .none H8 = some H9 from s9, s10]))
                refine h1 _ _ ⟨?_, by (repeat (first | dsimp only [XI, XJ] | dsimp only [ZA,ZB,ZC,ZD,ZE,ZF,ZG,ZH,ZI,ZJ,ZK,ZL,ZM,ZN,ZO,ZP,ZQ,ZR,ZS,ZT,ZU,ZV,ZW,ZX,ZY,ZZ,Za,Zb,Zc,Zd,Ze,Zf,Zg,Zh,Zi,Zj,Zk,Zl,Zm,Zn,Zo,Zp,Zq,Zr,Zs,Zt,Zu,Zv,Zw,Zx,Zy,Zz,YA,YB,YC,YD,YE,YF,YG,YH,YI,YJ,YK,YL,YM,YN,YO,YP,YQ,YR,Env.set,cond_true,cond_false,String.reduceBEq,YS,YT,YU,YV,YW,YX,YY,YZ,Ya,Yb,Yc,Yd,Ye,Yf] | simp only [Yg,Yh,true_and,Yi,Yj,Yk,Yl,Ym,Yn,Yo,Yp,Yq,Yr,Yt,Yu,Yv,Yw,Yx,Yy,Yz,XA,XB,XC,XD,XE,beq_self_eq_true,reduceIte,reduceCtorEq,↓reduceIte,XF,XG,XH, e1])), by (repeat (first | dsimp only [XI, XJ] | dsimp only [ZA,ZB,ZC,ZD,ZE,ZF,ZG,ZH,ZI,ZJ,ZK,ZL,ZM,ZN,ZO,ZP,ZQ,ZR,ZS,ZT,ZU,ZV,ZW,ZX,ZY,ZZ,Za,Zb,Zc,Zd,Ze,Zf,Zg,Zh,Zi,Zj,Zk,Zl,Zm,Zn,Zo,Zp,Zq,Zr,Zs,Zt,Zu,Zv,Zw,Zx,Zy,Zz,YA,YB,YC,YD,YE,YF,YG,YH,YI,YJ,YK,YL,YM,YN,YO,YP,YQ,YR,Env.set,cond_true,cond_false,String.reduceBEq,YS,YT,YU,YV,YW,YX,YY,YZ,Ya,Yb,Yc,Yd,Ye,Yf] | simp only [Yg,Yh,true_and,Yi,Yj,Yk,Yl,Ym,Yn,Yo,Yp,Yq,Yr,Yt,Yu,Yv,Yw,Yx,Yy,Yz,XA,XB,XC,XD,XE,beq_self_eq_true,reduceIte,reduceCtorEq,↓reduceIte,XF,XG,XH, e2])), by (repeat (first | dsimp only [XI, XJ] | dsimp only [ZA,ZB,ZC,ZD,ZE,ZF,ZG,ZH,ZI,ZJ,ZK,ZL,ZM,ZN,ZO,ZP,ZQ,ZR,ZS,ZT,ZU,ZV,ZW,ZX,ZY,ZZ,Za,Zb,Zc,Zd,Ze,Zf,Zg,Zh,Zi,Zj,Zk,Zl,Zm,Zn,Zo,Zp,Zq,Zr,Zs,Zt,Zu,Zv,Zw,Zx,Zy,Zz,YA,YB,YC,YD,YE,YF,YG,YH,YI,YJ,YK,YL,YM,YN,YO,YP,YQ,YR,Env.set,cond_true,cond_false,String.reduceBEq,YS,YT,YU,YV,YW,YX,YY,YZ,Ya,Yb,Yc,Yd,Ye,Yf] | simp only [Yg,Yh,true_and,Yi,Yj,Yk,Yl,Ym,Yn,Yo,Yp,Yq,Yr,Yt,Yu,Yv,Yw,Yx,Yy,Yz,XA,XB,XC,XD,XE,beq_self_eq_true,reduceIte,reduceCtorEq,↓reduceIte,XF,XG,XH, e3])), by (repeat (first | dsimp only [XI, XJ] | dsimp only [ZA,ZB,ZC,ZD,ZE,ZF,ZG,ZH,ZI,ZJ,ZK,ZL,ZM,ZN,ZO,ZP,ZQ,ZR,ZS,ZT,ZU,ZV,ZW,ZX,ZY,ZZ,Za,Zb,Zc,Zd,Ze,Zf,Zg,Zh,Zi,Zj,Zk,Zl,Zm,Zn,Zo,Zp,Zq,Zr,Zs,Zt,Zu,Zv,Zw,Zx,Zy,Zz,YA,YB,YC,YD,YE,YF,YG,YH,YI,YJ,YK,YL,YM,YN,YO,YP,YQ,YR,Env.set,cond_true,cond_false,String.reduceBEq,YS,YT,YU,YV,YW,YX,YY,YZ,Ya,Yb,Yc,Yd,Ye,Yf] | simp only [Yg,Yh,true_and,Yi,Yj,Yk,Yl,Ym,Yn,Yo,Yp,Yq,Yr,Yt,Yu,Yv,Yw,Yx,Yy,Yz,XA,XB,XC,XD,XE,beq_self_eq_true,reduceIte,reduceCtorEq,↓reduceIte,XF,XG,XH, e4])), by (repeat (first | dsimp only [XI, XJ] | dsimp only [ZA,ZB,ZC,ZD,ZE,ZF,ZG,ZH,ZI,ZJ,ZK,ZL,ZM,ZN,ZO,ZP,ZQ,ZR,ZS,ZT,ZU,ZV,ZW,ZX,ZY,ZZ,Za,Zb,Zc,Zd,Ze,Zf,Zg,Zh,Zi,Zj,Zk,Zl,Zm,Zn,Zo,Zp,Zq,Zr,Zs,Zt,Zu,Zv,Zw,Zx,Zy,Zz,YA,YB,YC,YD,YE,YF,YG,YH,YI,YJ,YK,YL,YM,YN,YO,YP,YQ,YR,Env.set,cond_true,cond_false,String.reduceBEq,YS,YT,YU,YV,YW,YX,YY,YZ,Ya,Yb,Yc,Yd,Ye,Yf] | simp only [Yg,Yh,true_and,Yi,Yj,Yk,Yl,Ym,Yn,Yo,Yp,Yq,Yr,Yt,Yu,Yv,Yw,Yx,Yy,Yz,XA,XB,XC,XD,XE,beq_self_eq_true,reduceIte,reduceCtorEq,↓reduceIte,XF,XG,XH, e5]))⟩
                rw [step, hb2, hbo]
                simpa [List.flatMap_append, pairM] using ss10
        · obtain ⟨ss3, e1, e2, e3, e4, e5⟩ := hI
          rw [rng2_len] at ss3
          obtain ⟨H4, s4, ss4⟩ := ss3.setB (i := i) (by simp; omega) false
          rw [set_back hBi] at ss4
          (repeat (first | dsimp only [XI, XJ] | dsimp only [ZA,ZB,ZC,ZD,ZE,ZF,ZG,ZH,ZI,ZJ,ZK,ZL,ZM,ZN,ZO,ZP,ZQ,ZR,ZS,ZT,ZU,ZV,ZW,ZX,ZY,ZZ,Za,Zb,Zc,Zd,Ze,Zf,Zg,Zh,Zi,Zj,Zk,Zl,Zm,Zn,Zo,Zp,Zq,Zr,Zs,Zt,Zu,Zv,Zw,Zx,Zy,Zz,YA,YB,YC,YD,YE,YF,YG,YH,YI,YJ,YK,YL,YM,YN,YO,YP,YQ,YR,Env.set,cond_true,cond_false,String.reduceBEq,YS,YT,YU,YV,YW,YX,YY,YZ,Ya,Yb,Yc,Yd,Ye,Yf] | simp only [Yg,Yh,true_and,Yi,Yj,Yk,Yl,Ym,Yn,Yo,Yp,Yq,Yr,Yt,Yu,Yv,Yw,Yx,Yy,Yz,XA,XB,XC,XD,XE,beq_self_eq_true,reduceIte,reduceCtorEq,↓reduceIte,XF,XG,XH, e2, e4, s4]))
          refine h _ ?_
          rw [twos, ← List.append_assoc]; exact ss4
    · have hi' : i = W.length := by simp at q; omega
      subst hi'
      rw [lf_end] at hl
      rw [← hl] at h hr
      (repeat (first | dsimp only [XI, XJ] | dsimp only [ZA,ZB,ZC,ZD,ZE,ZF,ZG,ZH,ZI,ZJ,ZK,ZL,ZM,ZN,ZO,ZP,ZQ,ZR,ZS,ZT,ZU,ZV,ZW,ZX,ZY,ZZ,Za,Zb,Zc,Zd,Ze,Zf,Zg,Zh,Zi,Zj,Zk,Zl,Zm,Zn,Zo,Zp,Zq,Zr,Zs,Zt,Zu,Zv,Zw,Zx,Zy,Zz,YA,YB,YC,YD,YE,YF,YG,YH,YI,YJ,YK,YL,YM,YN,YO,YP,YQ,YR,Env.set,cond_true,cond_false,String.reduceBEq,YS,YT,YU,YV,YW,YX,YY,YZ,Ya,Yb,Yc,Yd,Ye,Yf] | simp only [Yg,Yh,true_and,Yi,Yj,Yk,Yl,Ym,Yn,Yo,Yp,Yq,Yr,Yt,Yu,Yv,Yw,Yx,Yy,Yz,XA,XB,XC,XD,XE,beq_self_eq_true,reduceIte,reduceCtorEq,↓reduceIte,XF,XG,XH]))
      refine hn _ _ ?_
      obtain ⟨H2, p1, p2⟩ := ss.push (by unfold room cnt at hr; omega)
      obtain ⟨fs, f1, _⟩ := ss.hf
      (repeat (first | dsimp only [XI, XJ] | dsimp only [ZA,ZB,ZC,ZD,ZE,ZF,ZG,ZH,ZI,ZJ,ZK,ZL,ZM,ZN,ZO,ZP,ZQ,ZR,ZS,ZT,ZU,ZV,ZW,ZX,ZY,ZZ,Za,Zb,Zc,Zd,Ze,Zf,Zg,Zh,Zi,Zj,Zk,Zl,Zm,Zn,Zo,Zp,Zq,Zr,Zs,Zt,Zu,Zv,Zw,Zx,Zy,Zz,YA,YB,YC,YD,YE,YF,YG,YH,YI,YJ,YK,YL,YM,YN,YO,YP,YQ,YR,Env.set,cond_true,cond_false,String.reduceBEq,YS,YT,YU,YV,YW,YX,YY,YZ,Ya,Yb,Yc,Yd,Ye,Yf] | simp only [Yg,Yh,true_and,Yi,Yj,Yk,Yl,Ym,Yn,Yo,Yp,Yq,Yr,Yt,Yu,Yv,Yw,Yx,Yy,Yz,XA,XB,XC,XD,XE,beq_self_eq_true,reduceIte,reduceCtorEq,↓reduceIte,XF,XG,XH, e1, e2, e3, e4, e5, hw'.len, seqOf_list ss.hm, (recvL f1).1, p1]))
      exact h _ p2
end
end Mine

namespace Mine
open PySem

noncomputable def twosW (W : List (List Int)) : List Mt := twos (both W) W.length (List.range W.length) (List.replicate W.length none)
noncomputable def calmW (W : List (List Int)) : List Mt := (twosW W).filter fun X => (((restP W X).length : Int) == 0)

noncomputable def fct : Nat → Nat
  | 0 => 1
  | n + 1 => (n + 1) * fct n
theorem fct_pos : ∀ n, 0 < fct n
  | 0 => Nat.one_pos
  | n + 1 => Nat.mul_pos (Nat.succ_pos _) (fct_pos n)
theorem fct_mono {m n : Nat} (h : m ≤ n) : fct m ≤ fct n := by
  induction h with
  | refl => exact Nat.le_refl _
  | step _ ih => exact Nat.le_trans ih (by rw [fct]; exact Nat.le_mul_of_pos_left _ (Nat.succ_pos _))
theorem sum_le_mul {α : Type} {f : α → Nat} {c : Nat} : ∀ {l : List α}, (∀ x ∈ l, f x ≤ c) → (l.map f).sum ≤ l.length * c
  | [], _ => by simp
  | a :: l, h => by
    have h1 := h a (.head _)
    have h2 := sum_le_mul (l := l) fun x hx => h x (.tail _ hx)
    simp only [List.map_cons, List.sum_cons, List.length_cons, Nat.succ_mul]; omega
theorem cnt_le (bo : Nat → Nat → Bool) : ∀ (k : Nat) (l : List Nat), cnt bo k l ≤ fct l.length
  | 0, l => fct_pos _
  | _ + 1, [] => Nat.le_refl _
  | k + 1, g :: r => by
    rw [cnt, List.length_cons, fct, Nat.succ_mul]
    have h1 := cnt_le bo k r
    have h2 : ((r.filter (bo g)).map fun o => cnt bo k (r.filter (· != o))).sum ≤ (r.filter (bo g)).length * fct r.length :=
      sum_le_mul fun o _ => Nat.le_trans (cnt_le bo k _) (fct_mono (List.length_filter_le _ _))
    have h3 : (r.filter (bo g)).length * fct r.length ≤ r.length * fct r.length := Nat.mul_le_mul_right _ (List.length_filter_le _ _)
    omega

theorem lf_all (n : Nat) : lf (List.replicate n false) 0 n = List.range n := by
  unfold lf
  rw [List.range_eq_range', Nat.sub_zero, List.filter_eq_self]
  intro a ha
  have : a < n := by have := List.mem_range'.mp ha; omega
  simp [List.getD_eq_getElem?_getD, this]

theorem twosW_ok {W : List (List Int)} {X : Mt} (h : X ∈ twosW W) : MOk W X := by
  refine twos_all (both W) (MOk W) _ _ _ List.nodup_range ⟨by simp, fun i j q => ?_⟩ (fun x hx => ⟨by simpa using hx, ?_⟩) (fun M g o mok hg ho hne eg eo hb => ?_) X h
  · exfalso
    by_cases e : i < W.length <;> simp [List.getD_eq_getElem?_getD, e] at q
  · have : x < W.length := by simpa using hx
    simp [List.getD_eq_getElem?_getD, this]
  · have hl := mok.len
    exact mok.pair (by omega) (by omega) (Ne.symm hne) eg eo hb
theorem twosW_len {W : List (List Int)} : (twosW W).length = cnt (both W) W.length (List.range W.length) := twos_len _ _ _ _
theorem twosW_few {W : List (List Int)} (ok : WOk W) : (twosW W).length ≤ 720 := by
  rw [twosW_len]
  refine Nat.le_trans (cnt_le _ _ _) ?_
  rw [List.length_range]
  exact Nat.le_trans (fct_mono ok.le) (by decide)

/-- a list of mates at r, all it holds at c or later -/
noncomputable def ML (c : Nat) (H : Hp) (r : Nat) (Xs : List Mt) : Prop := c ≤ r ∧ ∃ fs, H[r]? = some (.list fs) ∧ All2 (fun v X => ∃ a, v = .ref a ∧ c ≤ a ∧ a < H.length ∧ a ≠ r ∧ MT H a X) fs Xs
theorem ML.pre {c : Nat} {H H' : Hp} {r : Nat} {Xs : List Mt} (h : ML c H r Xs) (hp : H <+: H') : ML c H' r Xs :=
  let ⟨h0, fs, h1, h2⟩ := h; ⟨h0, fs, pre_get hp h1, h2.mono fun _ _ ⟨a, e, q1, q2, q3, q4⟩ => ⟨a, e, q1, Nat.lt_of_lt_of_le q2 hp.length_le, q3, q4.pre hp⟩⟩
theorem ML.len {c : Nat} {H : Hp} {r : Nat} {Xs : List Mt} (h : ML c H r Xs) : lenV (.ref r) H = some (Xs.length : Int) := by
  obtain ⟨_, fs, h1, h2⟩ := h
  unfold lenV; simp [seqOf_list h1, h2.length]
theorem ML.isList {c : Nat} {H : Hp} {r : Nat} {Xs : List Mt} (h : ML c H r Xs) : isInst (.ref r) ["list"] H = true := by
  obtain ⟨_, fs, h1, h2⟩ := h; simp [isInst, typesOf, h1]
section
variable {P : Prog} {b : Bool} {n : Nat} {H : Hp} {Q : Post} {X : XP}

theorem s_all_twos (hP : P.fn "all_twos" = some f_all_twos) (hP1 : P.fn "need_wishes" = some f_need_wishes) (hP4 : P.fn "is_row" = some f_is_row) (hP5 : P.fn "is_guest" = some f_is_guest) (hP6 : P.fn "both_wish" = some f_both_wish) (hP7 : P.fn "settled" = some f_settled) (hG : P.glob "MOST_GUESTS" = some (.int 6))
    {w : Nat} {W : List (List Int)} (hw : WH H w W) (ok : WOk W) (h : ∀ H' r, H <+: H' → ML H.length H' r (twosW W) → Q (.ref r) H') : callN P b (n + 9) "all_twos" [.ref w] H Q X := by
  have l6 := ok.le
  have hl : W.length ≤ lim := Nat.le_trans ok.le (by decide)
  have ef : n + 8 = (n + (6 - W.length)) + (W.length + 2) := by omega
  (refine callN_in hP rfl ?_; unfold f_all_twos)
  (repeat (first | dsimp only [XI, XJ] | dsimp only [ZA,ZB,ZC,ZD,ZE,ZF,ZG,ZH,ZI,ZJ,ZK,ZL,ZM,ZN,ZO,ZP,ZQ,ZR,ZS,ZT,ZU,ZV,ZW,ZX,ZY,ZZ,Za,Zb,Zc,Zd,Ze,Zf,Zg,Zh,Zi,Zj,Zk,Zl,Zm,Zn,Zo,Zp,Zq,Zr,Zs,Zt,Zu,Zv,Zw,Zx,Zy,Zz,YA,YB,YC,YD,YE,YF,YG,YH,YI,YJ,YK,YL,YM,YN,YO,YP,YQ,YR,Env.set,cond_true,cond_false,String.reduceBEq,YS,YT,YU,YV,YW,YX,YY,YZ,Ya,Yb,Yc,Yd,Ye,Yf] | simp only [Yg,Yh,true_and,Yi,Yj,Yk,Yl,Ym,Yn,Yo,Yp,Yq,Yr,Yt,Yu,Yv,Yw,Yx,Yy,Yz,XA,XB,XC,XD,XE,beq_self_eq_true,reduceIte,reduceCtorEq,↓reduceIte,XF,XG,XH]))
  refine s_need_wishes (n := n + 5) hP1 hP4 hP5 hG hw ok fun H1 hp1 => ?_
  have hw1 := hw.pre hp1
  have hw2 := hw1.pre (pre_new H1 (.list []))
  (repeat (first | dsimp only [XI, XJ] | dsimp only [ZA,ZB,ZC,ZD,ZE,ZF,ZG,ZH,ZI,ZJ,ZK,ZL,ZM,ZN,ZO,ZP,ZQ,ZR,ZS,ZT,ZU,ZV,ZW,ZX,ZY,ZZ,Za,Zb,Zc,Zd,Ze,Zf,Zg,Zh,Zi,Zj,Zk,Zl,Zm,Zn,Zo,Zp,Zq,Zr,Zs,Zt,Zu,Zv,Zw,Zx,Zy,Zz,YA,YB,YC,YD,YE,YF,YG,YH,YI,YJ,YK,YL,YM,YN,YO,YP,YQ,YR,Env.set,cond_true,cond_false,String.reduceBEq,YS,YT,YU,YV,YW,YX,YY,YZ,Ya,Yb,Yc,Yd,Ye,Yf] | simp only [Yg,Yh,true_and,Yi,Yj,Yk,Yl,Ym,Yn,Yo,Yp,Yq,Yr,Yt,Yu,Yv,Yw,Yx,Yy,Yz,XA,XB,XC,XD,XE,beq_self_eq_true,reduceIte,reduceCtorEq,↓reduceIte,XF,XG,XH, hw2.len]))
  generalize hH2 : H1 ++ [O.list []] = H2 at hw2 ⊢
  have g2 : H2[H1.length]? = some (.list []) := by rw [← hH2]; exact get_new _ _
  have p2 : H1 <+: H2 := by rw [← hH2]; exact pre_new _ _
  have m1 : mulV (.ref H2.length) (.int (W.length : Int)) (H2 ++ [O.list [.none]]) = some (.ref (H2.length + 1), (H2 ++ [O.list [.none]]) ++ [.list (List.replicate W.length .none)]) := by
    rw [mul_at (get_new _ _) hl]; simp
  (repeat (first | dsimp only [XI, XJ] | dsimp only [ZA,ZB,ZC,ZD,ZE,ZF,ZG,ZH,ZI,ZJ,ZK,ZL,ZM,ZN,ZO,ZP,ZQ,ZR,ZS,ZT,ZU,ZV,ZW,ZX,ZY,ZZ,Za,Zb,Zc,Zd,Ze,Zf,Zg,Zh,Zi,Zj,Zk,Zl,Zm,Zn,Zo,Zp,Zq,Zr,Zs,Zt,Zu,Zv,Zw,Zx,Zy,Zz,YA,YB,YC,YD,YE,YF,YG,YH,YI,YJ,YK,YL,YM,YN,YO,YP,YQ,YR,Env.set,cond_true,cond_false,String.reduceBEq,YS,YT,YU,YV,YW,YX,YY,YZ,Ya,Yb,Yc,Yd,Ye,Yf] | simp only [Yg,Yh,true_and,Yi,Yj,Yk,Yl,Ym,Yn,Yo,Yp,Yq,Yr,Yt,Yu,Yv,Yw,Yx,Yy,Yz,XA,XB,XC,XD,XE,beq_self_eq_true,reduceIte,reduceCtorEq,↓reduceIte,XF,XG,XH, m1]))
  generalize hH3 : H2 ++ [O.list [V.none]] ++ [O.list (List.replicate W.length V.none)] = H3
  have l3 : H3.length = H2.length + 2 := by rw [← hH3]; simp
  have p3 : H2 <+: H3 := by rw [← hH3]; exact (pre_new _ _).trans (pre_new _ _)
  have g3 : H3[H2.length + 1]? = some (.list (List.replicate W.length .none)) := by rw [← hH3]; simp
  have m2 : mulV (.ref H3.length) (.int (W.length : Int)) (H3 ++ [O.list [.bool false]]) = some (.ref (H3.length + 1), (H3 ++ [O.list [.bool false]]) ++ [.list (List.replicate W.length (.bool false))]) := by
    rw [mul_at (get_new _ _) hl]; simp
  (repeat (first | dsimp only [XI, XJ] | dsimp only [ZA,ZB,ZC,ZD,ZE,ZF,ZG,ZH,ZI,ZJ,ZK,ZL,ZM,ZN,ZO,ZP,ZQ,ZR,ZS,ZT,ZU,ZV,ZW,ZX,ZY,ZZ,Za,Zb,Zc,Zd,Ze,Zf,Zg,Zh,Zi,Zj,Zk,Zl,Zm,Zn,Zo,Zp,Zq,Zr,Zs,Zt,Zu,Zv,Zw,Zx,Zy,Zz,YA,YB,YC,YD,YE,YF,YG,YH,YI,YJ,YK,YL,YM,YN,YO,YP,YQ,YR,Env.set,cond_true,cond_false,String.reduceBEq,YS,YT,YU,YV,YW,YX,YY,YZ,Ya,Yb,Yc,Yd,Ye,Yf] | simp only [Yg,Yh,true_and,Yi,Yj,Yk,Yl,Ym,Yn,Yo,Yp,Yq,Yr,Yt,Yu,Yv,Yw,Yx,Yy,Yz,XA,XB,XC,XD,XE,beq_self_eq_true,reduceIte,reduceCtorEq,↓reduceIte,XF,XG,XH, m2]))
  generalize hH4 : H3 ++ [O.list [V.bool false]] ++ [O.list (List.replicate W.length (V.bool false))] = H4
  have p4 : H3 <+: H4 := by rw [← hH4]; exact (pre_new _ _).trans (pre_new _ _)
  have g4 : H4[H3.length + 1]? = some (.list (List.replicate W.length (.bool false))) := by rw [← hH4]; simp
  have l2 : H2.length = H1.length + 1 := by rw [← hH2]; simp
  have l1 := hp1.length_le
  have ss : SS H1 H4 (H2.length + 1) (H3.length + 1) H1.length (List.replicate W.length none) (List.replicate W.length false) [] := by
    refine ⟨p2.trans (p3.trans p4), by omega, by omega, Nat.le_refl _, by omega, by omega, by omega, ?_, ?_, [], pre_get (p3.trans p4) g2, .nil⟩
    · unfold MT; rw [pre_get p4 g3]; simp [ov]
    · rw [g4]; simp
  rw [ef]
  have ela := lf_all W.length
  refine s_settled (g := 0) hP7 hP6 hw1 ok W.length ss (by simp) (by simp) (Nat.zero_le _) (by rw [ela]; simp) (fun i hi => ?_) ?_ fun H5 ss5 => ?_
  · rw [ela] at hi
    have : i < W.length := by simpa using hi
    simp [List.getD_eq_getElem?_getD, this]
  · rw [ela]
    have := twosW_few ok
    rw [twosW_len] at this
    unfold room lim; simp; omega
  · rw [ela, List.nil_append] at ss5
    (repeat (first | dsimp only [XI, XJ] | dsimp only [ZA,ZB,ZC,ZD,ZE,ZF,ZG,ZH,ZI,ZJ,ZK,ZL,ZM,ZN,ZO,ZP,ZQ,ZR,ZS,ZT,ZU,ZV,ZW,ZX,ZY,ZZ,Za,Zb,Zc,Zd,Ze,Zf,Zg,Zh,Zi,Zj,Zk,Zl,Zm,Zn,Zo,Zp,Zq,Zr,Zs,Zt,Zu,Zv,Zw,Zx,Zy,Zz,YA,YB,YC,YD,YE,YF,YG,YH,YI,YJ,YK,YL,YM,YN,YO,YP,YQ,YR,Env.set,cond_true,cond_false,String.reduceBEq,YS,YT,YU,YV,YW,YX,YY,YZ,Ya,Yb,Yc,Yd,Ye,Yf] | simp only [Yg,Yh,true_and,Yi,Yj,Yk,Yl,Ym,Yn,Yo,Yp,Yq,Yr,Yt,Yu,Yv,Yw,Yx,Yy,Yz,XA,XB,XC,XD,XE,beq_self_eq_true,reduceIte,reduceCtorEq,↓reduceIte,XF,XG,XH]))
    obtain ⟨fs, f1, f2⟩ := ss5.hf
    refine h _ _ (hp1.trans ss5.pre) ⟨l1, fs, f1, f2.mono fun v X ⟨r, e, q0, q1, q2, q3, q4⟩ => ⟨r, e, by omega, (List.getElem?_eq_some_iff.mp q4).1, q3, q4⟩⟩

theorem s_found_restless (hP3 : P.fn "found_restless" = some f_found_restless) (hP6 : P.fn "both_wish" = some f_both_wish) (hP7 : P.fn "sooner" = some f_sooner) {aw am : Nat} {W : List (List Int)} {M : List (Option Nat)} (hw : WH H aw W) (ok : WOk W) (hm : MT H am M) (mok : MOk W M)
    (h : ∀ H' r, H <+: H' → H.length ≤ r → PR H' r (restP W M) → Q (.ref r) H') : callN P b (n + 3) "found_restless" [.ref aw, .ref am] H Q X :=
  s_restFn (w := "wishes") (m := "mates") (p := "pairs") (o := "one") (t := "other") (f := "sooner") hP3 (fun hw _ hg _ _ h1 h2 h => s_sooner hP7 hP6 hw hg h1 h2 h) (by decide) hw ok hm mok h

theorem s_all_calm (hP : P.fn "all_calm" = some f_all_calm) (hP0 : P.fn "all_twos" = some f_all_twos) (hP1 : P.fn "need_wishes" = some f_need_wishes) (hP4 : P.fn "is_row" = some f_is_row) (hP5 : P.fn "is_guest" = some f_is_guest) (hP6 : P.fn "both_wish" = some f_both_wish) (hP7 : P.fn "settled" = some f_settled) (hG : P.glob "MOST_GUESTS" = some (.int 6))
    (hP3 : P.fn "found_restless" = some f_found_restless) (hP8 : P.fn "sooner" = some f_sooner)
    {w : Nat} {W : List (List Int)} (hw : WH H w W) (ok : WOk W) (h : ∀ H' r, H <+: H' → ML H.length H' r (calmW W) → Q (.ref r) H') : callN P b (n + 10) "all_calm" [.ref w] H Q X := by
  (refine callN_in hP rfl ?_; unfold f_all_calm)
  (repeat (first | dsimp only [XI, XJ] | dsimp only [ZA,ZB,ZC,ZD,ZE,ZF,ZG,ZH,ZI,ZJ,ZK,ZL,ZM,ZN,ZO,ZP,ZQ,ZR,ZS,ZT,ZU,ZV,ZW,ZX,ZY,ZZ,Za,Zb,Zc,Zd,Ze,Zf,Zg,Zh,Zi,Zj,Zk,Zl,Zm,Zn,Zo,Zp,Zq,Zr,Zs,Zt,Zu,Zv,Zw,Zx,Zy,Zz,YA,YB,YC,YD,YE,YF,YG,YH,YI,YJ,YK,YL,YM,YN,YO,YP,YQ,YR,Env.set,cond_true,cond_false,String.reduceBEq,YS,YT,YU,YV,YW,YX,YY,YZ,Ya,Yb,Yc,Yd,Ye,Yf] | simp only [Yg,Yh,true_and,Yi,Yj,Yk,Yl,Ym,Yn,Yo,Yp,Yq,Yr,Yt,Yu,Yv,Yw,Yx,Yy,Yz,XA,XB,XC,XD,XE,beq_self_eq_true,reduceIte,reduceCtorEq,↓reduceIte,XF,XG,XH]))
  refine s_all_twos hP0 hP1 hP4 hP5 hP6 hP7 hG hw ok fun H1 r hp1 hml => ?_
  obtain ⟨hc, fs, f1, f2⟩ := hml
  (repeat (first | dsimp only [XI, XJ] | dsimp only [ZA,ZB,ZC,ZD,ZE,ZF,ZG,ZH,ZI,ZJ,ZK,ZL,ZM,ZN,ZO,ZP,ZQ,ZR,ZS,ZT,ZU,ZV,ZW,ZX,ZY,ZZ,Za,Zb,Zc,Zd,Ze,Zf,Zg,Zh,Zi,Zj,Zk,Zl,Zm,Zn,Zo,Zp,Zq,Zr,Zs,Zt,Zu,Zv,Zw,Zx,Zy,Zz,YA,YB,YC,YD,YE,YF,YG,YH,YI,YJ,YK,YL,YM,YN,YO,YP,YQ,YR,Env.set,cond_true,cond_false,String.reduceBEq,YS,YT,YU,YV,YW,YX,YY,YZ,Ya,Yb,Yc,Yd,Ye,Yf] | simp only [Yg,Yh,true_and,Yi,Yj,Yk,Yl,Ym,Yn,Yo,Yp,Yq,Yr,Yt,Yu,Yv,Yw,Yx,Yy,Yz,XA,XB,XC,XD,XE,beq_self_eq_true,reduceIte,reduceCtorEq,↓reduceIte,XF,XG,XH, seqOf_list f1]))
  have hkeep : ∀ H' : Hp, H1 <+: H' → H'[r]? = H1[r]? := fun H' hp => by rw [f1]; exact pre_get hp f1
  have flen := f2.length
  refine wLoop_idx (fun i acc H' => H1 <+: H' ∧ All2 (fun v X => ∃ a, v = V.ref a ∧ H.length ≤ a ∧ a < H'.length ∧ MT H' a X) acc (((twosW W).take i).filter fun X => (((restP W X).length : Int) == 0))) ⟨List.prefix_refl _, by simpa using All2.nil⟩ (fun i v acc H' hv hI => ⟨hkeep _ hI.1, fun k' k1 k2 => ?_⟩) fun acc H' hI => ⟨hkeep _ hI.1, ?_⟩
  · obtain ⟨hp, hA⟩ := hI
    obtain ⟨M, hM, a, rfl, a1, a2, a3, a4⟩ := f2.get hv
    have mok := twosW_ok (List.mem_of_getElem? hM)
    have htk : (twosW W).take (i + 1) = (twosW W).take i ++ [M] := by
      obtain ⟨hi, e⟩ := List.getElem?_eq_some_iff.mp hM
      rw [List.take_succ_eq_append_getElem hi, e]
    (repeat (first | dsimp only [XI, XJ] | dsimp only [ZA,ZB,ZC,ZD,ZE,ZF,ZG,ZH,ZI,ZJ,ZK,ZL,ZM,ZN,ZO,ZP,ZQ,ZR,ZS,ZT,ZU,ZV,ZW,ZX,ZY,ZZ,Za,Zb,Zc,Zd,Ze,Zf,Zg,Zh,Zi,Zj,Zk,Zl,Zm,Zn,Zo,Zp,Zq,Zr,Zs,Zt,Zu,Zv,Zw,Zx,Zy,Zz,YA,YB,YC,YD,YE,YF,YG,YH,YI,YJ,YK,YL,YM,YN,YO,YP,YQ,YR,Env.set,cond_true,cond_false,String.reduceBEq,YS,YT,YU,YV,YW,YX,YY,YZ,Ya,Yb,Yc,Yd,Ye,Yf] | simp only [Yg,Yh,true_and,Yi,Yj,Yk,Yl,Ym,Yn,Yo,Yp,Yq,Yr,Yt,Yu,Yv,Yw,Yx,Yy,Yz,XA,XB,XC,XD,XE,beq_self_eq_true,reduceIte,reduceCtorEq,↓reduceIte,XF,XG,XH]))
    refine s_found_restless (n := n + 6) hP3 hP6 hP8 (hw.pre (hp1.trans hp)) ok (a4.pre hp) mok fun H2 p hp2 _ hpr => ?_
    (repeat (first | dsimp only [XI, XJ] | dsimp only [ZA,ZB,ZC,ZD,ZE,ZF,ZG,ZH,ZI,ZJ,ZK,ZL,ZM,ZN,ZO,ZP,ZQ,ZR,ZS,ZT,ZU,ZV,ZW,ZX,ZY,ZZ,Za,Zb,Zc,Zd,Ze,Zf,Zg,Zh,Zi,Zj,Zk,Zl,Zm,Zn,Zo,Zp,Zq,Zr,Zs,Zt,Zu,Zv,Zw,Zx,Zy,Zz,YA,YB,YC,YD,YE,YF,YG,YH,YI,YJ,YK,YL,YM,YN,YO,YP,YQ,YR,Env.set,cond_true,cond_false,String.reduceBEq,YS,YT,YU,YV,YW,YX,YY,YZ,Ya,Yb,Yc,Yd,Ye,Yf] | simp only [Yg,Yh,true_and,Yi,Yj,Yk,Yl,Ym,Yn,Yo,Yp,Yq,Yr,Yt,Yu,Yv,Yw,Yx,Yy,Yz,XA,XB,XC,XD,XE,beq_self_eq_true,reduceIte,reduceCtorEq,↓reduceIte,XF,XG,XH, hpr.len]))
    have grow : ∀ {acc Ys}, All2 (fun v X => ∃ a, v = V.ref a ∧ H.length ≤ a ∧ a < H'.length ∧ MT H' a X) acc Ys → All2 (fun v X => ∃ a, v = V.ref a ∧ H.length ≤ a ∧ a < H2.length ∧ MT H2 a X) acc Ys := fun q => q.mono fun _ _ ⟨a, e, q1, q2, q3⟩ => ⟨a, e, q1, Nat.lt_of_lt_of_le q2 hp2.length_le, q3.pre hp2⟩
    refine ⟨fun q => ?_, fun q => ?_⟩
    · refine k1 _ _ ⟨hp.trans hp2, ?_⟩
      rw [htk, List.filter_append]
      refine (grow hA).append ?_
      simp only [List.filter, q]
      exact .cons ⟨a, rfl, a1, Nat.lt_of_lt_of_le a2 (hp.trans hp2).length_le, a4.pre (hp.trans hp2)⟩ .nil
    · refine k2 _ ⟨hp.trans hp2, ?_⟩
      rw [htk, List.filter_append]
      simp only [List.filter, q, List.append_nil]
      exact grow hA
  · obtain ⟨hp, hA⟩ := hI
    rw [flen, List.take_length] at hA
    refine h _ _ (hp1.trans (hp.trans (pre_new _ _))) ⟨(hp1.trans hp).length_le, acc, get_new _ _, hA.mono fun _ _ ⟨a, e, q1, q2, q3⟩ => ⟨a, e, q1, ?_, Nat.ne_of_lt q2, q3.pre (pre_new _ _)⟩⟩
    simp; omega

theorem s_law_mates (hP : P.fn "_law_mates" = some f__law_mates) (hP1 : P.fn "_law_suits" = some f__law_suits) (hP2 : P.fn "_law_whole" = some f__law_whole) {w a : Nat} {W : List (List Int)} {M : Mt} (hw : WH H w W) (ok : WOk W) (hm : MT H a M) (mok : MOk W M)
    (h : Q (.bool true) H) : callN P b (n + 2) "_law_mates" [.ref w, .ref a] H Q X := by
  have hlm : M.length ≤ lim := by rw [mok.len]; exact Nat.le_trans ok.le (by decide)
  have eb : ((M.length : Int) == (W.length : Int)) = true := by rw [mok.len]; simp
  have mlen := mok.len
  (refine callN_in hP rfl ?_; unfold f__law_mates)
  (repeat (first | dsimp only [XI, XJ] | dsimp only [ZA,ZB,ZC,ZD,ZE,ZF,ZG,ZH,ZI,ZJ,ZK,ZL,ZM,ZN,ZO,ZP,ZQ,ZR,ZS,ZT,ZU,ZV,ZW,ZX,ZY,ZZ,Za,Zb,Zc,Zd,Ze,Zf,Zg,Zh,Zi,Zj,Zk,Zl,Zm,Zn,Zo,Zp,Zq,Zr,Zs,Zt,Zu,Zv,Zw,Zx,Zy,Zz,YA,YB,YC,YD,YE,YF,YG,YH,YI,YJ,YK,YL,YM,YN,YO,YP,YQ,YR,Env.set,cond_true,cond_false,String.reduceBEq,YS,YT,YU,YV,YW,YX,YY,YZ,Ya,Yb,Yc,Yd,Ye,Yf] | simp only [Yg,Yh,true_and,Yi,Yj,Yk,Yl,Ym,Yn,Yo,Yp,Yq,Yr,Yt,Yu,Yv,Yw,Yx,Yy,Yz,XA,XB,XC,XD,XE,beq_self_eq_true,reduceIte,reduceCtorEq,↓reduceIte,XF,XG,XH, hm.isList, hm.len, hw.len, eb, range_nat hlm]))
  refine wFor_idx (fun i ρ H' => H' = H ∧ ρ "_law_wishes" = some (.ref w) ∧ ρ "_law_mates_here" = some (.ref a)) ⟨rfl, rfl, rfl⟩ (fun i v ρ H' hv hI => ⟨trivial, fun k' h1 h2 => ?_⟩) fun ρ H' hI => ⟨trivial, ?_⟩
  · obtain ⟨hi, rfl⟩ := rng_get hv
    obtain ⟨rfl, e1, e2⟩ := hI
    (repeat (first | dsimp only [XI, XJ] | dsimp only [ZA,ZB,ZC,ZD,ZE,ZF,ZG,ZH,ZI,ZJ,ZK,ZL,ZM,ZN,ZO,ZP,ZQ,ZR,ZS,ZT,ZU,ZV,ZW,ZX,ZY,ZZ,Za,Zb,Zc,Zd,Ze,Zf,Zg,Zh,Zi,Zj,Zk,Zl,Zm,Zn,Zo,Zp,Zq,Zr,Zs,Zt,Zu,Zv,Zw,Zx,Zy,Zz,YA,YB,YC,YD,YE,YF,YG,YH,YI,YJ,YK,YL,YM,YN,YO,YP,YQ,YR,Env.set,cond_true,cond_false,String.reduceBEq,YS,YT,YU,YV,YW,YX,YY,YZ,Ya,Yb,Yc,Yd,Ye,Yf] | simp only [Yg,Yh,true_and,Yi,Yj,Yk,Yl,Ym,Yn,Yo,Yp,Yq,Yr,Yt,Yu,Yv,Yw,Yx,Yy,Yz,XA,XB,XC,XD,XE,beq_self_eq_true,reduceIte,reduceCtorEq,↓reduceIte,XF,XG,XH, e1, e2, hm.item hi]))
    cases hx : M.getD i none with
    | none =>
      (repeat (first | dsimp only [XI, XJ] | dsimp only [ZA,ZB,ZC,ZD,ZE,ZF,ZG,ZH,ZI,ZJ,ZK,ZL,ZM,ZN,ZO,ZP,ZQ,ZR,ZS,ZT,ZU,ZV,ZW,ZX,ZY,ZZ,Za,Zb,Zc,Zd,Ze,Zf,Zg,Zh,Zi,Zj,Zk,Zl,Zm,Zn,Zo,Zp,Zq,Zr,Zs,Zt,Zu,Zv,Zw,Zx,Zy,Zz,YA,YB,YC,YD,YE,YF,YG,YH,YI,YJ,YK,YL,YM,YN,YO,YP,YQ,YR,Env.set,cond_true,cond_false,String.reduceBEq,YS,YT,YU,YV,YW,YX,YY,YZ,Ya,Yb,Yc,Yd,Ye,Yf] | simp only [Yg,Yh,true_and,Yi,Yj,Yk,Yl,Ym,Yn,Yo,Yp,Yq,Yr,Yt,Yu,Yv,Yw,Yx,Yy,Yz,XA,XB,XC,XD,XE,beq_self_eq_true,reduceIte,reduceCtorEq,↓reduceIte,XF,XG,XH, ov]))
      exact h1 _ _ ⟨rfl, by (repeat (first | dsimp only [XI, XJ] | dsimp only [ZA,ZB,ZC,ZD,ZE,ZF,ZG,ZH,ZI,ZJ,ZK,ZL,ZM,ZN,ZO,ZP,ZQ,ZR,ZS,ZT,ZU,ZV,ZW,ZX,ZY,ZZ,Za,Zb,Zc,Zd,Ze,Zf,Zg,Zh,Zi,Zj,Zk,Zl,Zm,Zn,Zo,Zp,Zq,Zr,Zs,Zt,Zu,Zv,Zw,Zx,Zy,Zz,YA,YB,YC,YD,YE,YF,YG,YH,YI,YJ,YK,YL,YM,YN,YO,YP,YQ,YR,Env.set,cond_true,cond_false,String.reduceBEq,YS,YT,YU,YV,YW,YX,YY,YZ,Ya,Yb,Yc,Yd,Ye,Yf] | simp only [Yg,Yh,true_and,Yi,Yj,Yk,Yl,Ym,Yn,Yo,Yp,Yq,Yr,Yt,Yu,Yv,Yw,Yx,Yy,Yz,XA,XB,XC,XD,XE,beq_self_eq_true,reduceIte,reduceCtorEq,↓reduceIte,XF,XG,XH, e1])), by (repeat (first | dsimp only [XI, XJ] | dsimp only [ZA,ZB,ZC,ZD,ZE,ZF,ZG,ZH,ZI,ZJ,ZK,ZL,ZM,ZN,ZO,ZP,ZQ,ZR,ZS,ZT,ZU,ZV,ZW,ZX,ZY,ZZ,Za,Zb,Zc,Zd,Ze,Zf,Zg,Zh,Zi,Zj,Zk,Zl,Zm,Zn,Zo,Zp,Zq,Zr,Zs,Zt,Zu,Zv,Zw,Zx,Zy,Zz,YA,YB,YC,YD,YE,YF,YG,YH,YI,YJ,YK,YL,YM,YN,YO,YP,YQ,YR,Env.set,cond_true,cond_false,String.reduceBEq,YS,YT,YU,YV,YW,YX,YY,YZ,Ya,Yb,Yc,Yd,Ye,Yf] | simp only [Yg,Yh,true_and,Yi,Yj,Yk,Yl,Ym,Yn,Yo,Yp,Yq,Yr,Yt,Yu,Yv,Yw,Yx,Yy,Yz,XA,XB,XC,XD,XE,beq_self_eq_true,reduceIte,reduceCtorEq,↓reduceIte,XF,XG,XH, e2]))⟩
    | some j =>
      obtain ⟨j1, j2, j3⟩ := mok.two i j hx
      have d1 : decide ((j : Int) < 0) = false := decide_eq_false (by omega)
      have d2 : decide ((M.length : Int) ≤ (j : Int)) = false := decide_eq_false (by omega)
      (repeat (first | dsimp only [XI, XJ] | dsimp only [ZA,ZB,ZC,ZD,ZE,ZF,ZG,ZH,ZI,ZJ,ZK,ZL,ZM,ZN,ZO,ZP,ZQ,ZR,ZS,ZT,ZU,ZV,ZW,ZX,ZY,ZZ,Za,Zb,Zc,Zd,Ze,Zf,Zg,Zh,Zi,Zj,Zk,Zl,Zm,Zn,Zo,Zp,Zq,Zr,Zs,Zt,Zu,Zv,Zw,Zx,Zy,Zz,YA,YB,YC,YD,YE,YF,YG,YH,YI,YJ,YK,YL,YM,YN,YO,YP,YQ,YR,Env.set,cond_true,cond_false,String.reduceBEq,YS,YT,YU,YV,YW,YX,YY,YZ,Ya,Yb,Yc,Yd,Ye,Yf] | simp only [Yg,Yh,true_and,Yi,Yj,Yk,Yl,Ym,Yn,Yo,Yp,Yq,Yr,Yt,Yu,Yv,Yw,Yx,Yy,Yz,XA,XB,XC,XD,XE,beq_self_eq_true,reduceIte,reduceCtorEq,↓reduceIte,XF,XG,XH, ov]))
      refine s_whole hP2 ?_
      (repeat (first | dsimp only [XI, XJ] | dsimp only [ZA,ZB,ZC,ZD,ZE,ZF,ZG,ZH,ZI,ZJ,ZK,ZL,ZM,ZN,ZO,ZP,ZQ,ZR,ZS,ZT,ZU,ZV,ZW,ZX,ZY,ZZ,Za,Zb,Zc,Zd,Ze,Zf,Zg,Zh,Zi,Zj,Zk,Zl,Zm,Zn,Zo,Zp,Zq,Zr,Zs,Zt,Zu,Zv,Zw,Zx,Zy,Zz,YA,YB,YC,YD,YE,YF,YG,YH,YI,YJ,YK,YL,YM,YN,YO,YP,YQ,YR,Env.set,cond_true,cond_false,String.reduceBEq,YS,YT,YU,YV,YW,YX,YY,YZ,Ya,Yb,Yc,Yd,Ye,Yf] | simp only [Yg,Yh,true_and,Yi,Yj,Yk,Yl,Ym,Yn,Yo,Yp,Yq,Yr,Yt,Yu,Yv,Yw,Yx,Yy,Yz,XA,XB,XC,XD,XE,beq_self_eq_true,reduceIte,reduceCtorEq,↓reduceIte,XF,XG,XH, d1, d2, e2, hm.len, hm.item (show j < M.length by omega), j2, ov]))
      refine s_law_suits hP1 hw (by omega) j1 ?_
      (repeat (first | dsimp only [XI, XJ] | dsimp only [ZA,ZB,ZC,ZD,ZE,ZF,ZG,ZH,ZI,ZJ,ZK,ZL,ZM,ZN,ZO,ZP,ZQ,ZR,ZS,ZT,ZU,ZV,ZW,ZX,ZY,ZZ,Za,Zb,Zc,Zd,Ze,Zf,Zg,Zh,Zi,Zj,Zk,Zl,Zm,Zn,Zo,Zp,Zq,Zr,Zs,Zt,Zu,Zv,Zw,Zx,Zy,Zz,YA,YB,YC,YD,YE,YF,YG,YH,YI,YJ,YK,YL,YM,YN,YO,YP,YQ,YR,Env.set,cond_true,cond_false,String.reduceBEq,YS,YT,YU,YV,YW,YX,YY,YZ,Ya,Yb,Yc,Yd,Ye,Yf] | simp only [Yg,Yh,true_and,Yi,Yj,Yk,Yl,Ym,Yn,Yo,Yp,Yq,Yr,Yt,Yu,Yv,Yw,Yx,Yy,Yz,XA,XB,XC,XD,XE,beq_self_eq_true,reduceIte,reduceCtorEq,↓reduceIte,XF,XG,XH, j3]))
      exact h1 _ _ ⟨rfl, by (repeat (first | dsimp only [XI, XJ] | dsimp only [ZA,ZB,ZC,ZD,ZE,ZF,ZG,ZH,ZI,ZJ,ZK,ZL,ZM,ZN,ZO,ZP,ZQ,ZR,ZS,ZT,ZU,ZV,ZW,ZX,ZY,ZZ,Za,Zb,Zc,Zd,Ze,Zf,Zg,Zh,Zi,Zj,Zk,Zl,Zm,Zn,Zo,Zp,Zq,Zr,Zs,Zt,Zu,Zv,Zw,Zx,Zy,Zz,YA,YB,YC,YD,YE,YF,YG,YH,YI,YJ,YK,YL,YM,YN,YO,YP,YQ,YR,Env.set,cond_true,cond_false,String.reduceBEq,YS,YT,YU,YV,YW,YX,YY,YZ,Ya,Yb,Yc,Yd,Ye,Yf] | simp only [Yg,Yh,true_and,Yi,Yj,Yk,Yl,Ym,Yn,Yo,Yp,Yq,Yr,Yt,Yu,Yv,Yw,Yx,Yy,Yz,XA,XB,XC,XD,XE,beq_self_eq_true,reduceIte,reduceCtorEq,↓reduceIte,XF,XG,XH, e1])), by (repeat (first | dsimp only [XI, XJ] | dsimp only [ZA,ZB,ZC,ZD,ZE,ZF,ZG,ZH,ZI,ZJ,ZK,ZL,ZM,ZN,ZO,ZP,ZQ,ZR,ZS,ZT,ZU,ZV,ZW,ZX,ZY,ZZ,Za,Zb,Zc,Zd,Ze,Zf,Zg,Zh,Zi,Zj,Zk,Zl,Zm,Zn,Zo,Zp,Zq,Zr,Zs,Zt,Zu,Zv,Zw,Zx,Zy,Zz,YA,YB,YC,YD,YE,YF,YG,YH,YI,YJ,YK,YL,YM,YN,YO,YP,YQ,YR,Env.set,cond_true,cond_false,String.reduceBEq,YS,YT,YU,YV,YW,YX,YY,YZ,Ya,Yb,Yc,Yd,Ye,Yf] | simp only [Yg,Yh,true_and,Yi,Yj,Yk,Yl,Ym,Yn,Yo,Yp,Yq,Yr,Yt,Yu,Yv,Yw,Yx,Yy,Yz,XA,XB,XC,XD,XE,beq_self_eq_true,reduceIte,reduceCtorEq,↓reduceIte,XF,XG,XH, e2]))⟩
  · obtain ⟨rfl, e1, e2⟩ := hI
    (repeat (first | dsimp only [XI, XJ] | dsimp only [ZA,ZB,ZC,ZD,ZE,ZF,ZG,ZH,ZI,ZJ,ZK,ZL,ZM,ZN,ZO,ZP,ZQ,ZR,ZS,ZT,ZU,ZV,ZW,ZX,ZY,ZZ,Za,Zb,Zc,Zd,Ze,Zf,Zg,Zh,Zi,Zj,Zk,Zl,Zm,Zn,Zo,Zp,Zq,Zr,Zs,Zt,Zu,Zv,Zw,Zx,Zy,Zz,YA,YB,YC,YD,YE,YF,YG,YH,YI,YJ,YK,YL,YM,YN,YO,YP,YQ,YR,Env.set,cond_true,cond_false,String.reduceBEq,YS,YT,YU,YV,YW,YX,YY,YZ,Ya,Yb,Yc,Yd,Ye,Yf] | simp only [Yg,Yh,true_and,Yi,Yj,Yk,Yl,Ym,Yn,Yo,Yp,Yq,Yr,Yt,Yu,Yv,Yw,Yx,Yy,Yz,XA,XB,XC,XD,XE,beq_self_eq_true,reduceIte,reduceCtorEq,↓reduceIte,XF,XG,XH]))
    exact h

theorem cut_from {α : Type} (xs : List α) (i : Nat) : cut xs (some (i : Int)) none = xs.drop i := by
  unfold cut clampIdx
  have e : ¬ (i : Int) < 0 := by omega
  simp only [Option.elim, e, if_false]
  by_cases h : i ≤ xs.length
  · have : (max 0 (min (i : Int) (xs.length : Int))).toNat = i := by omega
    rw [this]; exact List.take_of_length_le (by simp)
  · have : (max 0 (min (i : Int) (xs.length : Int))).toNat = xs.length := by omega
    rw [this, List.drop_of_length_le (Nat.le_refl _), List.drop_of_length_le (by omega)]; simp
end

/-- a list of guests -/
noncomputable def LN (H : Hp) (a : Nat) (l : List Nat) : Prop := H[a]? = some (.list (l.map fun i : Nat => V.int (i : Int)))
theorem LN.pre {H H' : Hp} {a : Nat} {is : List Nat} (h : LN H a is) (hp : H <+: H') : LN H' a is := pre_get hp h
theorem LN.len {H : Hp} {w : Nat} {l : List Nat} (h : LN H w l) : lenV (.ref w) H = some (l.length : Int) := by
  unfold lenV; simp [seqOf_list h]
theorem LN.item {H : Hp} {a : Nat} {is : List Nat} (h : LN H a is) {i : Nat} {x : Nat} (hi : is[i]? = some x) : itemV (.ref a) (.int (i : Int)) H = some (.int (x : Int)) :=
  item_seq (seqOf_list h) (by rw [List.getElem?_map, hi]; rfl)
theorem LN.tail {H : Hp} {a : Nat} {g : Nat} {r : List Nat} (h : LN H a (g :: r)) : sliceV (.ref a) (some 1) none H = some (.ref H.length, H ++ [.list (r.map fun i : Nat => V.int (i : Int))]) := by
  rw [sl_ref h, show (1 : Int) = ((1 : Nat) : Int) from rfl, cut_from]; rfl

section
variable {P : Prog} {b : Bool} {n : Nat} {X : XP}
end
end Mine

namespace Mine
open PySem

theorem canLay_ods : ∀ Xs : List Mt, PyData.canLayAll0 (Xs.map fun M => .list (M.map od)) = true
  | [] => rfl
  | l :: W => by simp [ca_n, ca_c, cl_n, cl_b, cl_i, cl_s, cl_l, cl_t, canLay_od, canLay_ods W]
theorem eqv_ods : ∀ W W' : List Mt, PyData.eqvAll (W.map fun l => .list (l.map od)) (W'.map fun l => .list (l.map od)) = decide (W = W')
  | [], [] => rfl
  | [], _ :: _ => by simp [da_nn, da_cc, da_nc, da_cn]
  | _ :: _, [] => by simp [da_nn, da_cc, da_nc, da_cn]
  | i :: l, j :: l' => by
    simp only [List.map_cons, da_nn, da_cc, da_nc, da_cn, dq_ii, dq_nn, dq_in, dq_ni, dq_bb, dq_ss, dq_ll, dq_tt, eqv_ods l l', eqv_od, List.cons.injEq]
    by_cases e : i = j <;> simp [e]
theorem ML.readN {c : Nat} {H : Hp} {w : Nat} {Xs : List Mt} (h : ML c H w Xs) (n : Nat) : readD (n + 2) H (.ref w) = some (.list (Xs.map fun M => .list (M.map od))) := by
  obtain ⟨_, rs, h1, h2⟩ := h
  have : rs.mapM (readD (n + 1) H) = some (Xs.map fun M => PyData.list (M.map od)) := by
    clear h1
    induction h2 with
    | nil => rfl
    | cons hr _ ih =>
      obtain ⟨b, rfl, _, _, _, hb⟩ := hr
      rw [List.mapM_cons, ih, hb.readN n]; rfl
  rw [rd_r]
  simp only [h1, this]; rfl
theorem ML.eq {c c' : Nat} {H : Hp} {w w' : Nat} {W W' : List Mt} (h : ML c H w W) (h' : ML c' H w' W') : eqD H (.ref w) (.ref w') = some (decide (W = W')) := by
  simp [eqD, h.readN 6, h'.readN 6, cl_n, cl_b, cl_i, cl_s, cl_l, cl_t, canLay_ods, dq_ii, dq_nn, dq_in, dq_ni, dq_bb, dq_ss, dq_ll, dq_tt, eqv_ods]

theorem s_law_restless5 {P : Prog} {b : Bool} {n : Nat} {X : XP} {H : Hp} {Q : Post} (hP : P.fn "_law_restless" = some f__law_restless_05) (hP1 : P.fn "_law_rather" = some f__law_rather) (hP2 : P.fn "_law_suits" = some f__law_suits) {aw am : Nat} {W : List (List Int)} {M : Mt} (hw : WH H aw W) (ok : WOk W) (hm : MT H am M) (mok : MOk W M)
    (h : ∀ H' r, H <+: H' → H.length ≤ r → PR H' r (restP W M) → Q (.ref r) H') : callN P b (n + 3) "_law_restless" [.ref aw, .ref am] H Q X :=
  s_restFn (w := "_law_wishes") (m := "_law_mates_here") (p := "_law_found") (o := "_law_one") (t := "_law_other") (f := "_law_rather") hP (fun hw _ hg _ _ h1 h2 h => s_law_rather hP1 hP2 hw hg h1 h2 h) (by decide) hw ok hm mok h

end Mine

namespace Mine
open PySem

structure Calm (W : List (List Int)) (X : Mt) : Prop where
  ok : MOk W X
  calm : ∀ i j, i < W.length → j < W.length → i ≠ j → soonerP W i (some j) (X.getD i none) = true → soonerP W j (some i) (X.getD j none) = false

theorem rest_mem {W : List (List Int)} {M : Mt} {i j : Nat} (hij : i < j) (hj : j < W.length) (h : restAt W M i j = true) : (i, j) ∈ restP W M := by
  unfold restP restTo
  rw [List.mem_flatMap]
  refine ⟨i, by simp; omega, ?_⟩
  unfold rowP
  rw [List.mem_map]
  have e : i + 1 + (j - (i + 1)) = j := by omega
  exact ⟨j - (i + 1), List.mem_filter.mpr ⟨by simp; omega, by rw [e]; exact h⟩, by rw [e]⟩

theorem Calm.of {W : List (List Int)} {X : Mt} (mok : MOk W X) (h : restP W X = []) : Calm W X := by
  refine ⟨mok, fun i j hi hj hne h1 => ?_⟩
  cases h2 : soonerP W j (some i) (X.getD j none) with
  | false => rfl
  | true =>
    rcases Nat.lt_or_gt_of_ne hne with q | q
    · have := rest_mem (M := X) q hj (by unfold restAt; rw [h1, h2]; rfl)
      rw [h] at this; cases this
    · have := rest_mem (M := X) q hi (by unfold restAt; rw [h1, h2]; rfl)
      rw [h] at this; cases this

theorem calmW_mem {W : List (List Int)} {X : Mt} (h : X ∈ calmW W) : MOk W X ∧ restP W X = [] := by
  obtain ⟨h1, h2⟩ := List.mem_filter.mp h
  refine ⟨twosW_ok h1, List.length_eq_zero_iff.mp ?_⟩
  have : ((restP W X).length : Int) = 0 := by simpa using h2
  omega

theorem both_self {W : List (List Int)} (ok : WOk W) {i : Nat} (hi : i < W.length) : both W i i = false := by
  unfold both
  have := (ok.rows i hi).ne
  simp [this]
theorem both_comm (W : List (List Int)) (i j : Nat) : both W i j = both W j i := by unfold both; rw [Bool.and_comm]
theorem both_mem {W : List (List Int)} {i j : Nat} (h : both W i j = true) : (j : Int) ∈ row W i := by unfold both at h; simp at h; exact h.1

theorem idx_inj {l : List Int} {a b : Int} (ha : a ∈ l) (hb : b ∈ l) (h : l.idxOf a = l.idxOf b) : a = b := by
  have h1 := List.getElem_idxOf (List.idxOf_lt_length_of_mem ha)
  have h2 := List.getElem_idxOf (List.idxOf_lt_length_of_mem hb)
  simp only [h] at h1
  exact h1.symm.trans h2

/-- a guest with a mate in one who would rather have that one than what it has in the other -/
noncomputable def rich (W : List (List Int)) (X Y : Mt) (i : Nat) : Bool := match X.getD i none with
  | some a => soonerP W i (some a) (Y.getD i none)
  | none => false

theorem rich_mate {W : List (List Int)} (ok : WOk W) {X Y : Mt} (hX : MOk W X) (hY : Calm W Y) {i : Nat} (hi : i < W.length) (h : rich W X Y i = true) : ∃ a, X.getD i none = some a ∧ a < W.length ∧ X.getD a none = some i ∧ rich W Y X a = true := by
  unfold rich at h
  split at h
  · rename_i a ha
    obtain ⟨a1, a2, a3⟩ := hX.two i a ha
    have hne : i ≠ a := by rintro rfl; rw [both_self ok hi] at a3; cases a3
    have hs := hY.calm i a hi a1 hne h
    have a3' : both W a i = true := by rw [both_comm]; exact a3
    refine ⟨a, ha, a1, a2, ?_⟩
    unfold rich
    cases hb : Y.getD a none with
    | none => rw [hb] at hs; simp only [soonerP] at hs; rw [a3'] at hs; cases hs
    | some b =>
      obtain ⟨b1, b2, b3⟩ := hY.ok.two a b hb
      rw [hb] at hs
      have hib : i ≠ b := by
        rintro rfl
        rw [b2] at h
        simp [soonerP] at h
      have e1 : (i != b) = true := by simp [hib]
      simp only [soonerP, e1, a3', b3, Bool.not_true, Bool.true_and, Bool.false_or, decide_eq_false_iff_not] at hs
      have hlt : (row W a).idxOf (b : Int) < (row W a).idxOf (i : Int) := by
        rcases Nat.lt_trichotomy ((row W a).idxOf (b : Int)) ((row W a).idxOf (i : Int)) with q | q | q
        · exact q
        · have := idx_inj (both_mem b3) (both_mem a3') q; omega
        · exact absurd q hs
      rw [a2]
      have e2 : (b != i) = true := by simp [Ne.symm hib]
      simp only [soonerP, e2, b3, Bool.true_and, a3', Bool.not_true, Bool.false_or]
      exact decide_eq_true hlt
  · cases h

theorem alone_le {W : List (List Int)} (ok : WOk W) {X Y : Mt} (hX : Calm W X) (hY : Calm W Y) {g : Nat} (hg : g < W.length) (h : Y.getD g none = none) : X.getD g none = none := by
  cases hx : X.getD g none with
  | none => rfl
  | some a =>
    exfalso
    have rg : rich W X Y g = true := by
      unfold rich; rw [hx, h]
      simp only [soonerP]
      exact (hX.ok.two g a hx).2.2
    have step : ∀ {X Y : Mt}, Calm W X → Calm W Y → ∀ i, i < W.length → rich W X Y i = true → (X.getD i none).getD 0 < W.length ∧ rich W Y X ((X.getD i none).getD 0) = true ∧ X.getD ((X.getD i none).getD 0) none = some i := fun hX hY i hi hr => by
      obtain ⟨a, e, q1, q2, q3⟩ := rich_mate ok hX.ok hY hi hr
      rw [e]; exact ⟨q1, q3, q2⟩
    have le : ∀ {X Y : Mt}, Calm W X → Calm W Y → (L : List Nat) → (∀ i, i < W.length → rich W Y X i = true → (∃ j, X.getD i none = some j) → i ∈ L) → ((List.range W.length).filter (rich W X Y)).length ≤ L.length := fun {X Y} hX hY L hL => by
      have := nodup_le (l := ((List.range W.length).filter (rich W X Y)).map fun i => (X.getD i none).getD 0) (m := L) (nodup_mapF _ (List.nodup_range.sublist List.filter_sublist) fun x hx y hy e => ?_) fun z hz => ?_
      · simpa using this
      · obtain ⟨x1, x2⟩ := List.mem_filter.mp hx
        obtain ⟨y1, y2⟩ := List.mem_filter.mp hy
        have s1 := (step hX hY x (by simpa using x1) x2).2.2
        have s2 := (step hX hY y (by simpa using y1) y2).2.2
        rw [e] at s1
        rw [s1] at s2; cases s2; rfl
      · obtain ⟨x, hx, rfl⟩ := List.mem_map.mp hz
        obtain ⟨x1, x2⟩ := List.mem_filter.mp hx
        obtain ⟨s1, s2, s3⟩ := step hX hY x (by simpa using x1) x2
        exact hL _ s1 s2 ⟨_, s3⟩
    have l1 := le hX hY ((List.range W.length).filter (rich W Y X)) fun i hi hr _ => List.mem_filter.mpr ⟨by simpa using hi, hr⟩
    have hgm : g ∈ (List.range W.length).filter (rich W X Y) := List.mem_filter.mpr ⟨by simpa using hg, rg⟩
    have l2 := le hY hX (((List.range W.length).filter (rich W X Y)).erase g) fun i hi hr ⟨j, hj⟩ => by
      refine (List.mem_erase_of_ne ?_).mpr (List.mem_filter.mpr ⟨by simpa using hi, hr⟩)
      rintro rfl; rw [h] at hj; cases hj
    rw [List.length_erase_of_mem hgm] at l2
    have := List.length_pos_of_mem hgm
    omega

theorem alone_same {W : List (List Int)} (ok : WOk W) {X Y : Mt} (hX : X ∈ calmW W) (hY : Y ∈ calmW W) {g : Nat} (hg : g < W.length) : decide (X.getD g none = none) = decide (Y.getD g none = none) := by
  obtain ⟨x1, x2⟩ := calmW_mem hX
  obtain ⟨y1, y2⟩ := calmW_mem hY
  have cx := Calm.of x1 x2
  have cy := Calm.of y1 y2
  by_cases q : X.getD g none = none
  · rw [decide_eq_true q, decide_eq_true (alone_le ok cy cx hg q)]
  · have : ¬ Y.getD g none = none := fun e => q (alone_le ok cx cy hg e)
    rw [decide_eq_false q, decide_eq_false this]
end Mine

namespace Mine
open PySem

theorem rowOk_mk {l : List Int} {g : Int} {m : Nat} (hm : m ≤ 6) (low : ∀ x ∈ l, 0 ≤ x ∧ x < (m : Int)) (ne : g ∉ l) (nd : l.Nodup) : RowOk l g m := by
  refine ⟨low, ne, nd, ?_⟩
  have := nodup_le (m := (List.range m).map fun i : Nat => (i : Int)) nd fun x hx => by
    obtain ⟨h1, h2⟩ := low x hx
    exact List.mem_map.mpr ⟨x.toNat, by simp; omega, by omega⟩
  simp at this; omega

section
variable {P : Prog} {b : Bool} {n : Nat} {H : Hp} {Q : Post} {X : XP}

end

end Mine

namespace Mine

noncomputable def at0 : List Nat → Nat → Nat
  | [], _ => 0
  | a :: _, 0 => a
  | _ :: l, k + 1 => at0 l k
noncomputable def hasN : List Nat → Nat → Bool
  | [], _ => false
  | a :: l, x => bif Nat.beq a x then true else hasN l x
noncomputable def idxN : List Nat → Nat → Nat
  | [], _ => 0
  | a :: l, x => bif Nat.beq a x then 0 else idxN l x + 1
noncomputable def sameN : List Nat → List Nat → Bool
  | [], [] => true
  | a :: l, b :: m => bif Nat.beq a b then sameN l m else false
  | _, _ => false
noncomputable def sameNs : List (List Nat) → List (List Nat) → Bool
  | [], [] => true
  | a :: l, b :: m => bif sameN a b then sameNs l m else false
  | _, _ => false
noncomputable def sameO : List (Option Nat) → List (Option Nat) → Bool
  | [], [] => true
  | none :: l, none :: m => sameO l m
  | some a :: l, some b :: m => bif Nat.beq a b then sameO l m else false
  | _, _ => false
noncomputable def upto : Nat → List Nat → List Nat
  | 0, acc => acc
  | k + 1, acc => upto k (k :: acc)
noncomputable def nx (A : List Nat) (g : Nat) : Nat := at0 A g

/-- from here on, guest by guest, till one is met; the ring turned about -/
noncomputable def follow (A : List Nat) : Nat → List Nat → Nat → List Nat → List Nat × List Nat
  | 0, met, _, ring => (met, ring)
  | k + 1, met, here, ring => bif hasN met here then (met, ring) else follow A k (here :: met) (nx A here) (here :: ring)

noncomputable def roundStep (A : List Nat) (p : List Nat × List (List Nat)) (g : Nat) : List Nat × List (List Nat) :=
  bif hasN p.1 g then p else match follow A (A.length + 1) p.1 g [] with | (m, r) => (m, r.reverse :: p.2)
noncomputable def roundsTo (A : List Nat) (k : Nat) : List Nat × List (List Nat) := (upto k []).foldl (roundStep A) ([], [])
noncomputable def roundsF (A : List Nat) : List (List Nat) := (roundsTo A A.length).2.reverse

noncomputable def walkF (A : List Nat) (g : Nat) : Nat → List Nat → List Nat
  | 0, r => r
  | k + 1, r => bif Nat.beq (nx A (r.headD 0)) g then r else walkF A g k (nx A (r.headD 0) :: r)
noncomputable def ringR (A : List Nat) (g : Nat) : List Nat := walkF A g A.length [g]
noncomputable def ringsTo (A : List Nat) (k : Nat) : List (List Nat) := (upto k []).foldl (fun f g => bif (ringR A g).all (fun x => g.ble x) then (ringR A g).reverse :: f else f) []

/-- what a ring tells of its guests -/
noncomputable def factAt (A R : List Nat) (n i g : Nat) : Bool := Nat.blt g A.length && Nat.beq (at0 R ((i + 1) % n)) (nx A g) && Nat.beq (at0 R ((i + (n - 1)) % n)) (idxN A g) && (Nat.blt 1 n == !(Nat.beq (nx A g) g)) && (Nat.blt 2 n == (!(Nat.beq (nx A g) g) && !(Nat.beq (nx A (nx A g)) g)))
noncomputable def ringFacts (A R : List Nat) : Bool := Nat.blt 0 R.length && Nat.ble R.length A.length && (upto R.length []).all fun i => factAt A R R.length i (at0 R i)

noncomputable def pairIn (M : List (Option Nat)) (a b : Nat) : List (Option Nat) := (M.set a (some b)).set b (some a)
noncomputable def turned (ahead : Bool) (R : List Nat) : List Nat := if ahead then R.drop 1 ++ R.take 1 else R
noncomputable def pairRing (M : List (Option Nat)) (R : List Nat) (k : Nat) : List (Option Nat) := (upto k []).foldl (fun M i => pairIn M (at0 R (2 * i)) (at0 R (2 * i + 1))) M
noncomputable def pairTo (ahead : Bool) (Rs : List (List Nat)) (M : List (Option Nat)) : List (Option Nat) := Rs.foldl (fun M R => pairRing M (turned ahead R) (R.length / 2)) M
noncomputable def pairedF (A : List Nat) (ahead : Bool) : List (Option Nat) := pairTo ahead (roundsF A) (List.replicate A.length none)

/-- whom the law pairs: the k-th of a ring with the one before or behind it -/
noncomputable def dueAt (n : Nat) (step : Int) (k : Nat) : Nat := (((k : Int) + step * (1 - 2 * ((k : Int) % 2))) % (n : Int)).toNat
noncomputable def dueRing (M : List (Option Nat)) (R : List Nat) (step : Int) (k : Nat) : List (Option Nat) := (upto k []).foldl (fun M i => bif Nat.blt 1 R.length then M.set (at0 R i) (some (at0 R (dueAt R.length step i))) else M) M
noncomputable def dueTo (Rs : List (List Nat)) (step : Int) (M : List (Option Nat)) : List (Option Nat) := Rs.foldl (fun M R => dueRing M R step R.length) M

noncomputable def oddR (R : List Nat) : Bool := Nat.blt 1 R.length && Nat.beq (R.length % 2) 1

noncomputable def okA (A : List Nat) : Bool := sameNs (roundsF A) (ringsTo A A.length).reverse && (roundsF A).all (ringFacts A) && (upto A.length []).all (fun g => (roundsF A).any fun R => hasN R g) &&
  (upto A.length []).all (fun g => Nat.beq (nx A ((ringR A g).headD 0)) g && hasN (ringR A g) g && (ringR A g).all (fun x => Nat.blt x A.length) && Nat.blt (nx A g) A.length) &&
  Nat.beq (((roundsF A).map (fun R => R.length)).sum) A.length &&
  ((roundsF A).any oddR || (sameO (pairedF A false) (dueTo (roundsF A) 1 (List.replicate A.length none)) && sameO (pairedF A true) (dueTo (roundsF A) (-1) (List.replicate A.length none))))

noncomputable def enumP : Nat → List Nat → List (List Nat)
  | 0, _ => [[]]
  | k + 1, left => left.flatMap fun x => (enumP k (left.erase x)).map (x :: ·)

theorem mem_enumP : ∀ {A left : List Nat}, A.Perm left → A ∈ enumP left.length left
  | [], left, h => by
    have : left = [] := h.symm.eq_nil
    subst this; exact .head _
  | x :: A, left, h => by
    obtain ⟨h1, h2⟩ := List.cons_perm_iff_perm_erase.mp h
    obtain ⟨k, hk⟩ : ∃ k, left.length = k + 1 := ⟨left.length - 1, by have := List.length_pos_of_mem h1; omega⟩
    rw [hk, enumP, List.mem_flatMap]
    refine ⟨x, h1, List.mem_map.mpr ⟨A, ?_, rfl⟩⟩
    have := mem_enumP h2
    rw [List.length_erase_of_mem h1, hk] at this
    exact this

theorem ok1 : (enumP 1 (List.range 1)).all okA = true := by decide +kernel
theorem ok2 : (enumP 2 (List.range 2)).all okA = true := by decide +kernel
theorem ok3 : (enumP 3 (List.range 3)).all okA = true := by decide +kernel
theorem ok4 : (enumP 4 (List.range 4)).all okA = true := by decide +kernel
theorem ok5 : (enumP 5 (List.range 5)).all okA = true := by decide +kernel
theorem ok60 : ((enumP 5 [1, 2, 3, 4, 5]).map (0 :: ·)).all okA = true := by decide +kernel
theorem ok61 : ((enumP 5 [0, 2, 3, 4, 5]).map (1 :: ·)).all okA = true := by decide +kernel
theorem ok62 : ((enumP 5 [0, 1, 3, 4, 5]).map (2 :: ·)).all okA = true := by decide +kernel
theorem ok63 : ((enumP 5 [0, 1, 2, 4, 5]).map (3 :: ·)).all okA = true := by decide +kernel
theorem ok64 : ((enumP 5 [0, 1, 2, 3, 5]).map (4 :: ·)).all okA = true := by decide +kernel
theorem ok65 : ((enumP 5 [0, 1, 2, 3, 4]).map (5 :: ·)).all okA = true := by decide +kernel
theorem ok6 : (enumP 6 [0, 1, 2, 3, 4, 5]).all okA = true := by
  have e : enumP 6 [0, 1, 2, 3, 4, 5] = ((enumP 5 [1, 2, 3, 4, 5]).map (0 :: ·)) ++ (((enumP 5 [0, 2, 3, 4, 5]).map (1 :: ·)) ++ (((enumP 5 [0, 1, 3, 4, 5]).map (2 :: ·)) ++ (((enumP 5 [0, 1, 2, 4, 5]).map (3 :: ·)) ++ (((enumP 5 [0, 1, 2, 3, 5]).map (4 :: ·)) ++ (((enumP 5 [0, 1, 2, 3, 4]).map (5 :: ·)) ++ []))))) := rfl
  rw [e]
  simp only [List.all_append, ok60, ok61, ok62, ok63, ok64, ok65, List.all_nil, Bool.and_self]

theorem le6 {n : Nat} (h1 : 1 ≤ n) (h6 : n ≤ 6) : n = 1 ∨ n = 2 ∨ n = 3 ∨ n = 4 ∨ n = 5 ∨ n = 6 := match n, h1, h6 with
  | 1, _, _ => .inl rfl
  | 2, _, _ => .inr (.inl rfl)
  | 3, _, _ => .inr (.inr (.inl rfl))
  | 4, _, _ => .inr (.inr (.inr (.inl rfl)))
  | 5, _, _ => .inr (.inr (.inr (.inr (.inl rfl))))
  | 6, _, _ => .inr (.inr (.inr (.inr (.inr rfl))))
theorem okA_of {A : List Nat} (h1 : 1 ≤ A.length) (h6 : A.length ≤ 6) (hp : A.Perm (List.range A.length)) : okA A = true := by
  have hm := mem_enumP hp
  rw [List.length_range] at hm
  rcases le6 h1 h6 with e | e | e | e | e | e <;> rw [e] at hm
  · exact List.all_eq_true.mp ok1 A hm
  · exact List.all_eq_true.mp ok2 A hm
  · exact List.all_eq_true.mp ok3 A hm
  · exact List.all_eq_true.mp ok4 A hm
  · exact List.all_eq_true.mp ok5 A hm
  · exact List.all_eq_true.mp ok6 A hm

theorem at0_eq : ∀ (l : List Nat) (i : Nat), at0 l i = l.getD i 0
  | [], _ => rfl
  | _ :: _, 0 => rfl
  | _ :: l, i + 1 => by rw [at0, at0_eq l i]; simp
theorem hasN_eq : ∀ (l : List Nat) (x : Nat), hasN l x = decide (x ∈ l)
  | [], _ => by simp [hasN]
  | a :: l, x => by
    rw [hasN, hasN_eq l x]
    by_cases e : a = x
    · subst e; simp
    · have : Nat.beq a x = false := by rw [← Bool.not_eq_true, Nat.beq_eq]; exact e
      rw [this]
      have : x ≠ a := fun q => e q.symm
      simp [this]
theorem idxN_eq : ∀ (l : List Nat) (x : Nat), idxN l x = l.idxOf x
  | [], _ => rfl
  | a :: l, x => by
    rw [idxN, idxN_eq l x, List.idxOf_cons]
    by_cases e : a = x
    · subst e; simp
    · have h1 : Nat.beq a x = false := by rw [← Bool.not_eq_true, Nat.beq_eq]; exact e
      have h2 : (a == x) = false := beq_eq_false_iff_ne.mpr e
      rw [h1, h2]
theorem bif_tt {a b : Bool} (h : (bif a then b else false) = true) : a = true ∧ b = true := by
  cases a with
  | false => cases h
  | true => exact ⟨rfl, h⟩
theorem sameN_eq : ∀ {l m : List Nat}, sameN l m = true → l = m
  | [], [], _ => rfl
  | a :: l, b :: m, h => by
    obtain ⟨h1, h2⟩ := bif_tt (a := Nat.beq a b) (b := sameN l m) h
    rw [Nat.eq_of_beq_eq_true h1, sameN_eq h2]
  | [], _ :: _, h => by cases h
  | _ :: _, [], h => by cases h
theorem sameNs_eq : ∀ {l m : List (List Nat)}, sameNs l m = true → l = m
  | [], [], _ => rfl
  | a :: l, b :: m, h => by
    obtain ⟨h1, h2⟩ := bif_tt (a := sameN a b) (b := sameNs l m) h
    rw [sameN_eq h1, sameNs_eq h2]
  | [], _ :: _, h => by cases h
  | _ :: _, [], h => by cases h
theorem sameO_eq : ∀ {l m : List (Option Nat)}, sameO l m = true → l = m
  | [], [], _ => rfl
  | none :: l, none :: m, h => by rw [sameO_eq (l := l) (m := m) h]
  | some a :: l, some b :: m, h => by
    obtain ⟨h1, h2⟩ := bif_tt (a := Nat.beq a b) (b := sameO l m) h
    rw [Nat.eq_of_beq_eq_true h1, sameO_eq h2]
  | [], _ :: _, h => by cases h
  | none :: _, [], h => by cases h
  | some _ :: _, [], h => by cases h
  | none :: _, some _ :: _, h => by cases h
  | some _ :: _, none :: _, h => by cases h
theorem upto_eq : ∀ (k : Nat) (acc : List Nat), upto k acc = List.range k ++ acc
  | 0, _ => rfl
  | k + 1, acc => by rw [upto, upto_eq k, List.range_succ]; simp

theorem blt_iff {a b : Nat} : Nat.blt a b = true ↔ a < b := by
  unfold Nat.blt; rw [Nat.ble_eq]; exact Iff.rfl
theorem blt_dec (a b : Nat) : Nat.blt a b = decide (a < b) := by
  by_cases q : a < b
  · rw [decide_eq_true q]; exact blt_iff.mpr q
  · rw [decide_eq_false q, ← Bool.not_eq_true]; exact fun z => q (blt_iff.mp z)
theorem beq_dec (a b : Nat) : Nat.beq a b = decide (a = b) := by
  by_cases q : a = b
  · rw [decide_eq_true q]; simpa [Nat.beq_eq] using q
  · rw [decide_eq_false q, ← Bool.not_eq_true]; simpa [Nat.beq_eq] using q

structure PartyOk (A : List Nat) : Prop where
  rings : roundsF A = (ringsTo A A.length).reverse
  facts : ∀ R ∈ roundsF A, 0 < R.length ∧ R.length ≤ A.length ∧ ∀ i, i < R.length → (R.getD i 0 < A.length ∧ R.getD ((i + 1) % R.length) 0 = nx A (R.getD i 0) ∧ R.getD ((i + (R.length - 1)) % R.length) 0 = A.idxOf (R.getD i 0) ∧
    (1 < R.length ↔ nx A (R.getD i 0) ≠ R.getD i 0) ∧ (2 < R.length ↔ nx A (R.getD i 0) ≠ R.getD i 0 ∧ nx A (nx A (R.getD i 0)) ≠ R.getD i 0))
  cover : ∀ g, g < A.length → ∃ R ∈ roundsF A, g ∈ R
  back : ∀ g, g < A.length → nx A ((ringR A g).headD 0) = g ∧ g ∈ ringR A g ∧ (∀ x ∈ ringR A g, x < A.length) ∧ nx A g < A.length
  sum : ((roundsF A).map fun R => R.length).sum = A.length
  pair : (roundsF A).any oddR = false → pairedF A false = dueTo (roundsF A) 1 (List.replicate A.length none) ∧ pairedF A true = dueTo (roundsF A) (-1) (List.replicate A.length none)

theorem PartyOk.of {A : List Nat} (h : okA A = true) : PartyOk A := by
  unfold okA at h
  simp only [Bool.and_eq_true] at h
  obtain ⟨⟨⟨⟨⟨h1, h2⟩, h3⟩, h4⟩, h5⟩, h6⟩ := h
  refine ⟨sameNs_eq h1, fun R hR => ?_, fun g hg => ?_, fun g hg => ?_, Nat.eq_of_beq_eq_true h5, fun ho => ?_⟩
  · have := List.all_eq_true.mp h2 R hR
    unfold ringFacts at this
    simp only [Bool.and_eq_true] at this
    obtain ⟨⟨a1, a2⟩, a3⟩ := this
    refine ⟨blt_iff.mp a1, by simpa [Nat.ble_eq] using a2, fun i hi => ?_⟩
    have := List.all_eq_true.mp a3 i (by rw [upto_eq]; simpa using hi)
    unfold factAt at this
    rw [at0_eq, at0_eq, at0_eq, idxN_eq] at this
    simp only [Bool.and_eq_true, beq_iff_eq] at this
    obtain ⟨⟨⟨⟨b1, b2⟩, b3⟩, b4⟩, b5⟩ := this
    rw [blt_dec] at b1 b4 b5
    rw [beq_dec] at b4 b5
    rw [beq_dec] at b5
    refine ⟨of_decide_eq_true b1, Nat.eq_of_beq_eq_true b2, Nat.eq_of_beq_eq_true b3, ?_, ?_⟩
    · have : decide (1 < R.length) = decide (nx A (R.getD i 0) ≠ R.getD i 0) := by rw [b4]; simp
      simpa using decide_eq_decide.mp this
    · have : decide (2 < R.length) = decide (nx A (R.getD i 0) ≠ R.getD i 0 ∧ nx A (nx A (R.getD i 0)) ≠ R.getD i 0) := by rw [b5]; simp
      simpa using decide_eq_decide.mp this
  · have := List.all_eq_true.mp h3 g (by rw [upto_eq]; simpa using hg)
    obtain ⟨R, hR, q⟩ := List.any_eq_true.mp this
    rw [hasN_eq] at q
    exact ⟨R, hR, of_decide_eq_true q⟩
  · have := List.all_eq_true.mp h4 g (by rw [upto_eq]; simpa using hg)
    simp only [Bool.and_eq_true] at this
    obtain ⟨⟨⟨c1, c2⟩, c3⟩, c4⟩ := this
    rw [hasN_eq] at c2
    refine ⟨Nat.eq_of_beq_eq_true c1, of_decide_eq_true c2, fun x hx => ?_, blt_iff.mp c4⟩
    exact blt_iff.mp (List.all_eq_true.mp c3 x hx)
  · rw [ho, Bool.false_or, Bool.and_eq_true] at h6
    exact ⟨sameO_eq h6.1, sameO_eq h6.2⟩
end Mine

namespace Mine
open PySem

noncomputable def ci (l : List Nat) : List Int := l.map fun i : Nat => (i : Int)
theorem LN.li {H : Hp} {a : Nat} {l : List Nat} (h : LN H a l) : LI H a (ci l) := by unfold LI ci; rw [List.map_map]; exact h
theorem LI.ln {H : Hp} {a : Nat} {l : List Nat} (h : LI H a (ci l)) : LN H a l := by unfold LI ci at h; rw [List.map_map] at h; exact h
theorem LN.isList {H : Hp} {w : Nat} {W : List Nat} (h : LN H w W) : isInst (.ref w) ["list"] H = true := h.li.isList
theorem LN.mem {H : Hp} {a : Nat} {l : List Nat} (h : LN H a l) (x : Nat) : Mine.mem H (.int (x : Int)) (.ref a) = some (decide (x ∈ l)) := by
  rw [h.li.mem]
  congr 1
  rw [decide_eq_decide]
  unfold ci
  rw [List.mem_map]
  constructor
  · rintro ⟨y, hy, e⟩; have : y = x := by omega
    exact this ▸ hy
  · exact fun h => ⟨x, h, rfl⟩
theorem LN.sliceTo {H : Hp} {a : Nat} {l : List Nat} (h : LN H a l) (i : Nat) : sliceV (.ref a) none (some (i : Int)) H = some (.ref H.length, H ++ [.list ((l.take i).map fun i : Nat => V.int (i : Int))]) := by
  rw [sl_ref h, cut_to, List.map_take]
theorem LN.sliceFrom {H : Hp} {a : Nat} {l : List Nat} (h : LN H a l) (i : Nat) : sliceV (.ref a) (some (i : Int)) none H = some (.ref H.length, H ++ [.list ((l.drop i).map fun i : Nat => V.int (i : Int))]) := by
  rw [sl_ref h, cut_from, List.map_drop]
theorem LN.at {H : Hp} {a : Nat} {l : List Nat} (h : LN H a l) {i : Nat} (hi : i < l.length) : itemV (.ref a) (.int (i : Int)) H = some (.int ((l.getD i 0 : Nat) : Int)) :=
  h.item (by rw [List.getElem?_eq_getElem hi, List.getD_eq_getElem?_getD, List.getElem?_eq_getElem hi]; rfl)
theorem LN.new (H : Hp) (l : List Nat) : LN (H ++ [.list (l.map fun i : Nat => V.int (i : Int))]) H.length l := get_new _ _
theorem LN.push {H : Hp} {a : Nat} {l : List Nat} (h : LN H a l) (hl : l.length < lim) (x : Nat) : methV .append [.ref a, .int (x : Int)] H = some (.none, H.set a (.list ((l ++ [x]).map fun i : Nat => V.int (i : Int)))) ∧ LN (H.set a (.list ((l ++ [x]).map fun i : Nat => V.int (i : Int)))) a (l ++ [x]) := by
  refine ⟨?_, get_set_eq h _⟩
  rw [append_at h (by rw [List.length_map]; exact hl)]; simp
theorem nx_get {A : List Nat} {g : Nat} : nx A g = A.getD g 0 := at0_eq A g
theorem LN.nx {H : Hp} {a : Nat} {A : List Nat} (h : LN H a A) {g : Nat} (hg : g < A.length) : itemV (.ref a) (.int (g : Int)) H = some (.int ((Mine.nx A g : Nat) : Int)) := by rw [nx_get]; exact h.at hg

/-- an order of the guests -/
structure AOk (A : List Nat) : Prop where
  pos : 1 ≤ A.length
  le : A.length ≤ 6
  perm : A.Perm (List.range A.length)
theorem AOk.ok {A : List Nat} (h : AOk A) : PartyOk A := .of (okA_of h.pos h.le h.perm)
theorem AOk.nodup {A : List Nat} (h : AOk A) : A.Nodup := h.perm.nodup_iff.mpr List.nodup_range
theorem AOk.lt {A : List Nat} (h : AOk A) {x : Nat} (hx : x ∈ A) : x < A.length := by simpa using h.perm.mem_iff.mp hx
theorem AOk.mem {A : List Nat} (h : AOk A) {x : Nat} (hx : x < A.length) : x ∈ A := h.perm.mem_iff.mpr (by simpa using hx)
theorem AOk.nx {A : List Nat} (h : AOk A) {g : Nat} (hg : g < A.length) : nx A g < A.length := (h.ok.back g hg).2.2.2

/-- everything but what stands at m is kept -/
noncomputable def KE (m : Nat) (H H' : Hp) : Prop := ∀ a o, a ≠ m → H[a]? = some o → H'[a]? = some o
section
variable {P : Prog} {b : Bool} {n : Nat} {H : Hp} {Q : Post} {X : XP}

theorem s_afters (hP : P.fn "_law_afters" = some f__law_afters) {c : Int} {m : Nat} (hm : m ≤ 6) (h1m : 1 ≤ m) (h : ∀ H' r A, H <+: H' → LN H' r A → AOk A → A.length = m → Q (.ref r) H') : callN P b (n + 1) "_law_afters" [.int c, .int (m : Int)] H Q X := by
  have hml : m ≤ lim := Nat.le_trans hm (by decide)
  have hrl : (rangeI 0 (m : Int) 1).length ≤ lim := by
    have := congrArg List.length (rangeI_rng m)
    rw [List.length_map, rng_len] at this; omega
  (refine callN_in hP rfl ?_; unfold f__law_afters)
  (repeat (first | dsimp only [XI, XJ] | dsimp only [ZA,ZB,ZC,ZD,ZE,ZF,ZG,ZH,ZI,ZJ,ZK,ZL,ZM,ZN,ZO,ZP,ZQ,ZR,ZS,ZT,ZU,ZV,ZW,ZX,ZY,ZZ,Za,Zb,Zc,Zd,Ze,Zf,Zg,Zh,Zi,Zj,Zk,Zl,Zm,Zn,Zo,Zp,Zq,Zr,Zs,Zt,Zu,Zv,Zw,Zx,Zy,Zz,YA,YB,YC,YD,YE,YF,YG,YH,YI,YJ,YK,YL,YM,YN,YO,YP,YQ,YR,Env.set,cond_true,cond_false,String.reduceBEq,YS,YT,YU,YV,YW,YX,YY,YZ,Ya,Yb,Yc,Yd,Ye,Yf] | simp only [Yg,Yh,true_and,Yi,Yj,Yk,Yl,Ym,Yn,Yo,Yp,Yq,Yr,Yt,Yu,Yv,Yw,Yx,Yy,Yz,XA,XB,XC,XD,XE,beq_self_eq_true,reduceIte,reduceCtorEq,↓reduceIte,XF,XG,XH, range_nat hml, hrl, if_true]))
  have e0 : H ++ [O.list (rng m)] ++ [O.list []] = H ++ [.list ((List.range m).map fun i : Nat => V.int (i : Int)), .list (([] : List Nat).map fun i : Nat => V.int (i : Int))] := by simp [rng]
  rw [e0]
  refine wWhile_ex (fun k ρ H1 => ∃ (l r : List Nat) (c : Int), H1 = H ++ [.list (l.map fun i : Nat => V.int (i : Int)), .list (r.map fun i : Nat => V.int (i : Int))] ∧ k = l.length ∧ (l ++ r).Perm (List.range m) ∧
    ρ "_law_left" = some (.ref H.length) ∧ ρ "_law_after" = some (.ref (H.length + 1)) ∧ ρ "_law_cell" = some (.int c)) (m := m) ⟨List.range m, [], c, rfl, by simp, by simp, by (repeat (first | dsimp only [XI, XJ] | dsimp only [ZA,ZB,ZC,ZD,ZE,ZF,ZG,ZH,ZI,ZJ,ZK,ZL,ZM,ZN,ZO,ZP,ZQ,ZR,ZS,ZT,ZU,ZV,ZW,ZX,ZY,ZZ,Za,Zb,Zc,Zd,Ze,Zf,Zg,Zh,Zi,Zj,Zk,Zl,Zm,Zn,Zo,Zp,Zq,Zr,Zs,Zt,Zu,Zv,Zw,Zx,Zy,Zz,YA,YB,YC,YD,YE,YF,YG,YH,YI,YJ,YK,YL,YM,YN,YO,YP,YQ,YR,Env.set,cond_true,cond_false,String.reduceBEq,YS,YT,YU,YV,YW,YX,YY,YZ,Ya,Yb,Yc,Yd,Ye,Yf] | simp only [Yg,Yh,true_and,Yi,Yj,Yk,Yl,Ym,Yn,Yo,Yp,Yq,Yr,Yt,Yu,Yv,Yw,Yx,Yy,Yz,XA,XB,XC,XD,XE,beq_self_eq_true,reduceIte,reduceCtorEq,↓reduceIte,XF,XG,XH])), by (repeat (first | dsimp only [XI, XJ] | dsimp only [ZA,ZB,ZC,ZD,ZE,ZF,ZG,ZH,ZI,ZJ,ZK,ZL,ZM,ZN,ZO,ZP,ZQ,ZR,ZS,ZT,ZU,ZV,ZW,ZX,ZY,ZZ,Za,Zb,Zc,Zd,Ze,Zf,Zg,Zh,Zi,Zj,Zk,Zl,Zm,Zn,Zo,Zp,Zq,Zr,Zs,Zt,Zu,Zv,Zw,Zx,Zy,Zz,YA,YB,YC,YD,YE,YF,YG,YH,YI,YJ,YK,YL,YM,YN,YO,YP,YQ,YR,Env.set,cond_true,cond_false,String.reduceBEq,YS,YT,YU,YV,YW,YX,YY,YZ,Ya,Yb,Yc,Yd,Ye,Yf] | simp only [Yg,Yh,true_and,Yi,Yj,Yk,Yl,Ym,Yn,Yo,Yp,Yq,Yr,Yt,Yu,Yv,Yw,Yx,Yy,Yz,XA,XB,XC,XD,XE,beq_self_eq_true,reduceIte,reduceCtorEq,↓reduceIte,XF,XG,XH])); simp, by (repeat (first | dsimp only [XI, XJ] | dsimp only [ZA,ZB,ZC,ZD,ZE,ZF,ZG,ZH,ZI,ZJ,ZK,ZL,ZM,ZN,ZO,ZP,ZQ,ZR,ZS,ZT,ZU,ZV,ZW,ZX,ZY,ZZ,Za,Zb,Zc,Zd,Ze,Zf,Zg,Zh,Zi,Zj,Zk,Zl,Zm,Zn,Zo,Zp,Zq,Zr,Zs,Zt,Zu,Zv,Zw,Zx,Zy,Zz,YA,YB,YC,YD,YE,YF,YG,YH,YI,YJ,YK,YL,YM,YN,YO,YP,YQ,YR,Env.set,cond_true,cond_false,String.reduceBEq,YS,YT,YU,YV,YW,YX,YY,YZ,Ya,Yb,Yc,Yd,Ye,Yf] | simp only [Yg,Yh,true_and,Yi,Yj,Yk,Yl,Ym,Yn,Yo,Yp,Yq,Yr,Yt,Yu,Yv,Yw,Yx,Yy,Yz,XA,XB,XC,XD,XE,beq_self_eq_true,reduceIte,reduceCtorEq,↓reduceIte,XF,XG,XH]))⟩ fun k ρ H1 hI k' h1 h2 => ?_
  obtain ⟨l, r, c, rfl, rfl, hperm, e1, e2, e3⟩ := hI
  have hL : LN (H ++ [.list (l.map fun i : Nat => V.int (i : Int)), .list (r.map fun i : Nat => V.int (i : Int))]) H.length l := get2a _ _ _
  have hR : LN (H ++ [.list (l.map fun i : Nat => V.int (i : Int)), .list (r.map fun i : Nat => V.int (i : Int))]) (H.length + 1) r := get2b _ _ _
  have hlen : l.length + r.length = m := by have := hperm.length_eq; simpa using this
  (repeat (first | dsimp only [XI, XJ] | dsimp only [ZA,ZB,ZC,ZD,ZE,ZF,ZG,ZH,ZI,ZJ,ZK,ZL,ZM,ZN,ZO,ZP,ZQ,ZR,ZS,ZT,ZU,ZV,ZW,ZX,ZY,ZZ,Za,Zb,Zc,Zd,Ze,Zf,Zg,Zh,Zi,Zj,Zk,Zl,Zm,Zn,Zo,Zp,Zq,Zr,Zs,Zt,Zu,Zv,Zw,Zx,Zy,Zz,YA,YB,YC,YD,YE,YF,YG,YH,YI,YJ,YK,YL,YM,YN,YO,YP,YQ,YR,Env.set,cond_true,cond_false,String.reduceBEq,YS,YT,YU,YV,YW,YX,YY,YZ,Ya,Yb,Yc,Yd,Ye,Yf] | simp only [Yg,Yh,true_and,Yi,Yj,Yk,Yl,Ym,Yn,Yo,Yp,Yq,Yr,Yt,Yu,Yv,Yw,Yx,Yy,Yz,XA,XB,XC,XD,XE,beq_self_eq_true,reduceIte,reduceCtorEq,↓reduceIte,XF,XG,XH, e1, e2, e3, hL.len]))
  refine ⟨fun q => ?_, fun q => ?_⟩
  · have hpos : 0 < l.length := by simp at q; exact q
    obtain ⟨i, hi, ei⟩ := fmod_nat c hpos
    have hz : ((l.length : Int) = 0) = False := by simp; intro e; simp [e] at hpos
    obtain ⟨x, hx⟩ : ∃ x, l[i]? = some x := ⟨_, List.getElem?_eq_getElem hi⟩
    have hp := pop_at (i := i) (v := .int (x : Int)) hL (by rw [List.getElem?_map, hx]; rfl)
    have em : (l.map fun i : Nat => V.int (i : Int)).eraseIdx i = (l.eraseIdx i).map fun i : Nat => V.int (i : Int) := by
      rw [List.eraseIdx_eq_take_drop_succ, List.eraseIdx_eq_take_drop_succ, List.map_append, List.map_take, List.map_drop]
    rw [set2a, em] at hp
    have hL' : LN (H ++ [.list ((l.eraseIdx i).map fun i : Nat => V.int (i : Int)), .list (r.map fun i : Nat => V.int (i : Int))]) H.length (l.eraseIdx i) := get2a _ _ _
    have hR' : LN (H ++ [.list ((l.eraseIdx i).map fun i : Nat => V.int (i : Int)), .list (r.map fun i : Nat => V.int (i : Int))]) (H.length + 1) r := get2b _ _ _
    have ha := append_at (v := .int (x : Int)) hR' (by rw [List.length_map]; unfold lim; omega)
    rw [set2b] at ha
    have hL2 : LN (H ++ [.list ((l.eraseIdx i).map fun i : Nat => V.int (i : Int)), .list ((r.map fun i : Nat => V.int (i : Int)) ++ [.int (x : Int)])]) H.length (l.eraseIdx i) := get2a _ _ _
    have hz2 : (((l.eraseIdx i).length : Int) + 1 = 0 ∨ 2 ^ 30 ≤ (((l.eraseIdx i).length : Int) + 1).natAbs) = False := by
      have : (l.eraseIdx i).length ≤ 6 := by rw [List.length_eraseIdx]; split <;> omega
      simp; omega
    (repeat (first | dsimp only [XI, XJ] | dsimp only [ZA,ZB,ZC,ZD,ZE,ZF,ZG,ZH,ZI,ZJ,ZK,ZL,ZM,ZN,ZO,ZP,ZQ,ZR,ZS,ZT,ZU,ZV,ZW,ZX,ZY,ZZ,Za,Zb,Zc,Zd,Ze,Zf,Zg,Zh,Zi,Zj,Zk,Zl,Zm,Zn,Zo,Zp,Zq,Zr,Zs,Zt,Zu,Zv,Zw,Zx,Zy,Zz,YA,YB,YC,YD,YE,YF,YG,YH,YI,YJ,YK,YL,YM,YN,YO,YP,YQ,YR,Env.set,cond_true,cond_false,String.reduceBEq,YS,YT,YU,YV,YW,YX,YY,YZ,Ya,Yb,Yc,Yd,Ye,Yf] | simp only [Yg,Yh,true_and,Yi,Yj,Yk,Yl,Ym,Yn,Yo,Yp,Yq,Yr,Yt,Yu,Yv,Yw,Yx,Yy,Yz,XA,XB,XC,XD,XE,beq_self_eq_true,reduceIte,reduceCtorEq,↓reduceIte,XF,XG,XH, (recvL hL).2.1, (recvL hR).1, hz, ei, hp, ha, hL2.len, e1, e3, hz2]))
    have pm : List.Perm (l.eraseIdx i ++ (r ++ [x])) (l ++ r) := by
      have h1 : List.Perm l (x :: l.eraseIdx i) := erase_perm hx
      refine List.Perm.symm (List.Perm.trans (h1.append_right r) ?_)
      rw [← List.append_assoc]
      refine List.Perm.trans ?_ (List.perm_append_singleton _ _).symm
      exact List.Perm.refl _
    refine h1 (l.eraseIdx i).length _ _ (by rw [List.length_eraseIdx, if_pos hi]; omega) ⟨l.eraseIdx i, r ++ [x], c.fdiv (((l.eraseIdx i).length : Int) + 1), by simp, rfl, pm.trans hperm, ?_⟩
    (repeat (first | dsimp only [XI, XJ] | dsimp only [ZA,ZB,ZC,ZD,ZE,ZF,ZG,ZH,ZI,ZJ,ZK,ZL,ZM,ZN,ZO,ZP,ZQ,ZR,ZS,ZT,ZU,ZV,ZW,ZX,ZY,ZZ,Za,Zb,Zc,Zd,Ze,Zf,Zg,Zh,Zi,Zj,Zk,Zl,Zm,Zn,Zo,Zp,Zq,Zr,Zs,Zt,Zu,Zv,Zw,Zx,Zy,Zz,YA,YB,YC,YD,YE,YF,YG,YH,YI,YJ,YK,YL,YM,YN,YO,YP,YQ,YR,Env.set,cond_true,cond_false,String.reduceBEq,YS,YT,YU,YV,YW,YX,YY,YZ,Ya,Yb,Yc,Yd,Ye,Yf] | simp only [Yg,Yh,true_and,Yi,Yj,Yk,Yl,Ym,Yn,Yo,Yp,Yq,Yr,Yt,Yu,Yv,Yw,Yx,Yy,Yz,XA,XB,XC,XD,XE,beq_self_eq_true,reduceIte,reduceCtorEq,↓reduceIte,XF,XG,XH, e1, e2]))
  · have hpos : l = [] := by simp at q; exact q
    subst hpos
    (repeat (first | dsimp only [XI, XJ] | dsimp only [ZA,ZB,ZC,ZD,ZE,ZF,ZG,ZH,ZI,ZJ,ZK,ZL,ZM,ZN,ZO,ZP,ZQ,ZR,ZS,ZT,ZU,ZV,ZW,ZX,ZY,ZZ,Za,Zb,Zc,Zd,Ze,Zf,Zg,Zh,Zi,Zj,Zk,Zl,Zm,Zn,Zo,Zp,Zq,Zr,Zs,Zt,Zu,Zv,Zw,Zx,Zy,Zz,YA,YB,YC,YD,YE,YF,YG,YH,YI,YJ,YK,YL,YM,YN,YO,YP,YQ,YR,Env.set,cond_true,cond_false,String.reduceBEq,YS,YT,YU,YV,YW,YX,YY,YZ,Ya,Yb,Yc,Yd,Ye,Yf] | simp only [Yg,Yh,true_and,Yi,Yj,Yk,Yl,Ym,Yn,Yo,Yp,Yq,Yr,Yt,Yu,Yv,Yw,Yx,Yy,Yz,XA,XB,XC,XD,XE,beq_self_eq_true,reduceIte,reduceCtorEq,↓reduceIte,XF,XG,XH, e2]))
    have hr : r.length = m := by simpa using hlen
    exact h _ _ r (List.prefix_append _ _) hR ⟨by omega, by omega, by rw [hr]; simpa using hperm⟩ hr

theorem s_need_parties (hP : P.fn "need_parties" = some f_need_parties) (hP1 : P.fn "is_guest" = some f_is_guest) (hG : P.glob "MOST_GUESTS" = some (.int 6)) {a : Nat} {A : List Nat} (hA : LN H a A) (ok : AOk A)
    (h : ∀ H', H <+: H' → Q .none H') : callN P b (n + 2) "need_parties" [.ref a] H Q X := by
  have l1 := ok.pos
  have l2 := ok.le
  have hl : A.length ≤ lim := Nat.le_trans ok.le (by decide)
  have d1 : decide ((1 : Int) ≤ (A.length : Int)) = true := decide_eq_true (by omega)
  have d2 : decide ((A.length : Int) ≤ 6) = true := decide_eq_true (by omega)
  (refine callN_in hP rfl ?_; unfold f_need_parties)
  (repeat (first | dsimp only [XI, XJ] | dsimp only [ZA,ZB,ZC,ZD,ZE,ZF,ZG,ZH,ZI,ZJ,ZK,ZL,ZM,ZN,ZO,ZP,ZQ,ZR,ZS,ZT,ZU,ZV,ZW,ZX,ZY,ZZ,Za,Zb,Zc,Zd,Ze,Zf,Zg,Zh,Zi,Zj,Zk,Zl,Zm,Zn,Zo,Zp,Zq,Zr,Zs,Zt,Zu,Zv,Zw,Zx,Zy,Zz,YA,YB,YC,YD,YE,YF,YG,YH,YI,YJ,YK,YL,YM,YN,YO,YP,YQ,YR,Env.set,cond_true,cond_false,String.reduceBEq,YS,YT,YU,YV,YW,YX,YY,YZ,Ya,Yb,Yc,Yd,Ye,Yf] | simp only [Yg,Yh,true_and,Yi,Yj,Yk,Yl,Ym,Yn,Yo,Yp,Yq,Yr,Yt,Yu,Yv,Yw,Yx,Yy,Yz,XA,XB,XC,XD,XE,beq_self_eq_true,reduceIte,reduceCtorEq,↓reduceIte,XF,XG,XH, hA.isList, hA.len, hG, d1, d2, range_nat hl]))
  refine wFor_idx (fun i ρ H' => H <+: H' ∧ ρ "after" = some (.ref a)) ⟨List.prefix_refl _, rfl⟩ (fun i v ρ H' hv hI => ⟨trivial, fun k' h1 h2 => ?_⟩) fun ρ H' hI => ⟨trivial, ?_⟩
  · obtain ⟨hi, rfl⟩ := rng_get hv
    obtain ⟨hp, e1⟩ := hI
    have hA' := hA.pre hp
    (repeat (first | dsimp only [XI, XJ] | dsimp only [ZA,ZB,ZC,ZD,ZE,ZF,ZG,ZH,ZI,ZJ,ZK,ZL,ZM,ZN,ZO,ZP,ZQ,ZR,ZS,ZT,ZU,ZV,ZW,ZX,ZY,ZZ,Za,Zb,Zc,Zd,Ze,Zf,Zg,Zh,Zi,Zj,Zk,Zl,Zm,Zn,Zo,Zp,Zq,Zr,Zs,Zt,Zu,Zv,Zw,Zx,Zy,Zz,YA,YB,YC,YD,YE,YF,YG,YH,YI,YJ,YK,YL,YM,YN,YO,YP,YQ,YR,Env.set,cond_true,cond_false,String.reduceBEq,YS,YT,YU,YV,YW,YX,YY,YZ,Ya,Yb,Yc,Yd,Ye,Yf] | simp only [Yg,Yh,true_and,Yi,Yj,Yk,Yl,Ym,Yn,Yo,Yp,Yq,Yr,Yt,Yu,Yv,Yw,Yx,Yy,Yz,XA,XB,XC,XD,XE,beq_self_eq_true,reduceIte,reduceCtorEq,↓reduceIte,XF,XG,XH, e1, hA'.at hi, hA'.len]))
    refine s_is_guest hP1 ?_
    have hx : A[i]? = some (A.getD i 0) := by rw [List.getD_eq_getElem?_getD, List.getElem?_eq_getElem hi]; rfl
    have hlt := ok.lt (List.mem_of_getElem? hx)
    have q1 : decide ((0 : Int) ≤ ((A.getD i 0 : Nat) : Int) ∧ ((A.getD i 0 : Nat) : Int) < (A.length : Int)) = true := decide_eq_true (by omega)
    have q3 : decide (A.getD i 0 ∈ A.take i) = false := by
      simp only [decide_eq_false_iff_not]
      intro hm
      obtain ⟨j, hj, e⟩ := List.mem_iff_getElem.mp hm
      have hj' : j < i := by simp at hj; omega
      rw [List.getElem_take] at e
      obtain ⟨hi', e'⟩ := List.getElem?_eq_some_iff.mp hx
      exact List.pairwise_iff_getElem.mp ok.nodup j i (by omega) hi' hj' (by rw [e, e'])
    (repeat (first | dsimp only [XI, XJ] | dsimp only [ZA,ZB,ZC,ZD,ZE,ZF,ZG,ZH,ZI,ZJ,ZK,ZL,ZM,ZN,ZO,ZP,ZQ,ZR,ZS,ZT,ZU,ZV,ZW,ZX,ZY,ZZ,Za,Zb,Zc,Zd,Ze,Zf,Zg,Zh,Zi,Zj,Zk,Zl,Zm,Zn,Zo,Zp,Zq,Zr,Zs,Zt,Zu,Zv,Zw,Zx,Zy,Zz,YA,YB,YC,YD,YE,YF,YG,YH,YI,YJ,YK,YL,YM,YN,YO,YP,YQ,YR,Env.set,cond_true,cond_false,String.reduceBEq,YS,YT,YU,YV,YW,YX,YY,YZ,Ya,Yb,Yc,Yd,Ye,Yf] | simp only [Yg,Yh,true_and,Yi,Yj,Yk,Yl,Ym,Yn,Yo,Yp,Yq,Yr,Yt,Yu,Yv,Yw,Yx,Yy,Yz,XA,XB,XC,XD,XE,beq_self_eq_true,reduceIte,reduceCtorEq,↓reduceIte,XF,XG,XH, q1, hA'.at hi, hA'.sliceTo i, (LN.new H' (A.take i)).mem (A.getD i 0), q3]))
    exact h1 _ _ ⟨hp.trans (pre_new _ _), by (repeat (first | dsimp only [XI, XJ] | dsimp only [ZA,ZB,ZC,ZD,ZE,ZF,ZG,ZH,ZI,ZJ,ZK,ZL,ZM,ZN,ZO,ZP,ZQ,ZR,ZS,ZT,ZU,ZV,ZW,ZX,ZY,ZZ,Za,Zb,Zc,Zd,Ze,Zf,Zg,Zh,Zi,Zj,Zk,Zl,Zm,Zn,Zo,Zp,Zq,Zr,Zs,Zt,Zu,Zv,Zw,Zx,Zy,Zz,YA,YB,YC,YD,YE,YF,YG,YH,YI,YJ,YK,YL,YM,YN,YO,YP,YQ,YR,Env.set,cond_true,cond_false,String.reduceBEq,YS,YT,YU,YV,YW,YX,YY,YZ,Ya,Yb,Yc,Yd,Ye,Yf] | simp only [Yg,Yh,true_and,Yi,Yj,Yk,Yl,Ym,Yn,Yo,Yp,Yq,Yr,Yt,Yu,Yv,Yw,Yx,Yy,Yz,XA,XB,XC,XD,XE,beq_self_eq_true,reduceIte,reduceCtorEq,↓reduceIte,XF,XG,XH, e1]))⟩
  · (repeat (first | dsimp only [XI, XJ] | dsimp only [ZA,ZB,ZC,ZD,ZE,ZF,ZG,ZH,ZI,ZJ,ZK,ZL,ZM,ZN,ZO,ZP,ZQ,ZR,ZS,ZT,ZU,ZV,ZW,ZX,ZY,ZZ,Za,Zb,Zc,Zd,Ze,Zf,Zg,Zh,Zi,Zj,Zk,Zl,Zm,Zn,Zo,Zp,Zq,Zr,Zs,Zt,Zu,Zv,Zw,Zx,Zy,Zz,YA,YB,YC,YD,YE,YF,YG,YH,YI,YJ,YK,YL,YM,YN,YO,YP,YQ,YR,Env.set,cond_true,cond_false,String.reduceBEq,YS,YT,YU,YV,YW,YX,YY,YZ,Ya,Yb,Yc,Yd,Ye,Yf] | simp only [Yg,Yh,true_and,Yi,Yj,Yk,Yl,Ym,Yn,Yo,Yp,Yq,Yr,Yt,Yu,Yv,Yw,Yx,Yy,Yz,XA,XB,XC,XD,XE,beq_self_eq_true,reduceIte,reduceCtorEq,↓reduceIte,XF,XG,XH]))
    exact h H' hI.1

end
end Mine

namespace Mine
open PySem

theorem pre_of {H H' : Hp} (h : ∀ i, i < H.length → H'[i]? = H[i]?) : H <+: H' := by
  rw [List.prefix_iff_eq_take]
  refine List.ext_getElem? fun i => ?_
  by_cases hi : i < H.length
  · rw [List.getElem?_take_of_lt hi, h i hi]
  · rw [List.getElem?_eq_none (by omega), List.getElem?_eq_none]
    rw [List.length_take]; omega

structure RS (H H' : Hp) (a : Nat) (met : List Nat) (Rs : List (List Nat)) : Prop where
  low : H.length + 2 ≤ a
  pre : ∀ i, i < H.length → H'[i]? = H[i]?
  fs : ∃ fs, H'[H.length]? = some (.list fs) ∧ All2 (fun v R => ∃ b, v = .ref b ∧ H.length + 2 ≤ b ∧ b < a ∧ LN H' b R) fs Rs
  es : ∃ es, H'[H.length + 1]? = some (.dict es) ∧ (∀ k : Nat, (es.any fun e => e.1 == (k : Int)) = hasN met k) ∧ es.length = met.length

theorem RS.keep {H H' H'' : Hp} {a : Nat} {met : List Nat} {Rs : List (List Nat)} (h : RS H H' a met Rs) (hk : ∀ i, i < a → H''[i]? = H'[i]?) : RS H H'' a met Rs := by
  have hl := h.low
  refine ⟨h.low, fun i hi => by rw [hk i (by omega), h.pre i hi], ?_, ?_⟩
  · obtain ⟨fs, h1, h2⟩ := h.fs
    refine ⟨fs, by rw [hk _ (by omega), h1], h2.mono fun v R ⟨b, e, q1, q2, q3⟩ => ⟨b, e, q1, q2, ?_⟩⟩
    unfold LN; rw [hk b q2]; exact q3
  · obtain ⟨es, h1, h2⟩ := h.es
    exact ⟨es, by rw [hk _ (by omega), h1], h2⟩
theorem RS.up {H H' : Hp} {a a' : Nat} {met : List Nat} {Rs : List (List Nat)} (h : RS H H' a met Rs) (ha : a ≤ a') : RS H H' a' met Rs :=
  ⟨Nat.le_trans h.low ha, h.pre, let ⟨fs, h1, h2⟩ := h.fs; ⟨fs, h1, h2.mono fun _ _ ⟨b, e, q1, q2, q3⟩ => ⟨b, e, q1, by omega, q3⟩⟩, h.es⟩
theorem RS.mem {H H' : Hp} {a : Nat} {met : List Nat} {Rs : List (List Nat)} (h : RS H H' a met Rs) (k : Nat) : Mine.mem H' (.int (k : Int)) (.ref (H.length + 1)) = some (hasN met k) := by
  obtain ⟨es, h1, h2, _⟩ := h.es
  exact (mem_ref h1).trans (congrArg some (h2 k))
theorem RS.meet {H H' : Hp} {a : Nat} {met : List Nat} {Rs : List (List Nat)} (h : RS H H' a met Rs) {k : Nat} (hk : hasN met k = false) (hl : met.length < lim) : ∃ H'', setV (.ref (H.length + 1)) (.int (k : Int)) (.bool true) H' = some H'' ∧ RS H H'' a (k :: met) Rs ∧ H''.length = H'.length ∧ ∀ i, i ≠ H.length + 1 → H''[i]? = H'[i]? := by
  obtain ⟨es, h1, h2, h3⟩ := h.es
  have hlow := h.low
  refine ⟨H'.set (H.length + 1) (.dict (es ++ [((k : Int), .bool true)])), ?_, ⟨h.low, fun i hi => by rw [get_set_ne (by omega), h.pre i hi], ?_, ?_⟩, by simp, fun i hi => get_set_ne hi _⟩
  · simp only [setV, h1, dictPut, h2, hk, h3, hl, if_true]
    simp
  · obtain ⟨fs, g1, g2⟩ := h.fs
    refine ⟨fs, by rw [get_set_ne (by omega), g1], g2.mono fun v R ⟨b, e, q1, q2, q3⟩ => ⟨b, e, q1, q2, ?_⟩⟩
    unfold LN; rw [get_set_ne (by omega)]; exact q3
  · refine ⟨_, get_set_eq h1 _, fun j => ?_, by simp [h3]⟩
    rw [List.any_append, h2, hasN_eq, hasN_eq]
    by_cases e : j = k
    · subst e; simp
    · have : ¬ ((k : Int) = (j : Int)) := by omega
      simp [e, this]
theorem RS.push {H H' : Hp} {a : Nat} {met : List Nat} {Rs : List (List Nat)} (h : RS H H' a met Rs) {R : List Nat} (hR : LN H' a R) (hl : Rs.length < lim) : ∃ H'', methV .append [.ref H.length, .ref a] H' = some (.none, H'') ∧ RS H H'' (a + 1) met (Rs ++ [R]) ∧ H''.length = H'.length := by
  obtain ⟨fs, g1, g2⟩ := h.fs
  have hlow := h.low
  refine ⟨_, append_at g1 (by rw [g2.length]; exact hl), ⟨by omega, fun i hi => by rw [get_set_ne (by omega), h.pre i hi], ?_, ?_⟩, by simp⟩
  · refine ⟨_, get_set_eq g1 _, All2.append (g2.mono fun v R ⟨b, e, q1, q2, q3⟩ => ⟨b, e, q1, by omega, by unfold LN; rw [get_set_ne (by omega)]; exact q3⟩) (.cons ⟨a, rfl, h.low, by omega, by unfold LN; rw [get_set_ne (by omega)]; exact hR⟩ .nil)⟩
  · obtain ⟨es, h1, h2⟩ := h.es
    exact ⟨es, by rw [get_set_ne (by omega), h1], h2⟩

theorem roundsTo_succ (A : List Nat) (k : Nat) : roundsTo A (k + 1) = roundStep A (roundsTo A k) k := by
  unfold roundsTo
  rw [upto_eq, upto_eq, List.append_nil, List.append_nil, List.range_succ, List.foldl_append]; rfl

theorem lt_of_nodup {n : Nat} {l : List Nat} (hn : l.Nodup) (hl : ∀ x ∈ l, x < n) : l.length ≤ n := by
  have := List.Nodup.length_le_of_subset (l₁ := l) (l₂ := List.range n) hn fun x hx => List.mem_range.mpr (hl x hx)
  simpa using this

noncomputable def WN (H : Hp) (r : Nat) (Rs : List (List Nat)) : Prop := WH H r (Rs.map ci)

section
variable {P : Prog} {b : Bool} {n : Nat} {H : Hp} {Q : Post} {X : XP}

theorem s_rounds (hP : P.fn "rounds" = some f_rounds) {a : Nat} {A : List Nat} (hA : LN H a A) (ok : AOk A) (h : ∀ H' r, H <+: H' → H.length ≤ r → WN H' r (roundsF A) → Q (.ref r) H') : callN P b (n + 1) "rounds" [.ref a] H Q X := by
  have hl : A.length ≤ lim := Nat.le_trans ok.le (by decide)
  have hle := ok.le
  have haH : a < H.length := (List.getElem?_eq_some_iff.mp hA).1
  (refine callN_in hP rfl ?_; unfold f_rounds)
  have e0 : (H ++ [O.list []]).length = H.length + 1 := by simp
  (repeat (first | dsimp only [XI, XJ] | dsimp only [ZA,ZB,ZC,ZD,ZE,ZF,ZG,ZH,ZI,ZJ,ZK,ZL,ZM,ZN,ZO,ZP,ZQ,ZR,ZS,ZT,ZU,ZV,ZW,ZX,ZY,ZZ,Za,Zb,Zc,Zd,Ze,Zf,Zg,Zh,Zi,Zj,Zk,Zl,Zm,Zn,Zo,Zp,Zq,Zr,Zs,Zt,Zu,Zv,Zw,Zx,Zy,Zz,YA,YB,YC,YD,YE,YF,YG,YH,YI,YJ,YK,YL,YM,YN,YO,YP,YQ,YR,Env.set,cond_true,cond_false,String.reduceBEq,YS,YT,YU,YV,YW,YX,YY,YZ,Ya,Yb,Yc,Yd,Ye,Yf] | simp only [Yg,Yh,true_and,Yi,Yj,Yk,Yl,Ym,Yn,Yo,Yp,Yq,Yr,Yt,Yu,Yv,Yw,Yx,Yy,Yz,XA,XB,XC,XD,XE,beq_self_eq_true,reduceIte,reduceCtorEq,↓reduceIte,XF,XG,XH, e0, (((hA.pre (pre_new _ (.list []))).pre (pre_new _ (.dict [])))).len, range_nat hl]))
  refine wFor_idx (fun i ρ H' => RS H H' H'.length (roundsTo A i).1 (roundsTo A i).2.reverse ∧ (roundsTo A i).2.length ≤ i ∧ (roundsTo A i).1.Nodup ∧ (∀ x ∈ (roundsTo A i).1, x < A.length) ∧
    ρ "after" = some (.ref a) ∧ ρ "found" = some (.ref H.length) ∧ ρ "met" = some (.ref (H.length + 1))) ⟨⟨by simp, fun i hi => by rw [List.append_assoc, List.getElem?_append_left hi], ⟨[], by simp, .nil⟩, ⟨[], by simp, fun _ => rfl, rfl⟩⟩, Nat.zero_le _, .nil, (fun x hx => by cases hx), by (repeat (first | dsimp only [XI, XJ] | dsimp only [ZA,ZB,ZC,ZD,ZE,ZF,ZG,ZH,ZI,ZJ,ZK,ZL,ZM,ZN,ZO,ZP,ZQ,ZR,ZS,ZT,ZU,ZV,ZW,ZX,ZY,ZZ,Za,Zb,Zc,Zd,Ze,Zf,Zg,Zh,Zi,Zj,Zk,Zl,Zm,Zn,Zo,Zp,Zq,Zr,Zs,Zt,Zu,Zv,Zw,Zx,Zy,Zz,YA,YB,YC,YD,YE,YF,YG,YH,YI,YJ,YK,YL,YM,YN,YO,YP,YQ,YR,Env.set,cond_true,cond_false,String.reduceBEq,YS,YT,YU,YV,YW,YX,YY,YZ,Ya,Yb,Yc,Yd,Ye,Yf] | simp only [Yg,Yh,true_and,Yi,Yj,Yk,Yl,Ym,Yn,Yo,Yp,Yq,Yr,Yt,Yu,Yv,Yw,Yx,Yy,Yz,XA,XB,XC,XD,XE,beq_self_eq_true,reduceIte,reduceCtorEq,↓reduceIte,XF,XG,XH])), by (repeat (first | dsimp only [XI, XJ] | dsimp only [ZA,ZB,ZC,ZD,ZE,ZF,ZG,ZH,ZI,ZJ,ZK,ZL,ZM,ZN,ZO,ZP,ZQ,ZR,ZS,ZT,ZU,ZV,ZW,ZX,ZY,ZZ,Za,Zb,Zc,Zd,Ze,Zf,Zg,Zh,Zi,Zj,Zk,Zl,Zm,Zn,Zo,Zp,Zq,Zr,Zs,Zt,Zu,Zv,Zw,Zx,Zy,Zz,YA,YB,YC,YD,YE,YF,YG,YH,YI,YJ,YK,YL,YM,YN,YO,YP,YQ,YR,Env.set,cond_true,cond_false,String.reduceBEq,YS,YT,YU,YV,YW,YX,YY,YZ,Ya,Yb,Yc,Yd,Ye,Yf] | simp only [Yg,Yh,true_and,Yi,Yj,Yk,Yl,Ym,Yn,Yo,Yp,Yq,Yr,Yt,Yu,Yv,Yw,Yx,Yy,Yz,XA,XB,XC,XD,XE,beq_self_eq_true,reduceIte,reduceCtorEq,↓reduceIte,XF,XG,XH])), by (repeat (first | dsimp only [XI, XJ] | dsimp only [ZA,ZB,ZC,ZD,ZE,ZF,ZG,ZH,ZI,ZJ,ZK,ZL,ZM,ZN,ZO,ZP,ZQ,ZR,ZS,ZT,ZU,ZV,ZW,ZX,ZY,ZZ,Za,Zb,Zc,Zd,Ze,Zf,Zg,Zh,Zi,Zj,Zk,Zl,Zm,Zn,Zo,Zp,Zq,Zr,Zs,Zt,Zu,Zv,Zw,Zx,Zy,Zz,YA,YB,YC,YD,YE,YF,YG,YH,YI,YJ,YK,YL,YM,YN,YO,YP,YQ,YR,Env.set,cond_true,cond_false,String.reduceBEq,YS,YT,YU,YV,YW,YX,YY,YZ,Ya,Yb,Yc,Yd,Ye,Yf] | simp only [Yg,Yh,true_and,Yi,Yj,Yk,Yl,Ym,Yn,Yo,Yp,Yq,Yr,Yt,Yu,Yv,Yw,Yx,Yy,Yz,XA,XB,XC,XD,XE,beq_self_eq_true,reduceIte,reduceCtorEq,↓reduceIte,XF,XG,XH]))⟩ (fun i v ρ H1 hv hI => ⟨trivial, fun k' h1 h2 => ?_⟩) fun ρ H' hI => ⟨trivial, ?_⟩
  · obtain ⟨hi, rfl⟩ := rng_get hv
    obtain ⟨rs, hln, hnd, hlt, e1, e2, e3⟩ := hI
    have hs := roundsTo_succ A i
    unfold roundStep at hs
    (repeat (first | dsimp only [XI, XJ] | dsimp only [ZA,ZB,ZC,ZD,ZE,ZF,ZG,ZH,ZI,ZJ,ZK,ZL,ZM,ZN,ZO,ZP,ZQ,ZR,ZS,ZT,ZU,ZV,ZW,ZX,ZY,ZZ,Za,Zb,Zc,Zd,Ze,Zf,Zg,Zh,Zi,Zj,Zk,Zl,Zm,Zn,Zo,Zp,Zq,Zr,Zs,Zt,Zu,Zv,Zw,Zx,Zy,Zz,YA,YB,YC,YD,YE,YF,YG,YH,YI,YJ,YK,YL,YM,YN,YO,YP,YQ,YR,Env.set,cond_true,cond_false,String.reduceBEq,YS,YT,YU,YV,YW,YX,YY,YZ,Ya,Yb,Yc,Yd,Ye,Yf] | simp only [Yg,Yh,true_and,Yi,Yj,Yk,Yl,Ym,Yn,Yo,Yp,Yq,Yr,Yt,Yu,Yv,Yw,Yx,Yy,Yz,XA,XB,XC,XD,XE,beq_self_eq_true,reduceIte,reduceCtorEq,↓reduceIte,XF,XG,XH, e3, rs.mem i]))
    refine ⟨fun q => ?_, fun q => ?_⟩
    · have q' : hasN (roundsTo A i).1 i = false := by simpa using q
      rw [q', cond_false] at hs
      refine wWhile_ex (fun k ρ' H' => ∃ K met here acc, follow A (K + 1) met here acc = follow A (A.length + 1) (roundsTo A i).1 i [] ∧ k ≤ K ∧ A.length = k + met.length ∧ met.Nodup ∧ (∀ x ∈ met, x < A.length) ∧ here < A.length ∧ acc.length ≤ met.length ∧
        RS H H' H1.length met (roundsTo A i).2.reverse ∧ LN H' H1.length acc.reverse ∧ H1.length < H'.length ∧
        ρ' "after" = some (.ref a) ∧ ρ' "found" = some (.ref H.length) ∧ ρ' "met" = some (.ref (H.length + 1)) ∧ ρ' "ring" = some (.ref H1.length) ∧ ρ' "here" = some (.int (here : Int))) (m := A.length - (roundsTo A i).1.length) ?_ fun k ρ' H' hI k'' h1' h2' => ?_
      · have hlen := lt_of_nodup hnd hlt
        refine ⟨A.length, (roundsTo A i).1, i, [], rfl, by omega, by omega, hnd, hlt, hi, Nat.zero_le _, rs.keep fun j hj => ?_, get_new _ _, by simp, by (repeat (first | dsimp only [XI, XJ] | dsimp only [ZA,ZB,ZC,ZD,ZE,ZF,ZG,ZH,ZI,ZJ,ZK,ZL,ZM,ZN,ZO,ZP,ZQ,ZR,ZS,ZT,ZU,ZV,ZW,ZX,ZY,ZZ,Za,Zb,Zc,Zd,Ze,Zf,Zg,Zh,Zi,Zj,Zk,Zl,Zm,Zn,Zo,Zp,Zq,Zr,Zs,Zt,Zu,Zv,Zw,Zx,Zy,Zz,YA,YB,YC,YD,YE,YF,YG,YH,YI,YJ,YK,YL,YM,YN,YO,YP,YQ,YR,Env.set,cond_true,cond_false,String.reduceBEq,YS,YT,YU,YV,YW,YX,YY,YZ,Ya,Yb,Yc,Yd,Ye,Yf] | simp only [Yg,Yh,true_and,Yi,Yj,Yk,Yl,Ym,Yn,Yo,Yp,Yq,Yr,Yt,Yu,Yv,Yw,Yx,Yy,Yz,XA,XB,XC,XD,XE,beq_self_eq_true,reduceIte,reduceCtorEq,↓reduceIte,XF,XG,XH, e1])), by (repeat (first | dsimp only [XI, XJ] | dsimp only [ZA,ZB,ZC,ZD,ZE,ZF,ZG,ZH,ZI,ZJ,ZK,ZL,ZM,ZN,ZO,ZP,ZQ,ZR,ZS,ZT,ZU,ZV,ZW,ZX,ZY,ZZ,Za,Zb,Zc,Zd,Ze,Zf,Zg,Zh,Zi,Zj,Zk,Zl,Zm,Zn,Zo,Zp,Zq,Zr,Zs,Zt,Zu,Zv,Zw,Zx,Zy,Zz,YA,YB,YC,YD,YE,YF,YG,YH,YI,YJ,YK,YL,YM,YN,YO,YP,YQ,YR,Env.set,cond_true,cond_false,String.reduceBEq,YS,YT,YU,YV,YW,YX,YY,YZ,Ya,Yb,Yc,Yd,Ye,Yf] | simp only [Yg,Yh,true_and,Yi,Yj,Yk,Yl,Ym,Yn,Yo,Yp,Yq,Yr,Yt,Yu,Yv,Yw,Yx,Yy,Yz,XA,XB,XC,XD,XE,beq_self_eq_true,reduceIte,reduceCtorEq,↓reduceIte,XF,XG,XH, e2])), by (repeat (first | dsimp only [XI, XJ] | dsimp only [ZA,ZB,ZC,ZD,ZE,ZF,ZG,ZH,ZI,ZJ,ZK,ZL,ZM,ZN,ZO,ZP,ZQ,ZR,ZS,ZT,ZU,ZV,ZW,ZX,ZY,ZZ,Za,Zb,Zc,Zd,Ze,Zf,Zg,Zh,Zi,Zj,Zk,Zl,Zm,Zn,Zo,Zp,Zq,Zr,Zs,Zt,Zu,Zv,Zw,Zx,Zy,Zz,YA,YB,YC,YD,YE,YF,YG,YH,YI,YJ,YK,YL,YM,YN,YO,YP,YQ,YR,Env.set,cond_true,cond_false,String.reduceBEq,YS,YT,YU,YV,YW,YX,YY,YZ,Ya,Yb,Yc,Yd,Ye,Yf] | simp only [Yg,Yh,true_and,Yi,Yj,Yk,Yl,Ym,Yn,Yo,Yp,Yq,Yr,Yt,Yu,Yv,Yw,Yx,Yy,Yz,XA,XB,XC,XD,XE,beq_self_eq_true,reduceIte,reduceCtorEq,↓reduceIte,XF,XG,XH, e3])), by (repeat (first | dsimp only [XI, XJ] | dsimp only [ZA,ZB,ZC,ZD,ZE,ZF,ZG,ZH,ZI,ZJ,ZK,ZL,ZM,ZN,ZO,ZP,ZQ,ZR,ZS,ZT,ZU,ZV,ZW,ZX,ZY,ZZ,Za,Zb,Zc,Zd,Ze,Zf,Zg,Zh,Zi,Zj,Zk,Zl,Zm,Zn,Zo,Zp,Zq,Zr,Zs,Zt,Zu,Zv,Zw,Zx,Zy,Zz,YA,YB,YC,YD,YE,YF,YG,YH,YI,YJ,YK,YL,YM,YN,YO,YP,YQ,YR,Env.set,cond_true,cond_false,String.reduceBEq,YS,YT,YU,YV,YW,YX,YY,YZ,Ya,Yb,Yc,Yd,Ye,Yf] | simp only [Yg,Yh,true_and,Yi,Yj,Yk,Yl,Ym,Yn,Yo,Yp,Yq,Yr,Yt,Yu,Yv,Yw,Yx,Yy,Yz,XA,XB,XC,XD,XE,beq_self_eq_true,reduceIte,reduceCtorEq,↓reduceIte,XF,XG,XH])), by (repeat (first | dsimp only [XI, XJ] | dsimp only [ZA,ZB,ZC,ZD,ZE,ZF,ZG,ZH,ZI,ZJ,ZK,ZL,ZM,ZN,ZO,ZP,ZQ,ZR,ZS,ZT,ZU,ZV,ZW,ZX,ZY,ZZ,Za,Zb,Zc,Zd,Ze,Zf,Zg,Zh,Zi,Zj,Zk,Zl,Zm,Zn,Zo,Zp,Zq,Zr,Zs,Zt,Zu,Zv,Zw,Zx,Zy,Zz,YA,YB,YC,YD,YE,YF,YG,YH,YI,YJ,YK,YL,YM,YN,YO,YP,YQ,YR,Env.set,cond_true,cond_false,String.reduceBEq,YS,YT,YU,YV,YW,YX,YY,YZ,Ya,Yb,Yc,Yd,Ye,Yf] | simp only [Yg,Yh,true_and,Yi,Yj,Yk,Yl,Ym,Yn,Yo,Yp,Yq,Yr,Yt,Yu,Yv,Yw,Yx,Yy,Yz,XA,XB,XC,XD,XE,beq_self_eq_true,reduceIte,reduceCtorEq,↓reduceIte,XF,XG,XH]))⟩
        rw [List.getElem?_append_left hj]
      · obtain ⟨K, met, here, acc, hf, hK, hk, hn, hm, hh, hac, rs', hr, hlr, f1, f2, f3, f4, f5⟩ := hI
        rw [follow] at hf
        (repeat (first | dsimp only [XI, XJ] | dsimp only [ZA,ZB,ZC,ZD,ZE,ZF,ZG,ZH,ZI,ZJ,ZK,ZL,ZM,ZN,ZO,ZP,ZQ,ZR,ZS,ZT,ZU,ZV,ZW,ZX,ZY,ZZ,Za,Zb,Zc,Zd,Ze,Zf,Zg,Zh,Zi,Zj,Zk,Zl,Zm,Zn,Zo,Zp,Zq,Zr,Zs,Zt,Zu,Zv,Zw,Zx,Zy,Zz,YA,YB,YC,YD,YE,YF,YG,YH,YI,YJ,YK,YL,YM,YN,YO,YP,YQ,YR,Env.set,cond_true,cond_false,String.reduceBEq,YS,YT,YU,YV,YW,YX,YY,YZ,Ya,Yb,Yc,Yd,Ye,Yf] | simp only [Yg,Yh,true_and,Yi,Yj,Yk,Yl,Ym,Yn,Yo,Yp,Yq,Yr,Yt,Yu,Yv,Yw,Yx,Yy,Yz,XA,XB,XC,XD,XE,beq_self_eq_true,reduceIte,reduceCtorEq,↓reduceIte,XF,XG,XH, f3, f5, rs'.mem here]))
        refine ⟨fun q => ?_, fun q => ?_⟩
        · have q' : hasN met here = false := by simpa using q
          rw [q', cond_false] at hf
          have hnm : here ∉ met := by rw [hasN_eq] at q'; simpa using q'
          have hn' : (here :: met).Nodup := List.nodup_cons.mpr ⟨hnm, hn⟩
          have hm' : ∀ x ∈ here :: met, x < A.length := fun x hx => by
            rcases List.mem_cons.mp hx with rfl | hx
            · exact hh
            · exact hm x hx
          have hlen' := lt_of_nodup hn' hm'
          rw [List.length_cons] at hlen'
          obtain ⟨H2, m1, m2, m3, m4⟩ := rs'.meet q' (by unfold lim; omega)
          have hlow := rs'.low
          have hr2 : LN H2 H1.length acc.reverse := by unfold LN; rw [m4 _ (by omega)]; exact hr
          obtain ⟨p1, p2⟩ := hr2.push (by rw [List.length_reverse]; unfold lim; omega) here
          have rs3 := m2.keep (H'' := H2.set H1.length (.list ((acc.reverse ++ [here]).map fun i : Nat => V.int (i : Int)))) fun j hj => get_set_ne (by omega) _
          have hA3 : LN (H2.set H1.length (.list ((acc.reverse ++ [here]).map fun i : Nat => V.int (i : Int)))) a A := hA.pre (pre_of rs3.pre)
          (repeat (first | dsimp only [XI, XJ] | dsimp only [ZA,ZB,ZC,ZD,ZE,ZF,ZG,ZH,ZI,ZJ,ZK,ZL,ZM,ZN,ZO,ZP,ZQ,ZR,ZS,ZT,ZU,ZV,ZW,ZX,ZY,ZZ,Za,Zb,Zc,Zd,Ze,Zf,Zg,Zh,Zi,Zj,Zk,Zl,Zm,Zn,Zo,Zp,Zq,Zr,Zs,Zt,Zu,Zv,Zw,Zx,Zy,Zz,YA,YB,YC,YD,YE,YF,YG,YH,YI,YJ,YK,YL,YM,YN,YO,YP,YQ,YR,Env.set,cond_true,cond_false,String.reduceBEq,YS,YT,YU,YV,YW,YX,YY,YZ,Ya,Yb,Yc,Yd,Ye,Yf] | simp only [Yg,Yh,true_and,Yi,Yj,Yk,Yl,Ym,Yn,Yo,Yp,Yq,Yr,Yt,Yu,Yv,Yw,Yx,Yy,Yz,XA,XB,XC,XD,XE,beq_self_eq_true,reduceIte,reduceCtorEq,↓reduceIte,XF,XG,XH, f1, f4, f5, m1, (recvL hr2).1, p1, hA3.nx hh]))
          obtain ⟨K', rfl⟩ : ∃ K', K = K' + 1 := ⟨K - 1, by omega⟩
          refine h1' (k - 1) _ _ (by omega) ⟨K', here :: met, nx A here, here :: acc, hf, by omega, by rw [List.length_cons]; omega, hn', hm', ok.nx hh, by rw [List.length_cons, List.length_cons]; omega, rs3, ?_, by rw [List.length_set, m3]; exact hlr, ?_⟩
          · rw [List.reverse_cons]; exact p2
          · (repeat (first | dsimp only [XI, XJ] | dsimp only [ZA,ZB,ZC,ZD,ZE,ZF,ZG,ZH,ZI,ZJ,ZK,ZL,ZM,ZN,ZO,ZP,ZQ,ZR,ZS,ZT,ZU,ZV,ZW,ZX,ZY,ZZ,Za,Zb,Zc,Zd,Ze,Zf,Zg,Zh,Zi,Zj,Zk,Zl,Zm,Zn,Zo,Zp,Zq,Zr,Zs,Zt,Zu,Zv,Zw,Zx,Zy,Zz,YA,YB,YC,YD,YE,YF,YG,YH,YI,YJ,YK,YL,YM,YN,YO,YP,YQ,YR,Env.set,cond_true,cond_false,String.reduceBEq,YS,YT,YU,YV,YW,YX,YY,YZ,Ya,Yb,Yc,Yd,Ye,Yf] | simp only [Yg,Yh,true_and,Yi,Yj,Yk,Yl,Ym,Yn,Yo,Yp,Yq,Yr,Yt,Yu,Yv,Yw,Yx,Yy,Yz,XA,XB,XC,XD,XE,beq_self_eq_true,reduceIte,reduceCtorEq,↓reduceIte,XF,XG,XH, f1, f2, f3, f4]))
        · have q' : hasN met here = true := by simpa using q
          rw [q', cond_true] at hf
          obtain ⟨fs, g1, g2⟩ := rs'.fs
          obtain ⟨H2, p1, p2, p3⟩ := rs'.push hr (by rw [List.length_reverse]; unfold lim; omega)
          (repeat (first | dsimp only [XI, XJ] | dsimp only [ZA,ZB,ZC,ZD,ZE,ZF,ZG,ZH,ZI,ZJ,ZK,ZL,ZM,ZN,ZO,ZP,ZQ,ZR,ZS,ZT,ZU,ZV,ZW,ZX,ZY,ZZ,Za,Zb,Zc,Zd,Ze,Zf,Zg,Zh,Zi,Zj,Zk,Zl,Zm,Zn,Zo,Zp,Zq,Zr,Zs,Zt,Zu,Zv,Zw,Zx,Zy,Zz,YA,YB,YC,YD,YE,YF,YG,YH,YI,YJ,YK,YL,YM,YN,YO,YP,YQ,YR,Env.set,cond_true,cond_false,String.reduceBEq,YS,YT,YU,YV,YW,YX,YY,YZ,Ya,Yb,Yc,Yd,Ye,Yf] | simp only [Yg,Yh,true_and,Yi,Yj,Yk,Yl,Ym,Yn,Yo,Yp,Yq,Yr,Yt,Yu,Yv,Yw,Yx,Yy,Yz,XA,XB,XC,XD,XE,beq_self_eq_true,reduceIte,reduceCtorEq,↓reduceIte,XF,XG,XH, f2, f4, (recvL g1).1, p1]))
          rw [← hf] at hs
          refine h1 _ _ ⟨?_, ?_, ?_, ?_, by (repeat (first | dsimp only [XI, XJ] | dsimp only [ZA,ZB,ZC,ZD,ZE,ZF,ZG,ZH,ZI,ZJ,ZK,ZL,ZM,ZN,ZO,ZP,ZQ,ZR,ZS,ZT,ZU,ZV,ZW,ZX,ZY,ZZ,Za,Zb,Zc,Zd,Ze,Zf,Zg,Zh,Zi,Zj,Zk,Zl,Zm,Zn,Zo,Zp,Zq,Zr,Zs,Zt,Zu,Zv,Zw,Zx,Zy,Zz,YA,YB,YC,YD,YE,YF,YG,YH,YI,YJ,YK,YL,YM,YN,YO,YP,YQ,YR,Env.set,cond_true,cond_false,String.reduceBEq,YS,YT,YU,YV,YW,YX,YY,YZ,Ya,Yb,Yc,Yd,Ye,Yf] | simp only [Yg,Yh,true_and,Yi,Yj,Yk,Yl,Ym,Yn,Yo,Yp,Yq,Yr,Yt,Yu,Yv,Yw,Yx,Yy,Yz,XA,XB,XC,XD,XE,beq_self_eq_true,reduceIte,reduceCtorEq,↓reduceIte,XF,XG,XH, f1])), by (repeat (first | dsimp only [XI, XJ] | dsimp only [ZA,ZB,ZC,ZD,ZE,ZF,ZG,ZH,ZI,ZJ,ZK,ZL,ZM,ZN,ZO,ZP,ZQ,ZR,ZS,ZT,ZU,ZV,ZW,ZX,ZY,ZZ,Za,Zb,Zc,Zd,Ze,Zf,Zg,Zh,Zi,Zj,Zk,Zl,Zm,Zn,Zo,Zp,Zq,Zr,Zs,Zt,Zu,Zv,Zw,Zx,Zy,Zz,YA,YB,YC,YD,YE,YF,YG,YH,YI,YJ,YK,YL,YM,YN,YO,YP,YQ,YR,Env.set,cond_true,cond_false,String.reduceBEq,YS,YT,YU,YV,YW,YX,YY,YZ,Ya,Yb,Yc,Yd,Ye,Yf] | simp only [Yg,Yh,true_and,Yi,Yj,Yk,Yl,Ym,Yn,Yo,Yp,Yq,Yr,Yt,Yu,Yv,Yw,Yx,Yy,Yz,XA,XB,XC,XD,XE,beq_self_eq_true,reduceIte,reduceCtorEq,↓reduceIte,XF,XG,XH, f2])), by (repeat (first | dsimp only [XI, XJ] | dsimp only [ZA,ZB,ZC,ZD,ZE,ZF,ZG,ZH,ZI,ZJ,ZK,ZL,ZM,ZN,ZO,ZP,ZQ,ZR,ZS,ZT,ZU,ZV,ZW,ZX,ZY,ZZ,Za,Zb,Zc,Zd,Ze,Zf,Zg,Zh,Zi,Zj,Zk,Zl,Zm,Zn,Zo,Zp,Zq,Zr,Zs,Zt,Zu,Zv,Zw,Zx,Zy,Zz,YA,YB,YC,YD,YE,YF,YG,YH,YI,YJ,YK,YL,YM,YN,YO,YP,YQ,YR,Env.set,cond_true,cond_false,String.reduceBEq,YS,YT,YU,YV,YW,YX,YY,YZ,Ya,Yb,Yc,Yd,Ye,Yf] | simp only [Yg,Yh,true_and,Yi,Yj,Yk,Yl,Ym,Yn,Yo,Yp,Yq,Yr,Yt,Yu,Yv,Yw,Yx,Yy,Yz,XA,XB,XC,XD,XE,beq_self_eq_true,reduceIte,reduceCtorEq,↓reduceIte,XF,XG,XH, f3]))⟩
          · rw [hs, List.reverse_cons]; exact p2.up (by omega)
          · rw [hs, List.length_cons]; omega
          · rw [hs]; exact hn
          · rw [hs]; exact hm
    · have q' : hasN (roundsTo A i).1 i = true := by simpa using q
      rw [q', cond_true] at hs
      exact h1 _ _ ⟨by rw [hs]; exact rs, by rw [hs]; omega, by rw [hs]; exact hnd, by rw [hs]; exact hlt, by (repeat (first | dsimp only [XI, XJ] | dsimp only [ZA,ZB,ZC,ZD,ZE,ZF,ZG,ZH,ZI,ZJ,ZK,ZL,ZM,ZN,ZO,ZP,ZQ,ZR,ZS,ZT,ZU,ZV,ZW,ZX,ZY,ZZ,Za,Zb,Zc,Zd,Ze,Zf,Zg,Zh,Zi,Zj,Zk,Zl,Zm,Zn,Zo,Zp,Zq,Zr,Zs,Zt,Zu,Zv,Zw,Zx,Zy,Zz,YA,YB,YC,YD,YE,YF,YG,YH,YI,YJ,YK,YL,YM,YN,YO,YP,YQ,YR,Env.set,cond_true,cond_false,String.reduceBEq,YS,YT,YU,YV,YW,YX,YY,YZ,Ya,Yb,Yc,Yd,Ye,Yf] | simp only [Yg,Yh,true_and,Yi,Yj,Yk,Yl,Ym,Yn,Yo,Yp,Yq,Yr,Yt,Yu,Yv,Yw,Yx,Yy,Yz,XA,XB,XC,XD,XE,beq_self_eq_true,reduceIte,reduceCtorEq,↓reduceIte,XF,XG,XH, e1])), by (repeat (first | dsimp only [XI, XJ] | dsimp only [ZA,ZB,ZC,ZD,ZE,ZF,ZG,ZH,ZI,ZJ,ZK,ZL,ZM,ZN,ZO,ZP,ZQ,ZR,ZS,ZT,ZU,ZV,ZW,ZX,ZY,ZZ,Za,Zb,Zc,Zd,Ze,Zf,Zg,Zh,Zi,Zj,Zk,Zl,Zm,Zn,Zo,Zp,Zq,Zr,Zs,Zt,Zu,Zv,Zw,Zx,Zy,Zz,YA,YB,YC,YD,YE,YF,YG,YH,YI,YJ,YK,YL,YM,YN,YO,YP,YQ,YR,Env.set,cond_true,cond_false,String.reduceBEq,YS,YT,YU,YV,YW,YX,YY,YZ,Ya,Yb,Yc,Yd,Ye,Yf] | simp only [Yg,Yh,true_and,Yi,Yj,Yk,Yl,Ym,Yn,Yo,Yp,Yq,Yr,Yt,Yu,Yv,Yw,Yx,Yy,Yz,XA,XB,XC,XD,XE,beq_self_eq_true,reduceIte,reduceCtorEq,↓reduceIte,XF,XG,XH, e2])), by (repeat (first | dsimp only [XI, XJ] | dsimp only [ZA,ZB,ZC,ZD,ZE,ZF,ZG,ZH,ZI,ZJ,ZK,ZL,ZM,ZN,ZO,ZP,ZQ,ZR,ZS,ZT,ZU,ZV,ZW,ZX,ZY,ZZ,Za,Zb,Zc,Zd,Ze,Zf,Zg,Zh,Zi,Zj,Zk,Zl,Zm,Zn,Zo,Zp,Zq,Zr,Zs,Zt,Zu,Zv,Zw,Zx,Zy,Zz,YA,YB,YC,YD,YE,YF,YG,YH,YI,YJ,YK,YL,YM,YN,YO,YP,YQ,YR,Env.set,cond_true,cond_false,String.reduceBEq,YS,YT,YU,YV,YW,YX,YY,YZ,Ya,Yb,Yc,Yd,Ye,Yf] | simp only [Yg,Yh,true_and,Yi,Yj,Yk,Yl,Ym,Yn,Yo,Yp,Yq,Yr,Yt,Yu,Yv,Yw,Yx,Yy,Yz,XA,XB,XC,XD,XE,beq_self_eq_true,reduceIte,reduceCtorEq,↓reduceIte,XF,XG,XH, e3]))⟩
  · obtain ⟨rs, hln, hnd, hlt, e1, e2, e3⟩ := hI
    rw [rng_len] at rs
    (repeat (first | dsimp only [XI, XJ] | dsimp only [ZA,ZB,ZC,ZD,ZE,ZF,ZG,ZH,ZI,ZJ,ZK,ZL,ZM,ZN,ZO,ZP,ZQ,ZR,ZS,ZT,ZU,ZV,ZW,ZX,ZY,ZZ,Za,Zb,Zc,Zd,Ze,Zf,Zg,Zh,Zi,Zj,Zk,Zl,Zm,Zn,Zo,Zp,Zq,Zr,Zs,Zt,Zu,Zv,Zw,Zx,Zy,Zz,YA,YB,YC,YD,YE,YF,YG,YH,YI,YJ,YK,YL,YM,YN,YO,YP,YQ,YR,Env.set,cond_true,cond_false,String.reduceBEq,YS,YT,YU,YV,YW,YX,YY,YZ,Ya,Yb,Yc,Yd,Ye,Yf] | simp only [Yg,Yh,true_and,Yi,Yj,Yk,Yl,Ym,Yn,Yo,Yp,Yq,Yr,Yt,Yu,Yv,Yw,Yx,Yy,Yz,XA,XB,XC,XD,XE,beq_self_eq_true,reduceIte,reduceCtorEq,↓reduceIte,XF,XG,XH, e2]))
    refine h _ _ (pre_of rs.pre) (Nat.le_refl _) ?_
    obtain ⟨fs, g1, g2⟩ := rs.fs
    refine ⟨fs, g1, ?_⟩
    have key : ∀ {fs : List V} {Rs : List (List Nat)}, All2 (fun v R => ∃ b, v = V.ref b ∧ H.length + 2 ≤ b ∧ b < H'.length ∧ LN H' b R) fs Rs → All2 (fun r is => ∃ b, r = V.ref b ∧ LI H' b is) fs (Rs.map ci) := fun q => by
      induction q with
      | nil => exact .nil
      | cons q _ ih => obtain ⟨b, e, _, _, q⟩ := q; exact .cons ⟨b, e, q.li⟩ ih
    exact key g2
end
end Mine

namespace Mine
open PySem

/-- a list at d of lists of whole numbers, all of which lie below a -/
noncomputable def FL (H : Hp) (a d : Nat) (Rs : List (List Int)) : Prop := d < a ∧ ∃ fs, H[d]? = some (.list fs) ∧ All2 (fun v R => ∃ b, v = .ref b ∧ b ≠ d ∧ b < a ∧ LI H b R) fs Rs
theorem FL.keep {H H' : Hp} {a d : Nat} {Rs : List (List Int)} (h : FL H a d Rs) (hk : ∀ i, i < a → H'[i]? = H[i]?) : FL H' a d Rs :=
  let ⟨h0, fs, h1, h2⟩ := h; ⟨h0, fs, by rw [hk d h0, h1], h2.mono fun _ _ ⟨b, e, q1, q2, q3⟩ => ⟨b, e, q1, q2, by unfold LI; rw [hk b q2]; exact q3⟩⟩
theorem FL.up {H : Hp} {a a' d : Nat} {Rs : List (List Int)} (h : FL H a d Rs) (ha : a ≤ a') : FL H a' d Rs :=
  let ⟨h0, fs, h1, h2⟩ := h; ⟨Nat.lt_of_lt_of_le h0 ha, fs, h1, h2.mono fun _ _ ⟨b, e, q1, q2, q3⟩ => ⟨b, e, q1, Nat.lt_of_lt_of_le q2 ha, q3⟩⟩
theorem FL.push {H : Hp} {a d : Nat} {Rs : List (List Int)} (h : FL H a d Rs) {R : List Int} (hR : LI H a R) (hl : Rs.length < lim) : ∃ H', methV .append [.ref d, .ref a] H = some (.none, H') ∧ FL H' (a + 1) d (Rs ++ [R]) ∧ H'.length = H.length ∧ ∀ i, i ≠ d → H'[i]? = H[i]? := by
  obtain ⟨h0, fs, h1, h2⟩ := h
  refine ⟨_, append_at h1 (by rw [h2.length]; exact hl), ⟨by omega, _, get_set_eq h1 _, All2.append (h2.mono fun _ _ ⟨b, e, q1, q2, q3⟩ => ⟨b, e, q1, by omega, by unfold LI; rw [get_set_ne q1]; exact q3⟩) (.cons ⟨a, rfl, by omega, by omega, by unfold LI; rw [get_set_ne (by omega)]; exact hR⟩ .nil)⟩, by simp, fun i hi => get_set_ne hi _⟩
theorem FL.wh {H : Hp} {a d : Nat} {Rs : List (List Int)} (h : FL H a d Rs) : WH H d Rs := let ⟨_, fs, h1, h2⟩ := h; ⟨fs, h1, h2.mono fun _ _ ⟨b, e, _, _, q⟩ => ⟨b, e, q⟩⟩
theorem FL.recv {H : Hp} {a d : Nat} {Rs : List (List Int)} (h : FL H a d Rs) : recvOk .append (.ref d) H = true := let ⟨_, _, h1, _⟩ := h; (recvL h1).1

theorem WN.pre {H H' : Hp} {r : Nat} {Rs : List (List Nat)} (h : WN H r Rs) (hp : H <+: H') : WN H' r Rs := WH.pre h hp
theorem WN.at {H : Hp} {r : Nat} {Rs : List (List Nat)} (h : WN H r Rs) : ∃ fs, H[r]? = some (.list fs) ∧ fs.length = Rs.length ∧ ∀ (i : Nat) v, fs[i]? = some v → ∃ b R, v = .ref b ∧ Rs[i]? = some R ∧ LN H b R := by
  obtain ⟨fs, h1, h2⟩ := h
  refine ⟨fs, h1, by rw [h2.length, List.length_map], fun i v hv => ?_⟩
  obtain ⟨is, e, b, rfl, q⟩ := h2.get hv
  rw [List.getElem?_map] at e
  obtain ⟨R, hR, rfl⟩ := Option.map_eq_some_iff.mp e
  exact ⟨b, R, rfl, hR, q.ln⟩
theorem LN.last {H : Hp} {a : Nat} {l : List Nat} {x : Nat} (h : LN H a (l ++ [x])) : itemV (.ref a) (.int (-1)) H = some (.int (x : Int)) := by
  have h' : seqOf H a = some ((l ++ [x]).map fun i : Nat => V.int (i : Int)) := seqOf_list h
  simp only [itemV, h', Option.bind]
  simp only [normIdx, List.length_map, List.length_append, List.length_cons, List.length_nil]
  have e : (-1 : Int) < 0 := by omega
  have e2 : ((-1 : Int) + ((l.length + (0 + 1) : Nat) : Int)) = (l.length : Int) := by omega
  simp only [e, if_true, e2]
  rw [if_pos ⟨by omega, by omega⟩]
  simp
theorem LN.back {H : Hp} {a : Nat} {R : List Nat} (h : LN H a R) {i : Nat} (hi : i < R.length) : itemV (.ref a) (.int ((i : Int) - 1)) H = some (.int ((R.getD ((i + (R.length - 1)) % R.length) 0 : Nat) : Int)) := by
  have hlt : (i + (R.length - 1)) % R.length < R.length := Nat.mod_lt _ (by omega)
  have e : normIdx ((i : Int) - 1) R.length = some ((i + (R.length - 1)) % R.length) := by
    unfold normIdx
    cases i with
    | zero =>
      have e1 : ((0 : Nat) : Int) - 1 < 0 := by omega
      simp only [e1, if_true]
      rw [if_pos ⟨by omega, by omega⟩]
      have : (0 + (R.length - 1)) % R.length = R.length - 1 := by rw [Nat.zero_add]; exact Nat.mod_eq_of_lt (by omega)
      rw [this]; congr 1; omega
    | succ i =>
      have e1 : ¬ (((i + 1 : Nat) : Int) - 1 < 0) := by omega
      simp only [e1, if_false]
      rw [if_pos ⟨by omega, by omega⟩]
      have : (i + 1 + (R.length - 1)) % R.length = i := by
        have : i + 1 + (R.length - 1) = i + R.length := by omega
        rw [this, Nat.add_mod_right]; exact Nat.mod_eq_of_lt (by omega)
      rw [this]; congr 1; omega
  have g : (R.map fun i : Nat => V.int (i : Int))[(i + (R.length - 1)) % R.length]? = some (.int ((R.getD ((i + (R.length - 1)) % R.length) 0 : Nat) : Int)) := by
    rw [List.getElem?_map, List.getD_eq_getElem?_getD, List.getElem?_eq_getElem hlt]; rfl
  have h' : seqOf H a = some (R.map fun i : Nat => V.int (i : Int)) := seqOf_list h
  simp only [itemV, h', Option.bind, List.length_map, e, g]
theorem fmod_nn (i m : Nat) : ((i : Nat) : Int).fmod (m : Int) = ((i % m : Nat) : Int) := by
  rw [Int.fmod_eq_emod_of_nonneg _ (by omega)]; omega
theorem ci_idx (A : List Nat) (g : Nat) : (ci A).idxOf (g : Int) = A.idxOf g := by
  induction A with
  | nil => rfl
  | cons a A ih =>
    show List.idxOf (g : Int) ((a : Int) :: ci A) = _
    rw [List.idxOf_cons, List.idxOf_cons, ih]
    by_cases e : a = g
    · subst e; simp
    · have h1 : ((a : Int) == (g : Int)) = false := beq_eq_false_iff_ne.mpr (by omega)
      have h2 : (a == g) = false := beq_eq_false_iff_ne.mpr e
      rw [h1, h2]
theorem ci_mem {A : List Nat} {g : Nat} : (g : Int) ∈ ci A ↔ g ∈ A := by
  unfold ci; rw [List.mem_map]
  constructor
  · rintro ⟨y, hy, e⟩; have : y = g := by omega
    exact this ▸ hy
  · exact fun h => ⟨g, h, rfl⟩

theorem minL_ne : ∀ {is : List Int}, is ≠ [] → ∃ m, minL is = some m
  | [], h => absurd rfl h
  | _ :: _, _ => ⟨_, rfl⟩
theorem LN.min {H : Hp} {a : Nat} {l : List Nat} (h : LN H a l) {g : Nat} (hg : g ∈ l) : ∃ m : Int, listOf? H a = some ((ci l).map .int) ∧ minL (ci l) = some m ∧ (m == (g : Int)) = l.all (fun x => g.ble x) := by
  have hl := h.li
  unfold LI at hl
  obtain ⟨m, hm⟩ := minL_ne (is := ci l) (fun e => by
    have := ci_mem.mpr hg; rw [e] at this; cases this)
  obtain ⟨m1, m2⟩ := minL_spec hm
  refine ⟨m, ?_, hm, ?_⟩
  · unfold listOf?; rw [hl]
  · rw [Bool.eq_iff_iff, beq_iff_eq, List.all_eq_true]
    constructor
    · rintro rfl x hx
      have := m2 x (ci_mem.mpr hx)
      rw [Nat.ble_eq]; omega
    · intro q
      have h1 := m2 g (ci_mem.mpr hg)
      unfold ci at m1
      obtain ⟨y, hy, rfl⟩ := List.mem_map.mp m1
      have := q y hy
      rw [Nat.ble_eq] at this
      omega

section
variable {P : Prog} {b : Bool} {n : Nat} {H : Hp} {Q : Post} {X : XP}

theorem s_rings (hP : P.fn "rings" = some f_rings) (hP0 : P.fn "rounds" = some f_rounds) (hP1 : P.fn "need_parties" = some f_need_parties) (hP2 : P.fn "is_guest" = some f_is_guest) (hG : P.glob "MOST_GUESTS" = some (.int 6)) {a : Nat} {A : List Nat} (hA : LN H a A) (ok : AOk A) (h : ∀ H' r, H <+: H' → H.length ≤ r → WN H' r (roundsF A) → Q (.ref r) H') : callN P b (n + 3) "rings" [.ref a] H Q X := by
  (refine callN_in hP rfl ?_; unfold f_rings)
  (repeat (first | dsimp only [XI, XJ] | dsimp only [ZA,ZB,ZC,ZD,ZE,ZF,ZG,ZH,ZI,ZJ,ZK,ZL,ZM,ZN,ZO,ZP,ZQ,ZR,ZS,ZT,ZU,ZV,ZW,ZX,ZY,ZZ,Za,Zb,Zc,Zd,Ze,Zf,Zg,Zh,Zi,Zj,Zk,Zl,Zm,Zn,Zo,Zp,Zq,Zr,Zs,Zt,Zu,Zv,Zw,Zx,Zy,Zz,YA,YB,YC,YD,YE,YF,YG,YH,YI,YJ,YK,YL,YM,YN,YO,YP,YQ,YR,Env.set,cond_true,cond_false,String.reduceBEq,YS,YT,YU,YV,YW,YX,YY,YZ,Ya,Yb,Yc,Yd,Ye,Yf] | simp only [Yg,Yh,true_and,Yi,Yj,Yk,Yl,Ym,Yn,Yo,Yp,Yq,Yr,Yt,Yu,Yv,Yw,Yx,Yy,Yz,XA,XB,XC,XD,XE,beq_self_eq_true,reduceIte,reduceCtorEq,↓reduceIte,XF,XG,XH]))
  refine s_need_parties hP1 hP2 hG hA ok fun H1 hp1 => ?_
  (repeat (first | dsimp only [XI, XJ] | dsimp only [ZA,ZB,ZC,ZD,ZE,ZF,ZG,ZH,ZI,ZJ,ZK,ZL,ZM,ZN,ZO,ZP,ZQ,ZR,ZS,ZT,ZU,ZV,ZW,ZX,ZY,ZZ,Za,Zb,Zc,Zd,Ze,Zf,Zg,Zh,Zi,Zj,Zk,Zl,Zm,Zn,Zo,Zp,Zq,Zr,Zs,Zt,Zu,Zv,Zw,Zx,Zy,Zz,YA,YB,YC,YD,YE,YF,YG,YH,YI,YJ,YK,YL,YM,YN,YO,YP,YQ,YR,Env.set,cond_true,cond_false,String.reduceBEq,YS,YT,YU,YV,YW,YX,YY,YZ,Ya,Yb,Yc,Yd,Ye,Yf] | simp only [Yg,Yh,true_and,Yi,Yj,Yk,Yl,Ym,Yn,Yo,Yp,Yq,Yr,Yt,Yu,Yv,Yw,Yx,Yy,Yz,XA,XB,XC,XD,XE,beq_self_eq_true,reduceIte,reduceCtorEq,↓reduceIte,XF,XG,XH]))
  refine s_rounds hP0 (hA.pre hp1) ok fun H2 r hp2 hr hw => ?_
  exact h H2 r (hp1.trans hp2) (Nat.le_trans hp1.length_le hr) hw

theorem ringsTo_succ (A : List Nat) (k : Nat) : ringsTo A (k + 1) = (bif (ringR A k).all (fun x => k.ble x) then (ringR A k).reverse :: ringsTo A k else ringsTo A k) := by
  unfold ringsTo
  rw [upto_eq, upto_eq, List.append_nil, List.append_nil, List.range_succ, List.foldl_append]; rfl

theorem s_law_rings (hP : P.fn "_law_rings" = some f__law_rings) {a : Nat} {A : List Nat} (hA : LN H a A) (ok : AOk A) (h : ∀ H' r, H <+: H' → H.length ≤ r → WN H' r (roundsF A) → Q (.ref r) H') : callN P b (n + 1) "_law_rings" [.ref a] H Q X := by
  have hl : A.length ≤ lim := Nat.le_trans ok.le (by decide)
  have hle := ok.le
  have haH : a < H.length := (List.getElem?_eq_some_iff.mp hA).1
  (refine callN_in hP rfl ?_; unfold f__law_rings)
  (repeat (first | dsimp only [XI, XJ] | dsimp only [ZA,ZB,ZC,ZD,ZE,ZF,ZG,ZH,ZI,ZJ,ZK,ZL,ZM,ZN,ZO,ZP,ZQ,ZR,ZS,ZT,ZU,ZV,ZW,ZX,ZY,ZZ,Za,Zb,Zc,Zd,Ze,Zf,Zg,Zh,Zi,Zj,Zk,Zl,Zm,Zn,Zo,Zp,Zq,Zr,Zs,Zt,Zu,Zv,Zw,Zx,Zy,Zz,YA,YB,YC,YD,YE,YF,YG,YH,YI,YJ,YK,YL,YM,YN,YO,YP,YQ,YR,Env.set,cond_true,cond_false,String.reduceBEq,YS,YT,YU,YV,YW,YX,YY,YZ,Ya,Yb,Yc,Yd,Ye,Yf] | simp only [Yg,Yh,true_and,Yi,Yj,Yk,Yl,Ym,Yn,Yo,Yp,Yq,Yr,Yt,Yu,Yv,Yw,Yx,Yy,Yz,XA,XB,XC,XD,XE,beq_self_eq_true,reduceIte,reduceCtorEq,↓reduceIte,XF,XG,XH, ((hA.pre (pre_new _ (.list [])))).len, range_nat hl]))
  refine wFor_idx (fun i ρ H' => FL H' H'.length H.length ((ringsTo A i).reverse.map ci) ∧ (∀ i, i < H.length → H'[i]? = H[i]?) ∧ (ringsTo A i).length ≤ i ∧
    ρ "_law_after" = some (.ref a) ∧ ρ "_law_found" = some (.ref H.length)) ⟨⟨by simp, [], by simp, .nil⟩, (fun i hi => by rw [List.getElem?_append_left hi]), Nat.zero_le _, by (repeat (first | dsimp only [XI, XJ] | dsimp only [ZA,ZB,ZC,ZD,ZE,ZF,ZG,ZH,ZI,ZJ,ZK,ZL,ZM,ZN,ZO,ZP,ZQ,ZR,ZS,ZT,ZU,ZV,ZW,ZX,ZY,ZZ,Za,Zb,Zc,Zd,Ze,Zf,Zg,Zh,Zi,Zj,Zk,Zl,Zm,Zn,Zo,Zp,Zq,Zr,Zs,Zt,Zu,Zv,Zw,Zx,Zy,Zz,YA,YB,YC,YD,YE,YF,YG,YH,YI,YJ,YK,YL,YM,YN,YO,YP,YQ,YR,Env.set,cond_true,cond_false,String.reduceBEq,YS,YT,YU,YV,YW,YX,YY,YZ,Ya,Yb,Yc,Yd,Ye,Yf] | simp only [Yg,Yh,true_and,Yi,Yj,Yk,Yl,Ym,Yn,Yo,Yp,Yq,Yr,Yt,Yu,Yv,Yw,Yx,Yy,Yz,XA,XB,XC,XD,XE,beq_self_eq_true,reduceIte,reduceCtorEq,↓reduceIte,XF,XG,XH])), by (repeat (first | dsimp only [XI, XJ] | dsimp only [ZA,ZB,ZC,ZD,ZE,ZF,ZG,ZH,ZI,ZJ,ZK,ZL,ZM,ZN,ZO,ZP,ZQ,ZR,ZS,ZT,ZU,ZV,ZW,ZX,ZY,ZZ,Za,Zb,Zc,Zd,Ze,Zf,Zg,Zh,Zi,Zj,Zk,Zl,Zm,Zn,Zo,Zp,Zq,Zr,Zs,Zt,Zu,Zv,Zw,Zx,Zy,Zz,YA,YB,YC,YD,YE,YF,YG,YH,YI,YJ,YK,YL,YM,YN,YO,YP,YQ,YR,Env.set,cond_true,cond_false,String.reduceBEq,YS,YT,YU,YV,YW,YX,YY,YZ,Ya,Yb,Yc,Yd,Ye,Yf] | simp only [Yg,Yh,true_and,Yi,Yj,Yk,Yl,Ym,Yn,Yo,Yp,Yq,Yr,Yt,Yu,Yv,Yw,Yx,Yy,Yz,XA,XB,XC,XD,XE,beq_self_eq_true,reduceIte,reduceCtorEq,↓reduceIte,XF,XG,XH]))⟩ (fun i v ρ H1 hv hI => ⟨trivial, fun k' h1 h2 => ?_⟩) fun ρ H' hI => ⟨trivial, ?_⟩
  · obtain ⟨hi, rfl⟩ := rng_get hv
    obtain ⟨fl, hpre, hln, e1, e2⟩ := hI
    have hHd := fl.1
    (repeat (first | dsimp only [XI, XJ] | dsimp only [ZA,ZB,ZC,ZD,ZE,ZF,ZG,ZH,ZI,ZJ,ZK,ZL,ZM,ZN,ZO,ZP,ZQ,ZR,ZS,ZT,ZU,ZV,ZW,ZX,ZY,ZZ,Za,Zb,Zc,Zd,Ze,Zf,Zg,Zh,Zi,Zj,Zk,Zl,Zm,Zn,Zo,Zp,Zq,Zr,Zs,Zt,Zu,Zv,Zw,Zx,Zy,Zz,YA,YB,YC,YD,YE,YF,YG,YH,YI,YJ,YK,YL,YM,YN,YO,YP,YQ,YR,Env.set,cond_true,cond_false,String.reduceBEq,YS,YT,YU,YV,YW,YX,YY,YZ,Ya,Yb,Yc,Yd,Ye,Yf] | simp only [Yg,Yh,true_and,Yi,Yj,Yk,Yl,Ym,Yn,Yo,Yp,Yq,Yr,Yt,Yu,Yv,Yw,Yx,Yy,Yz,XA,XB,XC,XD,XE,beq_self_eq_true,reduceIte,reduceCtorEq,↓reduceIte,XF,XG,XH]))
    refine wWhile_ex (fun k ρ' H' => ∃ acc x, walkF A i k (x :: acc) = ringR A i ∧ acc.length ≤ A.length ∧ k + acc.length = A.length ∧ x < A.length ∧ LN H' H1.length (x :: acc).reverse ∧ (∀ i, i < H1.length → H'[i]? = H1[i]?) ∧ H'.length = H1.length + 1 ∧
      ρ' "_law_after" = some (.ref a) ∧ ρ' "_law_found" = some (.ref H.length) ∧ ρ' "_law_guest" = some (.int (i : Int)) ∧ ρ' "_law_ring" = some (.ref H1.length)) (m := A.length) ?_ fun k ρ' H' hI k'' h1' h2' => ?_
    · exact ⟨[], i, rfl, Nat.zero_le _, rfl, hi, get_new _ _, (fun j hj => by rw [List.getElem?_append_left hj]), by simp, by (repeat (first | dsimp only [XI, XJ] | dsimp only [ZA,ZB,ZC,ZD,ZE,ZF,ZG,ZH,ZI,ZJ,ZK,ZL,ZM,ZN,ZO,ZP,ZQ,ZR,ZS,ZT,ZU,ZV,ZW,ZX,ZY,ZZ,Za,Zb,Zc,Zd,Ze,Zf,Zg,Zh,Zi,Zj,Zk,Zl,Zm,Zn,Zo,Zp,Zq,Zr,Zs,Zt,Zu,Zv,Zw,Zx,Zy,Zz,YA,YB,YC,YD,YE,YF,YG,YH,YI,YJ,YK,YL,YM,YN,YO,YP,YQ,YR,Env.set,cond_true,cond_false,String.reduceBEq,YS,YT,YU,YV,YW,YX,YY,YZ,Ya,Yb,Yc,Yd,Ye,Yf] | simp only [Yg,Yh,true_and,Yi,Yj,Yk,Yl,Ym,Yn,Yo,Yp,Yq,Yr,Yt,Yu,Yv,Yw,Yx,Yy,Yz,XA,XB,XC,XD,XE,beq_self_eq_true,reduceIte,reduceCtorEq,↓reduceIte,XF,XG,XH, e1])), by (repeat (first | dsimp only [XI, XJ] | dsimp only [ZA,ZB,ZC,ZD,ZE,ZF,ZG,ZH,ZI,ZJ,ZK,ZL,ZM,ZN,ZO,ZP,ZQ,ZR,ZS,ZT,ZU,ZV,ZW,ZX,ZY,ZZ,Za,Zb,Zc,Zd,Ze,Zf,Zg,Zh,Zi,Zj,Zk,Zl,Zm,Zn,Zo,Zp,Zq,Zr,Zs,Zt,Zu,Zv,Zw,Zx,Zy,Zz,YA,YB,YC,YD,YE,YF,YG,YH,YI,YJ,YK,YL,YM,YN,YO,YP,YQ,YR,Env.set,cond_true,cond_false,String.reduceBEq,YS,YT,YU,YV,YW,YX,YY,YZ,Ya,Yb,Yc,Yd,Ye,Yf] | simp only [Yg,Yh,true_and,Yi,Yj,Yk,Yl,Ym,Yn,Yo,Yp,Yq,Yr,Yt,Yu,Yv,Yw,Yx,Yy,Yz,XA,XB,XC,XD,XE,beq_self_eq_true,reduceIte,reduceCtorEq,↓reduceIte,XF,XG,XH, e2])), by (repeat (first | dsimp only [XI, XJ] | dsimp only [ZA,ZB,ZC,ZD,ZE,ZF,ZG,ZH,ZI,ZJ,ZK,ZL,ZM,ZN,ZO,ZP,ZQ,ZR,ZS,ZT,ZU,ZV,ZW,ZX,ZY,ZZ,Za,Zb,Zc,Zd,Ze,Zf,Zg,Zh,Zi,Zj,Zk,Zl,Zm,Zn,Zo,Zp,Zq,Zr,Zs,Zt,Zu,Zv,Zw,Zx,Zy,Zz,YA,YB,YC,YD,YE,YF,YG,YH,YI,YJ,YK,YL,YM,YN,YO,YP,YQ,YR,Env.set,cond_true,cond_false,String.reduceBEq,YS,YT,YU,YV,YW,YX,YY,YZ,Ya,Yb,Yc,Yd,Ye,Yf] | simp only [Yg,Yh,true_and,Yi,Yj,Yk,Yl,Ym,Yn,Yo,Yp,Yq,Yr,Yt,Yu,Yv,Yw,Yx,Yy,Yz,XA,XB,XC,XD,XE,beq_self_eq_true,reduceIte,reduceCtorEq,↓reduceIte,XF,XG,XH])), by (repeat (first | dsimp only [XI, XJ] | dsimp only [ZA,ZB,ZC,ZD,ZE,ZF,ZG,ZH,ZI,ZJ,ZK,ZL,ZM,ZN,ZO,ZP,ZQ,ZR,ZS,ZT,ZU,ZV,ZW,ZX,ZY,ZZ,Za,Zb,Zc,Zd,Ze,Zf,Zg,Zh,Zi,Zj,Zk,Zl,Zm,Zn,Zo,Zp,Zq,Zr,Zs,Zt,Zu,Zv,Zw,Zx,Zy,Zz,YA,YB,YC,YD,YE,YF,YG,YH,YI,YJ,YK,YL,YM,YN,YO,YP,YQ,YR,Env.set,cond_true,cond_false,String.reduceBEq,YS,YT,YU,YV,YW,YX,YY,YZ,Ya,Yb,Yc,Yd,Ye,Yf] | simp only [Yg,Yh,true_and,Yi,Yj,Yk,Yl,Ym,Yn,Yo,Yp,Yq,Yr,Yt,Yu,Yv,Yw,Yx,Yy,Yz,XA,XB,XC,XD,XE,beq_self_eq_true,reduceIte,reduceCtorEq,↓reduceIte,XF,XG,XH]))⟩
    · obtain ⟨acc, x, hw, hac, hk, hx, hr, hkeep, hlr, f1, f2, f3, f4⟩ := hI
      have hr' := hr
      rw [List.reverse_cons] at hr'
      have hA' : LN H' a A := by unfold LN; rw [hkeep a (by omega), hpre a haH]; exact hA
      (repeat (first | dsimp only [XI, XJ] | dsimp only [ZA,ZB,ZC,ZD,ZE,ZF,ZG,ZH,ZI,ZJ,ZK,ZL,ZM,ZN,ZO,ZP,ZQ,ZR,ZS,ZT,ZU,ZV,ZW,ZX,ZY,ZZ,Za,Zb,Zc,Zd,Ze,Zf,Zg,Zh,Zi,Zj,Zk,Zl,Zm,Zn,Zo,Zp,Zq,Zr,Zs,Zt,Zu,Zv,Zw,Zx,Zy,Zz,YA,YB,YC,YD,YE,YF,YG,YH,YI,YJ,YK,YL,YM,YN,YO,YP,YQ,YR,Env.set,cond_true,cond_false,String.reduceBEq,YS,YT,YU,YV,YW,YX,YY,YZ,Ya,Yb,Yc,Yd,Ye,Yf] | simp only [Yg,Yh,true_and,Yi,Yj,Yk,Yl,Ym,Yn,Yo,Yp,Yq,Yr,Yt,Yu,Yv,Yw,Yx,Yy,Yz,XA,XB,XC,XD,XE,beq_self_eq_true,reduceIte,reduceCtorEq,↓reduceIte,XF,XG,XH, f1, f3, f4, hr'.last, hA'.nx hx]))
      have eb : (((nx A x : Nat) : Int) == ((i : Nat) : Int)) = Nat.beq (nx A x) i := by
        rw [beq_dec]
        by_cases e : nx A x = i
        · rw [e]; simp
        · rw [decide_eq_false e]; exact beq_eq_false_iff_ne.mpr (by omega)
      rw [eb]
      refine ⟨fun q => ?_, fun q => ?_⟩
      · have q' : Nat.beq (nx A x) i = false := by simpa using q
        cases k with
        | zero =>
          rw [walkF] at hw
          have := (ok.ok.back i hi).1
          rw [← hw] at this
          have : nx A x = i := this
          rw [this, beq_dec] at q'
          simp at q'
        | succ k =>
          rw [walkF] at hw
          have hw2 : walkF A i k (nx A x :: x :: acc) = ringR A i := by rw [← hw]; show _ = (bif Nat.beq (nx A x) i then _ else _); rw [q', cond_false]; rfl
          obtain ⟨p1, p2⟩ := hr.push (by rw [List.length_reverse, List.length_cons]; unfold lim; omega) (nx A x)
          (repeat (first | dsimp only [XI, XJ] | dsimp only [ZA,ZB,ZC,ZD,ZE,ZF,ZG,ZH,ZI,ZJ,ZK,ZL,ZM,ZN,ZO,ZP,ZQ,ZR,ZS,ZT,ZU,ZV,ZW,ZX,ZY,ZZ,Za,Zb,Zc,Zd,Ze,Zf,Zg,Zh,Zi,Zj,Zk,Zl,Zm,Zn,Zo,Zp,Zq,Zr,Zs,Zt,Zu,Zv,Zw,Zx,Zy,Zz,YA,YB,YC,YD,YE,YF,YG,YH,YI,YJ,YK,YL,YM,YN,YO,YP,YQ,YR,Env.set,cond_true,cond_false,String.reduceBEq,YS,YT,YU,YV,YW,YX,YY,YZ,Ya,Yb,Yc,Yd,Ye,Yf] | simp only [Yg,Yh,true_and,Yi,Yj,Yk,Yl,Ym,Yn,Yo,Yp,Yq,Yr,Yt,Yu,Yv,Yw,Yx,Yy,Yz,XA,XB,XC,XD,XE,beq_self_eq_true,reduceIte,reduceCtorEq,↓reduceIte,XF,XG,XH, f1, f4, (recvL hr).1, hr'.last, hA'.nx hx, p1]))
          refine h1' k _ _ (by omega) ⟨x :: acc, nx A x, hw2, by rw [List.length_cons]; omega, by rw [List.length_cons]; omega, ok.nx hx, ?_, ?_, by rw [List.length_set]; exact hlr, ?_⟩
          · rw [List.reverse_cons, List.reverse_cons, ← List.reverse_cons (a := x)]; rw [List.reverse_cons] at p2; simpa using p2
          · intro j hj; rw [get_set_ne (by omega), hkeep j hj]
          · (repeat (first | dsimp only [XI, XJ] | dsimp only [ZA,ZB,ZC,ZD,ZE,ZF,ZG,ZH,ZI,ZJ,ZK,ZL,ZM,ZN,ZO,ZP,ZQ,ZR,ZS,ZT,ZU,ZV,ZW,ZX,ZY,ZZ,Za,Zb,Zc,Zd,Ze,Zf,Zg,Zh,Zi,Zj,Zk,Zl,Zm,Zn,Zo,Zp,Zq,Zr,Zs,Zt,Zu,Zv,Zw,Zx,Zy,Zz,YA,YB,YC,YD,YE,YF,YG,YH,YI,YJ,YK,YL,YM,YN,YO,YP,YQ,YR,Env.set,cond_true,cond_false,String.reduceBEq,YS,YT,YU,YV,YW,YX,YY,YZ,Ya,Yb,Yc,Yd,Ye,Yf] | simp only [Yg,Yh,true_and,Yi,Yj,Yk,Yl,Ym,Yn,Yo,Yp,Yq,Yr,Yt,Yu,Yv,Yw,Yx,Yy,Yz,XA,XB,XC,XD,XE,beq_self_eq_true,reduceIte,reduceCtorEq,↓reduceIte,XF,XG,XH, f1, f2, f3, f4]))
      · have q' : Nat.beq (nx A x) i = true := by simpa using q
        have he : x :: acc = ringR A i := by
          cases k with
          | zero => exact hw
          | succ k => rw [walkF] at hw; rw [← hw]; show _ = (bif Nat.beq (nx A x) i then _ else _); rw [q', cond_true]
        have hl' := hr
        rw [he] at hl'
        have hgm := (ok.ok.back i hi).2.1
        obtain ⟨m, q1, q3, q2⟩ := hl'.min (g := i) (List.mem_reverse.mpr hgm)
        rw [List.all_reverse] at q2
        have hs := ringsTo_succ A i
        (repeat (first | dsimp only [XI, XJ] | dsimp only [ZA,ZB,ZC,ZD,ZE,ZF,ZG,ZH,ZI,ZJ,ZK,ZL,ZM,ZN,ZO,ZP,ZQ,ZR,ZS,ZT,ZU,ZV,ZW,ZX,ZY,ZZ,Za,Zb,Zc,Zd,Ze,Zf,Zg,Zh,Zi,Zj,Zk,Zl,Zm,Zn,Zo,Zp,Zq,Zr,Zs,Zt,Zu,Zv,Zw,Zx,Zy,Zz,YA,YB,YC,YD,YE,YF,YG,YH,YI,YJ,YK,YL,YM,YN,YO,YP,YQ,YR,Env.set,cond_true,cond_false,String.reduceBEq,YS,YT,YU,YV,YW,YX,YY,YZ,Ya,Yb,Yc,Yd,Ye,Yf] | simp only [Yg,Yh,true_and,Yi,Yj,Yk,Yl,Ym,Yn,Yo,Yp,Yq,Yr,Yt,Yu,Yv,Yw,Yx,Yy,Yz,XA,XB,XC,XD,XE,beq_self_eq_true,reduceIte,reduceCtorEq,↓reduceIte,XF,XG,XH, f3, f4, q1, mapM_asInt, q3, q2]))
        refine ⟨fun q => ?_, fun q => ?_⟩
        · rw [q, cond_true] at hs
          have fl' := fl.keep hkeep
          obtain ⟨H2, p1, p2, p3, p4⟩ := fl'.push hl'.li (by rw [List.length_map, List.length_reverse]; unfold lim; omega)
          (repeat (first | dsimp only [XI, XJ] | dsimp only [ZA,ZB,ZC,ZD,ZE,ZF,ZG,ZH,ZI,ZJ,ZK,ZL,ZM,ZN,ZO,ZP,ZQ,ZR,ZS,ZT,ZU,ZV,ZW,ZX,ZY,ZZ,Za,Zb,Zc,Zd,Ze,Zf,Zg,Zh,Zi,Zj,Zk,Zl,Zm,Zn,Zo,Zp,Zq,Zr,Zs,Zt,Zu,Zv,Zw,Zx,Zy,Zz,YA,YB,YC,YD,YE,YF,YG,YH,YI,YJ,YK,YL,YM,YN,YO,YP,YQ,YR,Env.set,cond_true,cond_false,String.reduceBEq,YS,YT,YU,YV,YW,YX,YY,YZ,Ya,Yb,Yc,Yd,Ye,Yf] | simp only [Yg,Yh,true_and,Yi,Yj,Yk,Yl,Ym,Yn,Yo,Yp,Yq,Yr,Yt,Yu,Yv,Yw,Yx,Yy,Yz,XA,XB,XC,XD,XE,beq_self_eq_true,reduceIte,reduceCtorEq,↓reduceIte,XF,XG,XH, f2, f4, fl'.recv, p1]))
          refine h1 _ _ ⟨?_, ?_, ?_, by (repeat (first | dsimp only [XI, XJ] | dsimp only [ZA,ZB,ZC,ZD,ZE,ZF,ZG,ZH,ZI,ZJ,ZK,ZL,ZM,ZN,ZO,ZP,ZQ,ZR,ZS,ZT,ZU,ZV,ZW,ZX,ZY,ZZ,Za,Zb,Zc,Zd,Ze,Zf,Zg,Zh,Zi,Zj,Zk,Zl,Zm,Zn,Zo,Zp,Zq,Zr,Zs,Zt,Zu,Zv,Zw,Zx,Zy,Zz,YA,YB,YC,YD,YE,YF,YG,YH,YI,YJ,YK,YL,YM,YN,YO,YP,YQ,YR,Env.set,cond_true,cond_false,String.reduceBEq,YS,YT,YU,YV,YW,YX,YY,YZ,Ya,Yb,Yc,Yd,Ye,Yf] | simp only [Yg,Yh,true_and,Yi,Yj,Yk,Yl,Ym,Yn,Yo,Yp,Yq,Yr,Yt,Yu,Yv,Yw,Yx,Yy,Yz,XA,XB,XC,XD,XE,beq_self_eq_true,reduceIte,reduceCtorEq,↓reduceIte,XF,XG,XH, f1])), by (repeat (first | dsimp only [XI, XJ] | dsimp only [ZA,ZB,ZC,ZD,ZE,ZF,ZG,ZH,ZI,ZJ,ZK,ZL,ZM,ZN,ZO,ZP,ZQ,ZR,ZS,ZT,ZU,ZV,ZW,ZX,ZY,ZZ,Za,Zb,Zc,Zd,Ze,Zf,Zg,Zh,Zi,Zj,Zk,Zl,Zm,Zn,Zo,Zp,Zq,Zr,Zs,Zt,Zu,Zv,Zw,Zx,Zy,Zz,YA,YB,YC,YD,YE,YF,YG,YH,YI,YJ,YK,YL,YM,YN,YO,YP,YQ,YR,Env.set,cond_true,cond_false,String.reduceBEq,YS,YT,YU,YV,YW,YX,YY,YZ,Ya,Yb,Yc,Yd,Ye,Yf] | simp only [Yg,Yh,true_and,Yi,Yj,Yk,Yl,Ym,Yn,Yo,Yp,Yq,Yr,Yt,Yu,Yv,Yw,Yx,Yy,Yz,XA,XB,XC,XD,XE,beq_self_eq_true,reduceIte,reduceCtorEq,↓reduceIte,XF,XG,XH, f2]))⟩
          · rw [hs, List.reverse_cons, List.map_append]; exact p2.up (by omega)
          · intro j hj; rw [p4 j (by omega), hkeep j (by omega), hpre j hj]
          · rw [hs, List.length_cons]; omega
        · rw [q, cond_false] at hs
          refine h1 _ _ ⟨?_, ?_, ?_, by (repeat (first | dsimp only [XI, XJ] | dsimp only [ZA,ZB,ZC,ZD,ZE,ZF,ZG,ZH,ZI,ZJ,ZK,ZL,ZM,ZN,ZO,ZP,ZQ,ZR,ZS,ZT,ZU,ZV,ZW,ZX,ZY,ZZ,Za,Zb,Zc,Zd,Ze,Zf,Zg,Zh,Zi,Zj,Zk,Zl,Zm,Zn,Zo,Zp,Zq,Zr,Zs,Zt,Zu,Zv,Zw,Zx,Zy,Zz,YA,YB,YC,YD,YE,YF,YG,YH,YI,YJ,YK,YL,YM,YN,YO,YP,YQ,YR,Env.set,cond_true,cond_false,String.reduceBEq,YS,YT,YU,YV,YW,YX,YY,YZ,Ya,Yb,Yc,Yd,Ye,Yf] | simp only [Yg,Yh,true_and,Yi,Yj,Yk,Yl,Ym,Yn,Yo,Yp,Yq,Yr,Yt,Yu,Yv,Yw,Yx,Yy,Yz,XA,XB,XC,XD,XE,beq_self_eq_true,reduceIte,reduceCtorEq,↓reduceIte,XF,XG,XH, f1])), by (repeat (first | dsimp only [XI, XJ] | dsimp only [ZA,ZB,ZC,ZD,ZE,ZF,ZG,ZH,ZI,ZJ,ZK,ZL,ZM,ZN,ZO,ZP,ZQ,ZR,ZS,ZT,ZU,ZV,ZW,ZX,ZY,ZZ,Za,Zb,Zc,Zd,Ze,Zf,Zg,Zh,Zi,Zj,Zk,Zl,Zm,Zn,Zo,Zp,Zq,Zr,Zs,Zt,Zu,Zv,Zw,Zx,Zy,Zz,YA,YB,YC,YD,YE,YF,YG,YH,YI,YJ,YK,YL,YM,YN,YO,YP,YQ,YR,Env.set,cond_true,cond_false,String.reduceBEq,YS,YT,YU,YV,YW,YX,YY,YZ,Ya,Yb,Yc,Yd,Ye,Yf] | simp only [Yg,Yh,true_and,Yi,Yj,Yk,Yl,Ym,Yn,Yo,Yp,Yq,Yr,Yt,Yu,Yv,Yw,Yx,Yy,Yz,XA,XB,XC,XD,XE,beq_self_eq_true,reduceIte,reduceCtorEq,↓reduceIte,XF,XG,XH, f2]))⟩
          · rw [hs]; exact (fl.keep hkeep).up (by omega)
          · intro j hj; rw [hkeep j (by omega), hpre j hj]
          · rw [hs]; omega
  · obtain ⟨fl, hpre, hln, e1, e2⟩ := hI
    rw [rng_len] at fl
    (repeat (first | dsimp only [XI, XJ] | dsimp only [ZA,ZB,ZC,ZD,ZE,ZF,ZG,ZH,ZI,ZJ,ZK,ZL,ZM,ZN,ZO,ZP,ZQ,ZR,ZS,ZT,ZU,ZV,ZW,ZX,ZY,ZZ,Za,Zb,Zc,Zd,Ze,Zf,Zg,Zh,Zi,Zj,Zk,Zl,Zm,Zn,Zo,Zp,Zq,Zr,Zs,Zt,Zu,Zv,Zw,Zx,Zy,Zz,YA,YB,YC,YD,YE,YF,YG,YH,YI,YJ,YK,YL,YM,YN,YO,YP,YQ,YR,Env.set,cond_true,cond_false,String.reduceBEq,YS,YT,YU,YV,YW,YX,YY,YZ,Ya,Yb,Yc,Yd,Ye,Yf] | simp only [Yg,Yh,true_and,Yi,Yj,Yk,Yl,Ym,Yn,Yo,Yp,Yq,Yr,Yt,Yu,Yv,Yw,Yx,Yy,Yz,XA,XB,XC,XD,XE,beq_self_eq_true,reduceIte,reduceCtorEq,↓reduceIte,XF,XG,XH, e2]))
    refine h _ _ (pre_of hpre) (Nat.le_refl _) ?_
    unfold WN
    rw [ok.ok.rings]
    exact fl.wh
end
end Mine

namespace Mine
open PySem

noncomputable def RingOk (W : List (List Int)) (R : List Nat) : Prop := ∀ i, i < R.length → (1 < R.length → both W (R.getD i 0) (R.getD ((i + 1) % R.length) 0) = true) ∧
  (2 < R.length → soonerP W (R.getD i 0) (some (R.getD ((i + 1) % R.length) 0)) (some (R.getD ((i + (R.length - 1)) % R.length) 0)) = true)
noncomputable def AllHold (W : List (List Int)) (A : List Nat) : Prop := (∀ R ∈ roundsF A, RingOk W R) ∧ ∀ i, i < A.length → ∀ j, j < i → ¬ (soonerP W i (some j) (some (A.idxOf i)) = true ∧ soonerP W j (some i) (some (A.idxOf j)) = true)
noncomputable def ah (A : List Nat) (g : Nat) : Option Nat := if nx A g = g then none else some (A.idxOf g)
noncomputable def LawHold (W : List (List Int)) (A : List Nat) : Prop := ∀ g, g < A.length → (nx A g ≠ g → both W g (nx A g) = true) ∧ (nx A g ≠ g → nx A (nx A g) ≠ g → soonerP W g (some (nx A g)) (ah A g) = true) ∧
  ∀ j, j < A.length → j ≠ g → ¬ (soonerP W g (some j) (ah A g) = true ∧ soonerP W j (some g) (ah A j) = true)

theorem idx_self {A : List Nat} (ok : AOk A) {g : Nat} (hg : g < A.length) (h : nx A g = g) : A.idxOf g = g := by
  have hidx := List.idxOf_lt_length_of_mem (ok.mem hg)
  have h1 := List.getElem_idxOf hidx
  have h3 : A[g] = g := by rw [nx_get, List.getD_eq_getElem?_getD, List.getElem?_eq_getElem hg] at h; exact h
  rcases Nat.lt_trichotomy g (A.idxOf g) with q | q | q
  · exact absurd (h3.trans h1.symm) (List.pairwise_iff_getElem.mp ok.nodup g _ hg hidx q)
  · exact q.symm
  · exact absurd (h1.trans h3.symm) (List.pairwise_iff_getElem.mp ok.nodup _ g hidx hg q)

theorem idx_lt {A : List Nat} (ok : AOk A) {g : Nat} (hg : g < A.length) : A.idxOf g < A.length := List.idxOf_lt_length_of_mem (ok.mem hg)

theorem soon_ah {W : List (List Int)} (wok : WOk W) {A : List Nat} (ok : AOk A) (hl : W.length = A.length) {g : Nat} (hg : g < A.length) (a : Nat) : soonerP W g (some a) (ah A g) = soonerP W g (some a) (some (A.idxOf g)) := by
  unfold ah
  by_cases h : nx A g = g
  · rw [if_pos h, idx_self ok hg h]
    simp only [soonerP, both_self wok (show g < W.length by omega)]
    by_cases e : a = g
    · subst e; simp [both_self wok (show a < W.length by omega)]
    · simp [e]
  · rw [if_neg h]

theorem hold_iff {W : List (List Int)} (wok : WOk W) {A : List Nat} (ok : AOk A) (hl : W.length = A.length) : AllHold W A ↔ LawHold W A := by
  have key : ∀ {R : List Nat} {i : Nat}, R ∈ roundsF A → i < R.length → ((1 < R.length → both W (R.getD i 0) (R.getD ((i + 1) % R.length) 0) = true) ∧ (2 < R.length → soonerP W (R.getD i 0) (some (R.getD ((i + 1) % R.length) 0)) (some (R.getD ((i + (R.length - 1)) % R.length) 0)) = true) ↔
      (nx A (R.getD i 0) ≠ R.getD i 0 → both W (R.getD i 0) (nx A (R.getD i 0)) = true) ∧ (nx A (R.getD i 0) ≠ R.getD i 0 → nx A (nx A (R.getD i 0)) ≠ R.getD i 0 → soonerP W (R.getD i 0) (some (nx A (R.getD i 0))) (ah A (R.getD i 0)) = true)) := by
    intro R i hR hi
    obtain ⟨q1, q2, q3, q4, q5⟩ := (ok.ok.facts R hR).2.2 i hi
    rw [q2, q3, q4, q5, soon_ah wok ok hl q1]
    exact ⟨fun ⟨a, b⟩ => ⟨a, fun x y => b ⟨x, y⟩⟩, fun ⟨a, b⟩ => ⟨a, fun ⟨x, y⟩ => b x y⟩⟩
  constructor
  · rintro ⟨h1, h2⟩ g hg
    obtain ⟨R, hR, hgR⟩ := ok.ok.cover g hg
    obtain ⟨i, hi, e⟩ := List.mem_iff_getElem.mp hgR
    have e' : R.getD i 0 = g := by rw [List.getD_eq_getElem?_getD, List.getElem?_eq_getElem hi]; exact e
    have := (key hR hi).mp (h1 R hR i hi)
    rw [e'] at this
    refine ⟨this.1, this.2, fun j hj hne => ?_⟩
    rw [soon_ah wok ok hl hg, soon_ah wok ok hl hj]
    rcases Nat.lt_or_gt_of_ne hne with q | q
    · exact h2 g hg j q
    · exact fun ⟨a, b⟩ => h2 j hj g q ⟨b, a⟩
  · intro h
    refine ⟨fun R hR i hi => ?_, fun i hi j hj => ?_⟩
    · obtain ⟨q1, _⟩ := (ok.ok.facts R hR).2.2 i hi
      exact (key hR hi).mpr ⟨(h _ q1).1, (h _ q1).2.1⟩
    · have := (h i hi).2.2 j (by omega) (by omega)
      rw [soon_ah wok ok hl hi, soon_ah wok ok hl (by omega)] at this
      exact this

section
variable {P : Prog} {b : Bool} {n : Nat} {H : Hp} {Q : Post} {X : XP}

theorem s_ring_holds (hP : P.fn "ring_holds" = some f_ring_holds) (hP1 : P.fn "both_wish" = some f_both_wish) (hP2 : P.fn "sooner" = some f_sooner) {w a : Nat} {W : List (List Int)} {R : List Nat} (hw : WH H w W) (hR : LN H a R) (hl : R.length ≤ 6) (hlt : ∀ i, i < R.length → R.getD i 0 < W.length)
    (h : ∀ r, (r = true ↔ RingOk W R) → Q (.bool r) H) : callN P b (n + 3) "ring_holds" [.ref w, .ref a] H Q X := by
  have hlim : R.length ≤ lim := Nat.le_trans hl (by decide)
  (refine callN_in hP rfl ?_; unfold f_ring_holds)
  (repeat (first | dsimp only [XI, XJ] | dsimp only [ZA,ZB,ZC,ZD,ZE,ZF,ZG,ZH,ZI,ZJ,ZK,ZL,ZM,ZN,ZO,ZP,ZQ,ZR,ZS,ZT,ZU,ZV,ZW,ZX,ZY,ZZ,Za,Zb,Zc,Zd,Ze,Zf,Zg,Zh,Zi,Zj,Zk,Zl,Zm,Zn,Zo,Zp,Zq,Zr,Zs,Zt,Zu,Zv,Zw,Zx,Zy,Zz,YA,YB,YC,YD,YE,YF,YG,YH,YI,YJ,YK,YL,YM,YN,YO,YP,YQ,YR,Env.set,cond_true,cond_false,String.reduceBEq,YS,YT,YU,YV,YW,YX,YY,YZ,Ya,Yb,Yc,Yd,Ye,Yf] | simp only [Yg,Yh,true_and,Yi,Yj,Yk,Yl,Ym,Yn,Yo,Yp,Yq,Yr,Yt,Yu,Yv,Yw,Yx,Yy,Yz,XA,XB,XC,XD,XE,beq_self_eq_true,reduceIte,reduceCtorEq,↓reduceIte,XF,XG,XH, hR.len, range_nat hlim]))
  refine wFor_idx (fun i ρ H' => H' = H ∧ (∀ j, j < i → (1 < R.length → both W (R.getD j 0) (R.getD ((j + 1) % R.length) 0) = true) ∧
    (2 < R.length → soonerP W (R.getD j 0) (some (R.getD ((j + 1) % R.length) 0)) (some (R.getD ((j + (R.length - 1)) % R.length) 0)) = true)) ∧
    ρ "wishes" = some (.ref w) ∧ ρ "ring" = some (.ref a)) ⟨rfl, (fun j hj => by omega), rfl, rfl⟩ (fun i v ρ H' hv hI => ⟨trivial, fun k' h1 h2 => ?_⟩) fun ρ H' hI => ⟨trivial, ?_⟩
  · obtain ⟨hi, rfl⟩ := rng_get hv
    obtain ⟨rfl, hold, e1, e2⟩ := hI
    have hm1 : (i + 1) % R.length < R.length := Nat.mod_lt _ (by omega)
    have hm2 : (i + (R.length - 1)) % R.length < R.length := Nat.mod_lt _ (by omega)
    have hz : ((R.length : Int) = 0) = False := by simp; intro e; simp [e] at hi
    have ef : ((i : Int) + 1).fmod (R.length : Int) = (((i + 1) % R.length : Nat) : Int) := by rw [← fmod_nn]; simp
    (repeat (first | dsimp only [XI, XJ] | dsimp only [ZA,ZB,ZC,ZD,ZE,ZF,ZG,ZH,ZI,ZJ,ZK,ZL,ZM,ZN,ZO,ZP,ZQ,ZR,ZS,ZT,ZU,ZV,ZW,ZX,ZY,ZZ,Za,Zb,Zc,Zd,Ze,Zf,Zg,Zh,Zi,Zj,Zk,Zl,Zm,Zn,Zo,Zp,Zq,Zr,Zs,Zt,Zu,Zv,Zw,Zx,Zy,Zz,YA,YB,YC,YD,YE,YF,YG,YH,YI,YJ,YK,YL,YM,YN,YO,YP,YQ,YR,Env.set,cond_true,cond_false,String.reduceBEq,YS,YT,YU,YV,YW,YX,YY,YZ,Ya,Yb,Yc,Yd,Ye,Yf] | simp only [Yg,Yh,true_and,Yi,Yj,Yk,Yl,Ym,Yn,Yo,Yp,Yq,Yr,Yt,Yu,Yv,Yw,Yx,Yy,Yz,XA,XB,XC,XD,XE,beq_self_eq_true,reduceIte,reduceCtorEq,↓reduceIte,XF,XG,XH, e1, e2, hR.back hi, hR.len, hz, ef, hR.at hm1, hR.at hi]))
    have next : (1 < R.length → both W (R.getD i 0) (R.getD ((i + 1) % R.length) 0) = true) → (2 < R.length → soonerP W (R.getD i 0) (some (R.getD ((i + 1) % R.length) 0)) (some (R.getD ((i + (R.length - 1)) % R.length) 0)) = true) → ∀ ρ', ρ' "wishes" = some (.ref w) → ρ' "ring" = some (.ref a) → k' none ρ' H' := by
      intro q1 q2 ρ' f1 f2
      refine h1 _ _ ⟨rfl, fun j hj => ?_, f1, f2⟩
      rcases Nat.lt_or_eq_of_le (Nat.lt_succ_iff.mp hj) with q | rfl
      · exact hold j q
      · exact ⟨q1, q2⟩
    have bad : ¬ RingOk W R → ∀ ρ', k' (some (.bool false)) ρ' H' := fun q ρ' => h2 _ _ _ (h false (by simp [q]))
    by_cases c1 : 1 < R.length
    · have d1 : decide ((1 : Int) < (R.length : Int)) = true := decide_eq_true (by omega)
      (repeat (first | dsimp only [XI, XJ] | dsimp only [ZA,ZB,ZC,ZD,ZE,ZF,ZG,ZH,ZI,ZJ,ZK,ZL,ZM,ZN,ZO,ZP,ZQ,ZR,ZS,ZT,ZU,ZV,ZW,ZX,ZY,ZZ,Za,Zb,Zc,Zd,Ze,Zf,Zg,Zh,Zi,Zj,Zk,Zl,Zm,Zn,Zo,Zp,Zq,Zr,Zs,Zt,Zu,Zv,Zw,Zx,Zy,Zz,YA,YB,YC,YD,YE,YF,YG,YH,YI,YJ,YK,YL,YM,YN,YO,YP,YQ,YR,Env.set,cond_true,cond_false,String.reduceBEq,YS,YT,YU,YV,YW,YX,YY,YZ,Ya,Yb,Yc,Yd,Ye,Yf] | simp only [Yg,Yh,true_and,Yi,Yj,Yk,Yl,Ym,Yn,Yo,Yp,Yq,Yr,Yt,Yu,Yv,Yw,Yx,Yy,Yz,XA,XB,XC,XD,XE,beq_self_eq_true,reduceIte,reduceCtorEq,↓reduceIte,XF,XG,XH, d1]))
      refine s_both_wish hP1 hw (hlt i hi) (hlt _ hm1) ?_
      (repeat (first | dsimp only [XI, XJ] | dsimp only [ZA,ZB,ZC,ZD,ZE,ZF,ZG,ZH,ZI,ZJ,ZK,ZL,ZM,ZN,ZO,ZP,ZQ,ZR,ZS,ZT,ZU,ZV,ZW,ZX,ZY,ZZ,Za,Zb,Zc,Zd,Ze,Zf,Zg,Zh,Zi,Zj,Zk,Zl,Zm,Zn,Zo,Zp,Zq,Zr,Zs,Zt,Zu,Zv,Zw,Zx,Zy,Zz,YA,YB,YC,YD,YE,YF,YG,YH,YI,YJ,YK,YL,YM,YN,YO,YP,YQ,YR,Env.set,cond_true,cond_false,String.reduceBEq,YS,YT,YU,YV,YW,YX,YY,YZ,Ya,Yb,Yc,Yd,Ye,Yf] | simp only [Yg,Yh,true_and,Yi,Yj,Yk,Yl,Ym,Yn,Yo,Yp,Yq,Yr,Yt,Yu,Yv,Yw,Yx,Yy,Yz,XA,XB,XC,XD,XE,beq_self_eq_true,reduceIte,reduceCtorEq,↓reduceIte,XF,XG,XH, hR.len, hR.at hi]))
      refine ⟨fun q => bad (fun z => ?_) _, fun q => ?_⟩
      · rw [(z i hi).1 c1] at q; cases q
      · have q1 : both W (R.getD i 0) (R.getD ((i + 1) % R.length) 0) = true := by simpa using q
        by_cases c2 : 2 < R.length
        · have d2 : decide ((2 : Int) < (R.length : Int)) = true := decide_eq_true (by omega)
          (repeat (first | dsimp only [XI, XJ] | dsimp only [ZA,ZB,ZC,ZD,ZE,ZF,ZG,ZH,ZI,ZJ,ZK,ZL,ZM,ZN,ZO,ZP,ZQ,ZR,ZS,ZT,ZU,ZV,ZW,ZX,ZY,ZZ,Za,Zb,Zc,Zd,Ze,Zf,Zg,Zh,Zi,Zj,Zk,Zl,Zm,Zn,Zo,Zp,Zq,Zr,Zs,Zt,Zu,Zv,Zw,Zx,Zy,Zz,YA,YB,YC,YD,YE,YF,YG,YH,YI,YJ,YK,YL,YM,YN,YO,YP,YQ,YR,Env.set,cond_true,cond_false,String.reduceBEq,YS,YT,YU,YV,YW,YX,YY,YZ,Ya,Yb,Yc,Yd,Ye,Yf] | simp only [Yg,Yh,true_and,Yi,Yj,Yk,Yl,Ym,Yn,Yo,Yp,Yq,Yr,Yt,Yu,Yv,Yw,Yx,Yy,Yz,XA,XB,XC,XD,XE,beq_self_eq_true,reduceIte,reduceCtorEq,↓reduceIte,XF,XG,XH, d2]))
          refine s_sooner (one := some (R.getD ((i + 1) % R.length) 0)) (other := some (R.getD ((i + (R.length - 1)) % R.length) 0)) hP2 hP1 hw (hlt i hi) (fun j e => by cases e; exact hlt _ hm1) (fun j e => by cases e; exact hlt _ hm2) ?_
          (repeat (first | dsimp only [XI, XJ] | dsimp only [ZA,ZB,ZC,ZD,ZE,ZF,ZG,ZH,ZI,ZJ,ZK,ZL,ZM,ZN,ZO,ZP,ZQ,ZR,ZS,ZT,ZU,ZV,ZW,ZX,ZY,ZZ,Za,Zb,Zc,Zd,Ze,Zf,Zg,Zh,Zi,Zj,Zk,Zl,Zm,Zn,Zo,Zp,Zq,Zr,Zs,Zt,Zu,Zv,Zw,Zx,Zy,Zz,YA,YB,YC,YD,YE,YF,YG,YH,YI,YJ,YK,YL,YM,YN,YO,YP,YQ,YR,Env.set,cond_true,cond_false,String.reduceBEq,YS,YT,YU,YV,YW,YX,YY,YZ,Ya,Yb,Yc,Yd,Ye,Yf] | simp only [Yg,Yh,true_and,Yi,Yj,Yk,Yl,Ym,Yn,Yo,Yp,Yq,Yr,Yt,Yu,Yv,Yw,Yx,Yy,Yz,XA,XB,XC,XD,XE,beq_self_eq_true,reduceIte,reduceCtorEq,↓reduceIte,XF,XG,XH]))
          refine ⟨fun q => bad (fun z => ?_) _, fun q => next (fun _ => q1) (fun _ => by simpa using q) _ (by (repeat (first | dsimp only [XI, XJ] | dsimp only [ZA,ZB,ZC,ZD,ZE,ZF,ZG,ZH,ZI,ZJ,ZK,ZL,ZM,ZN,ZO,ZP,ZQ,ZR,ZS,ZT,ZU,ZV,ZW,ZX,ZY,ZZ,Za,Zb,Zc,Zd,Ze,Zf,Zg,Zh,Zi,Zj,Zk,Zl,Zm,Zn,Zo,Zp,Zq,Zr,Zs,Zt,Zu,Zv,Zw,Zx,Zy,Zz,YA,YB,YC,YD,YE,YF,YG,YH,YI,YJ,YK,YL,YM,YN,YO,YP,YQ,YR,Env.set,cond_true,cond_false,String.reduceBEq,YS,YT,YU,YV,YW,YX,YY,YZ,Ya,Yb,Yc,Yd,Ye,Yf] | simp only [Yg,Yh,true_and,Yi,Yj,Yk,Yl,Ym,Yn,Yo,Yp,Yq,Yr,Yt,Yu,Yv,Yw,Yx,Yy,Yz,XA,XB,XC,XD,XE,beq_self_eq_true,reduceIte,reduceCtorEq,↓reduceIte,XF,XG,XH, e1]))) (by (repeat (first | dsimp only [XI, XJ] | dsimp only [ZA,ZB,ZC,ZD,ZE,ZF,ZG,ZH,ZI,ZJ,ZK,ZL,ZM,ZN,ZO,ZP,ZQ,ZR,ZS,ZT,ZU,ZV,ZW,ZX,ZY,ZZ,Za,Zb,Zc,Zd,Ze,Zf,Zg,Zh,Zi,Zj,Zk,Zl,Zm,Zn,Zo,Zp,Zq,Zr,Zs,Zt,Zu,Zv,Zw,Zx,Zy,Zz,YA,YB,YC,YD,YE,YF,YG,YH,YI,YJ,YK,YL,YM,YN,YO,YP,YQ,YR,Env.set,cond_true,cond_false,String.reduceBEq,YS,YT,YU,YV,YW,YX,YY,YZ,Ya,Yb,Yc,Yd,Ye,Yf] | simp only [Yg,Yh,true_and,Yi,Yj,Yk,Yl,Ym,Yn,Yo,Yp,Yq,Yr,Yt,Yu,Yv,Yw,Yx,Yy,Yz,XA,XB,XC,XD,XE,beq_self_eq_true,reduceIte,reduceCtorEq,↓reduceIte,XF,XG,XH, e2])))⟩
          rw [(z i hi).2 c2] at q; cases q
        · have d2 : decide ((2 : Int) < (R.length : Int)) = false := decide_eq_false (by omega)
          (repeat (first | dsimp only [XI, XJ] | dsimp only [ZA,ZB,ZC,ZD,ZE,ZF,ZG,ZH,ZI,ZJ,ZK,ZL,ZM,ZN,ZO,ZP,ZQ,ZR,ZS,ZT,ZU,ZV,ZW,ZX,ZY,ZZ,Za,Zb,Zc,Zd,Ze,Zf,Zg,Zh,Zi,Zj,Zk,Zl,Zm,Zn,Zo,Zp,Zq,Zr,Zs,Zt,Zu,Zv,Zw,Zx,Zy,Zz,YA,YB,YC,YD,YE,YF,YG,YH,YI,YJ,YK,YL,YM,YN,YO,YP,YQ,YR,Env.set,cond_true,cond_false,String.reduceBEq,YS,YT,YU,YV,YW,YX,YY,YZ,Ya,Yb,Yc,Yd,Ye,Yf] | simp only [Yg,Yh,true_and,Yi,Yj,Yk,Yl,Ym,Yn,Yo,Yp,Yq,Yr,Yt,Yu,Yv,Yw,Yx,Yy,Yz,XA,XB,XC,XD,XE,beq_self_eq_true,reduceIte,reduceCtorEq,↓reduceIte,XF,XG,XH, d2]))
          exact next (fun _ => q1) (fun z => absurd z c2) _ (by (repeat (first | dsimp only [XI, XJ] | dsimp only [ZA,ZB,ZC,ZD,ZE,ZF,ZG,ZH,ZI,ZJ,ZK,ZL,ZM,ZN,ZO,ZP,ZQ,ZR,ZS,ZT,ZU,ZV,ZW,ZX,ZY,ZZ,Za,Zb,Zc,Zd,Ze,Zf,Zg,Zh,Zi,Zj,Zk,Zl,Zm,Zn,Zo,Zp,Zq,Zr,Zs,Zt,Zu,Zv,Zw,Zx,Zy,Zz,YA,YB,YC,YD,YE,YF,YG,YH,YI,YJ,YK,YL,YM,YN,YO,YP,YQ,YR,Env.set,cond_true,cond_false,String.reduceBEq,YS,YT,YU,YV,YW,YX,YY,YZ,Ya,Yb,Yc,Yd,Ye,Yf] | simp only [Yg,Yh,true_and,Yi,Yj,Yk,Yl,Ym,Yn,Yo,Yp,Yq,Yr,Yt,Yu,Yv,Yw,Yx,Yy,Yz,XA,XB,XC,XD,XE,beq_self_eq_true,reduceIte,reduceCtorEq,↓reduceIte,XF,XG,XH, e1]))) (by (repeat (first | dsimp only [XI, XJ] | dsimp only [ZA,ZB,ZC,ZD,ZE,ZF,ZG,ZH,ZI,ZJ,ZK,ZL,ZM,ZN,ZO,ZP,ZQ,ZR,ZS,ZT,ZU,ZV,ZW,ZX,ZY,ZZ,Za,Zb,Zc,Zd,Ze,Zf,Zg,Zh,Zi,Zj,Zk,Zl,Zm,Zn,Zo,Zp,Zq,Zr,Zs,Zt,Zu,Zv,Zw,Zx,Zy,Zz,YA,YB,YC,YD,YE,YF,YG,YH,YI,YJ,YK,YL,YM,YN,YO,YP,YQ,YR,Env.set,cond_true,cond_false,String.reduceBEq,YS,YT,YU,YV,YW,YX,YY,YZ,Ya,Yb,Yc,Yd,Ye,Yf] | simp only [Yg,Yh,true_and,Yi,Yj,Yk,Yl,Ym,Yn,Yo,Yp,Yq,Yr,Yt,Yu,Yv,Yw,Yx,Yy,Yz,XA,XB,XC,XD,XE,beq_self_eq_true,reduceIte,reduceCtorEq,↓reduceIte,XF,XG,XH, e2])))
    · have d1 : decide ((1 : Int) < (R.length : Int)) = false := decide_eq_false (by omega)
      have d2 : decide ((2 : Int) < (R.length : Int)) = false := decide_eq_false (by omega)
      (repeat (first | dsimp only [XI, XJ] | dsimp only [ZA,ZB,ZC,ZD,ZE,ZF,ZG,ZH,ZI,ZJ,ZK,ZL,ZM,ZN,ZO,ZP,ZQ,ZR,ZS,ZT,ZU,ZV,ZW,ZX,ZY,ZZ,Za,Zb,Zc,Zd,Ze,Zf,Zg,Zh,Zi,Zj,Zk,Zl,Zm,Zn,Zo,Zp,Zq,Zr,Zs,Zt,Zu,Zv,Zw,Zx,Zy,Zz,YA,YB,YC,YD,YE,YF,YG,YH,YI,YJ,YK,YL,YM,YN,YO,YP,YQ,YR,Env.set,cond_true,cond_false,String.reduceBEq,YS,YT,YU,YV,YW,YX,YY,YZ,Ya,Yb,Yc,Yd,Ye,Yf] | simp only [Yg,Yh,true_and,Yi,Yj,Yk,Yl,Ym,Yn,Yo,Yp,Yq,Yr,Yt,Yu,Yv,Yw,Yx,Yy,Yz,XA,XB,XC,XD,XE,beq_self_eq_true,reduceIte,reduceCtorEq,↓reduceIte,XF,XG,XH, d1, d2, hR.len]))
      exact next (fun z => absurd z c1) (fun z => absurd z (by omega)) _ (by (repeat (first | dsimp only [XI, XJ] | dsimp only [ZA,ZB,ZC,ZD,ZE,ZF,ZG,ZH,ZI,ZJ,ZK,ZL,ZM,ZN,ZO,ZP,ZQ,ZR,ZS,ZT,ZU,ZV,ZW,ZX,ZY,ZZ,Za,Zb,Zc,Zd,Ze,Zf,Zg,Zh,Zi,Zj,Zk,Zl,Zm,Zn,Zo,Zp,Zq,Zr,Zs,Zt,Zu,Zv,Zw,Zx,Zy,Zz,YA,YB,YC,YD,YE,YF,YG,YH,YI,YJ,YK,YL,YM,YN,YO,YP,YQ,YR,Env.set,cond_true,cond_false,String.reduceBEq,YS,YT,YU,YV,YW,YX,YY,YZ,Ya,Yb,Yc,Yd,Ye,Yf] | simp only [Yg,Yh,true_and,Yi,Yj,Yk,Yl,Ym,Yn,Yo,Yp,Yq,Yr,Yt,Yu,Yv,Yw,Yx,Yy,Yz,XA,XB,XC,XD,XE,beq_self_eq_true,reduceIte,reduceCtorEq,↓reduceIte,XF,XG,XH, e1]))) (by (repeat (first | dsimp only [XI, XJ] | dsimp only [ZA,ZB,ZC,ZD,ZE,ZF,ZG,ZH,ZI,ZJ,ZK,ZL,ZM,ZN,ZO,ZP,ZQ,ZR,ZS,ZT,ZU,ZV,ZW,ZX,ZY,ZZ,Za,Zb,Zc,Zd,Ze,Zf,Zg,Zh,Zi,Zj,Zk,Zl,Zm,Zn,Zo,Zp,Zq,Zr,Zs,Zt,Zu,Zv,Zw,Zx,Zy,Zz,YA,YB,YC,YD,YE,YF,YG,YH,YI,YJ,YK,YL,YM,YN,YO,YP,YQ,YR,Env.set,cond_true,cond_false,String.reduceBEq,YS,YT,YU,YV,YW,YX,YY,YZ,Ya,Yb,Yc,Yd,Ye,Yf] | simp only [Yg,Yh,true_and,Yi,Yj,Yk,Yl,Ym,Yn,Yo,Yp,Yq,Yr,Yt,Yu,Yv,Yw,Yx,Yy,Yz,XA,XB,XC,XD,XE,beq_self_eq_true,reduceIte,reduceCtorEq,↓reduceIte,XF,XG,XH, e2])))
  · obtain ⟨rfl, hold, e1, e2⟩ := hI
    rw [rng_len] at hold
    (repeat (first | dsimp only [XI, XJ] | dsimp only [ZA,ZB,ZC,ZD,ZE,ZF,ZG,ZH,ZI,ZJ,ZK,ZL,ZM,ZN,ZO,ZP,ZQ,ZR,ZS,ZT,ZU,ZV,ZW,ZX,ZY,ZZ,Za,Zb,Zc,Zd,Ze,Zf,Zg,Zh,Zi,Zj,Zk,Zl,Zm,Zn,Zo,Zp,Zq,Zr,Zs,Zt,Zu,Zv,Zw,Zx,Zy,Zz,YA,YB,YC,YD,YE,YF,YG,YH,YI,YJ,YK,YL,YM,YN,YO,YP,YQ,YR,Env.set,cond_true,cond_false,String.reduceBEq,YS,YT,YU,YV,YW,YX,YY,YZ,Ya,Yb,Yc,Yd,Ye,Yf] | simp only [Yg,Yh,true_and,Yi,Yj,Yk,Yl,Ym,Yn,Yo,Yp,Yq,Yr,Yt,Yu,Yv,Yw,Yx,Yy,Yz,XA,XB,XC,XD,XE,beq_self_eq_true,reduceIte,reduceCtorEq,↓reduceIte,XF,XG,XH]))
    exact h true ⟨fun _ => hold, fun _ => rfl⟩

theorem s_all_hold (hP : P.fn "all_hold" = some f_all_hold) (hP0 : P.fn "ring_holds" = some f_ring_holds) (hP1 : P.fn "both_wish" = some f_both_wish) (hP2 : P.fn "sooner" = some f_sooner) (hP3 : P.fn "rounds" = some f_rounds) {w a : Nat} {W : List (List Int)} {A : List Nat} (hw : WH H w W) (hA : LN H a A) (ok : AOk A) (hl : W.length = A.length)
    (h : ∀ H' r, H <+: H' → (r = true ↔ AllHold W A) → Q (.bool r) H') : callN P b (n + 4) "all_hold" [.ref w, .ref a] H Q X := by
  have hlim : A.length ≤ lim := Nat.le_trans ok.le (by decide)
  (refine callN_in hP rfl ?_; unfold f_all_hold)
  (repeat (first | dsimp only [XI, XJ] | dsimp only [ZA,ZB,ZC,ZD,ZE,ZF,ZG,ZH,ZI,ZJ,ZK,ZL,ZM,ZN,ZO,ZP,ZQ,ZR,ZS,ZT,ZU,ZV,ZW,ZX,ZY,ZZ,Za,Zb,Zc,Zd,Ze,Zf,Zg,Zh,Zi,Zj,Zk,Zl,Zm,Zn,Zo,Zp,Zq,Zr,Zs,Zt,Zu,Zv,Zw,Zx,Zy,Zz,YA,YB,YC,YD,YE,YF,YG,YH,YI,YJ,YK,YL,YM,YN,YO,YP,YQ,YR,Env.set,cond_true,cond_false,String.reduceBEq,YS,YT,YU,YV,YW,YX,YY,YZ,Ya,Yb,Yc,Yd,Ye,Yf] | simp only [Yg,Yh,true_and,Yi,Yj,Yk,Yl,Ym,Yn,Yo,Yp,Yq,Yr,Yt,Yu,Yv,Yw,Yx,Yy,Yz,XA,XB,XC,XD,XE,beq_self_eq_true,reduceIte,reduceCtorEq,↓reduceIte,XF,XG,XH]))
  refine s_rounds hP3 hA ok fun H1 r hp1 hr hwn => ?_
  obtain ⟨fs, g1, g2, g3⟩ := hwn.at
  have hw1 := hw.pre hp1
  have hA1 := hA.pre hp1
  (repeat (first | dsimp only [XI, XJ] | dsimp only [ZA,ZB,ZC,ZD,ZE,ZF,ZG,ZH,ZI,ZJ,ZK,ZL,ZM,ZN,ZO,ZP,ZQ,ZR,ZS,ZT,ZU,ZV,ZW,ZX,ZY,ZZ,Za,Zb,Zc,Zd,Ze,Zf,Zg,Zh,Zi,Zj,Zk,Zl,Zm,Zn,Zo,Zp,Zq,Zr,Zs,Zt,Zu,Zv,Zw,Zx,Zy,Zz,YA,YB,YC,YD,YE,YF,YG,YH,YI,YJ,YK,YL,YM,YN,YO,YP,YQ,YR,Env.set,cond_true,cond_false,String.reduceBEq,YS,YT,YU,YV,YW,YX,YY,YZ,Ya,Yb,Yc,Yd,Ye,Yf] | simp only [Yg,Yh,true_and,Yi,Yj,Yk,Yl,Ym,Yn,Yo,Yp,Yq,Yr,Yt,Yu,Yv,Yw,Yx,Yy,Yz,XA,XB,XC,XD,XE,beq_self_eq_true,reduceIte,reduceCtorEq,↓reduceIte,XF,XG,XH, seqOf_list g1]))
  refine wFor_idx (fun i ρ H' => H' = H1 ∧ (∀ (j : Nat) R, j < i → (roundsF A)[j]? = some R → RingOk W R) ∧ ρ "wishes" = some (.ref w) ∧ ρ "after" = some (.ref a)) ⟨rfl, (fun j R hj => by omega), rfl, rfl⟩ (fun i v ρ H' hv hI => ?_) fun ρ H' hI => ?_
  · obtain ⟨rfl, hold, e1, e2⟩ := hI
    refine ⟨rfl, fun k' h1 h2 => ?_⟩
    obtain ⟨c, R, rfl, hRi, hRc⟩ := g3 i v hv
    obtain ⟨f1, f2, f3⟩ := ok.ok.facts R (List.mem_of_getElem? hRi)
    (repeat (first | dsimp only [XI, XJ] | dsimp only [ZA,ZB,ZC,ZD,ZE,ZF,ZG,ZH,ZI,ZJ,ZK,ZL,ZM,ZN,ZO,ZP,ZQ,ZR,ZS,ZT,ZU,ZV,ZW,ZX,ZY,ZZ,Za,Zb,Zc,Zd,Ze,Zf,Zg,Zh,Zi,Zj,Zk,Zl,Zm,Zn,Zo,Zp,Zq,Zr,Zs,Zt,Zu,Zv,Zw,Zx,Zy,Zz,YA,YB,YC,YD,YE,YF,YG,YH,YI,YJ,YK,YL,YM,YN,YO,YP,YQ,YR,Env.set,cond_true,cond_false,String.reduceBEq,YS,YT,YU,YV,YW,YX,YY,YZ,Ya,Yb,Yc,Yd,Ye,Yf] | simp only [Yg,Yh,true_and,Yi,Yj,Yk,Yl,Ym,Yn,Yo,Yp,Yq,Yr,Yt,Yu,Yv,Yw,Yx,Yy,Yz,XA,XB,XC,XD,XE,beq_self_eq_true,reduceIte,reduceCtorEq,↓reduceIte,XF,XG,XH, e1]))
    refine s_ring_holds hP0 hP1 hP2 hw1 hRc (Nat.le_trans f2 ok.le) (fun j hj => by rw [hl]; exact (f3 j hj).1) fun r hr => ?_
    (repeat (first | dsimp only [XI, XJ] | dsimp only [ZA,ZB,ZC,ZD,ZE,ZF,ZG,ZH,ZI,ZJ,ZK,ZL,ZM,ZN,ZO,ZP,ZQ,ZR,ZS,ZT,ZU,ZV,ZW,ZX,ZY,ZZ,Za,Zb,Zc,Zd,Ze,Zf,Zg,Zh,Zi,Zj,Zk,Zl,Zm,Zn,Zo,Zp,Zq,Zr,Zs,Zt,Zu,Zv,Zw,Zx,Zy,Zz,YA,YB,YC,YD,YE,YF,YG,YH,YI,YJ,YK,YL,YM,YN,YO,YP,YQ,YR,Env.set,cond_true,cond_false,String.reduceBEq,YS,YT,YU,YV,YW,YX,YY,YZ,Ya,Yb,Yc,Yd,Ye,Yf] | simp only [Yg,Yh,true_and,Yi,Yj,Yk,Yl,Ym,Yn,Yo,Yp,Yq,Yr,Yt,Yu,Yv,Yw,Yx,Yy,Yz,XA,XB,XC,XD,XE,beq_self_eq_true,reduceIte,reduceCtorEq,↓reduceIte,XF,XG,XH]))
    refine ⟨fun q => h2 _ _ _ (h _ false hp1 ?_), fun q => h1 _ _ ⟨rfl, ?_, by (repeat (first | dsimp only [XI, XJ] | dsimp only [ZA,ZB,ZC,ZD,ZE,ZF,ZG,ZH,ZI,ZJ,ZK,ZL,ZM,ZN,ZO,ZP,ZQ,ZR,ZS,ZT,ZU,ZV,ZW,ZX,ZY,ZZ,Za,Zb,Zc,Zd,Ze,Zf,Zg,Zh,Zi,Zj,Zk,Zl,Zm,Zn,Zo,Zp,Zq,Zr,Zs,Zt,Zu,Zv,Zw,Zx,Zy,Zz,YA,YB,YC,YD,YE,YF,YG,YH,YI,YJ,YK,YL,YM,YN,YO,YP,YQ,YR,Env.set,cond_true,cond_false,String.reduceBEq,YS,YT,YU,YV,YW,YX,YY,YZ,Ya,Yb,Yc,Yd,Ye,Yf] | simp only [Yg,Yh,true_and,Yi,Yj,Yk,Yl,Ym,Yn,Yo,Yp,Yq,Yr,Yt,Yu,Yv,Yw,Yx,Yy,Yz,XA,XB,XC,XD,XE,beq_self_eq_true,reduceIte,reduceCtorEq,↓reduceIte,XF,XG,XH, e1])), by (repeat (first | dsimp only [XI, XJ] | dsimp only [ZA,ZB,ZC,ZD,ZE,ZF,ZG,ZH,ZI,ZJ,ZK,ZL,ZM,ZN,ZO,ZP,ZQ,ZR,ZS,ZT,ZU,ZV,ZW,ZX,ZY,ZZ,Za,Zb,Zc,Zd,Ze,Zf,Zg,Zh,Zi,Zj,Zk,Zl,Zm,Zn,Zo,Zp,Zq,Zr,Zs,Zt,Zu,Zv,Zw,Zx,Zy,Zz,YA,YB,YC,YD,YE,YF,YG,YH,YI,YJ,YK,YL,YM,YN,YO,YP,YQ,YR,Env.set,cond_true,cond_false,String.reduceBEq,YS,YT,YU,YV,YW,YX,YY,YZ,Ya,Yb,Yc,Yd,Ye,Yf] | simp only [Yg,Yh,true_and,Yi,Yj,Yk,Yl,Ym,Yn,Yo,Yp,Yq,Yr,Yt,Yu,Yv,Yw,Yx,Yy,Yz,XA,XB,XC,XD,XE,beq_self_eq_true,reduceIte,reduceCtorEq,↓reduceIte,XF,XG,XH, e2]))⟩⟩
    · constructor
      · intro e; cases e
      · intro z
        have := hr.mpr (z.1 R (List.mem_of_getElem? hRi))
        rw [this] at q; cases q
    · intro j R' hj hR'
      rcases Nat.lt_or_eq_of_le (Nat.lt_succ_iff.mp hj) with z | rfl
      · exact hold j R' z hR'
      · rw [hRi] at hR'; cases hR'
        exact hr.mp (by simpa using q)
  · obtain ⟨rfl, hold, e1, e2⟩ := hI
    refine ⟨rfl, ?_⟩
    have hold' : ∀ R ∈ roundsF A, RingOk W R := fun R hR => by
      obtain ⟨j, hj, e⟩ := List.mem_iff_getElem.mp hR
      exact hold j R (by rw [g2]; exact hj) (by rw [List.getElem?_eq_getElem hj, e])
    (repeat (first | dsimp only [XI, XJ] | dsimp only [ZA,ZB,ZC,ZD,ZE,ZF,ZG,ZH,ZI,ZJ,ZK,ZL,ZM,ZN,ZO,ZP,ZQ,ZR,ZS,ZT,ZU,ZV,ZW,ZX,ZY,ZZ,Za,Zb,Zc,Zd,Ze,Zf,Zg,Zh,Zi,Zj,Zk,Zl,Zm,Zn,Zo,Zp,Zq,Zr,Zs,Zt,Zu,Zv,Zw,Zx,Zy,Zz,YA,YB,YC,YD,YE,YF,YG,YH,YI,YJ,YK,YL,YM,YN,YO,YP,YQ,YR,Env.set,cond_true,cond_false,String.reduceBEq,YS,YT,YU,YV,YW,YX,YY,YZ,Ya,Yb,Yc,Yd,Ye,Yf] | simp only [Yg,Yh,true_and,Yi,Yj,Yk,Yl,Ym,Yn,Yo,Yp,Yq,Yr,Yt,Yu,Yv,Yw,Yx,Yy,Yz,XA,XB,XC,XD,XE,beq_self_eq_true,reduceIte,reduceCtorEq,↓reduceIte,XF,XG,XH, e1, e2, hA1.len, range_nat hlim]))
    refine wLoop_idx (fun i acc H2 => H2 = H' ∧ acc = ((List.range i).map fun g => A.idxOf g).map fun i : Nat => V.int (i : Int)) ⟨rfl, rfl⟩ (fun i v acc H2 hv hI => ⟨trivial, fun k' h1 h2 => ?_⟩) fun acc H2 hI => ⟨trivial, ?_⟩
    · obtain ⟨hi, rfl⟩ := rng_get hv
      obtain ⟨rfl, rfl⟩ := hI
      have hx := hA1.li.index (x := (i : Int)) (ci_mem.mpr (ok.mem hi))
      rw [ci_idx] at hx
      (repeat (first | dsimp only [XI, XJ] | dsimp only [ZA,ZB,ZC,ZD,ZE,ZF,ZG,ZH,ZI,ZJ,ZK,ZL,ZM,ZN,ZO,ZP,ZQ,ZR,ZS,ZT,ZU,ZV,ZW,ZX,ZY,ZZ,Za,Zb,Zc,Zd,Ze,Zf,Zg,Zh,Zi,Zj,Zk,Zl,Zm,Zn,Zo,Zp,Zq,Zr,Zs,Zt,Zu,Zv,Zw,Zx,Zy,Zz,YA,YB,YC,YD,YE,YF,YG,YH,YI,YJ,YK,YL,YM,YN,YO,YP,YQ,YR,Env.set,cond_true,cond_false,String.reduceBEq,YS,YT,YU,YV,YW,YX,YY,YZ,Ya,Yb,Yc,Yd,Ye,Yf] | simp only [Yg,Yh,true_and,Yi,Yj,Yk,Yl,Ym,Yn,Yo,Yp,Yq,Yr,Yt,Yu,Yv,Yw,Yx,Yy,Yz,XA,XB,XC,XD,XE,beq_self_eq_true,reduceIte,reduceCtorEq,↓reduceIte,XF,XG,XH, e2, (recvL hA1).2.2, hx]))
      refine h1 _ _ ⟨rfl, ?_⟩
      rw [List.range_succ, List.map_append, List.map_append]; rfl
    · obtain ⟨rfl, rfl⟩ := hI
      rw [rng_len]
      have hB := LN.new H2 ((List.range A.length).map fun g => A.idxOf g)
      have hp2 : H2 <+: H2 ++ [.list (((List.range A.length).map fun g => A.idxOf g).map fun i : Nat => V.int (i : Int))] := pre_new _ _
      have hw2 := hw1.pre hp2
      have hA2 := hA1.pre hp2
      generalize (H2 ++ [.list (((List.range A.length).map fun g => A.idxOf g).map fun i : Nat => V.int (i : Int))]) = H3 at *
      have hb : ∀ {i}, i < A.length → itemV (.ref H2.length) (.int (i : Int)) H3 = some (.int ((A.idxOf i : Nat) : Int)) := fun {i} hi => hB.item (by rw [List.getElem?_map, List.getElem?_range hi]; rfl)
      (repeat (first | dsimp only [XI, XJ] | dsimp only [ZA,ZB,ZC,ZD,ZE,ZF,ZG,ZH,ZI,ZJ,ZK,ZL,ZM,ZN,ZO,ZP,ZQ,ZR,ZS,ZT,ZU,ZV,ZW,ZX,ZY,ZZ,Za,Zb,Zc,Zd,Ze,Zf,Zg,Zh,Zi,Zj,Zk,Zl,Zm,Zn,Zo,Zp,Zq,Zr,Zs,Zt,Zu,Zv,Zw,Zx,Zy,Zz,YA,YB,YC,YD,YE,YF,YG,YH,YI,YJ,YK,YL,YM,YN,YO,YP,YQ,YR,Env.set,cond_true,cond_false,String.reduceBEq,YS,YT,YU,YV,YW,YX,YY,YZ,Ya,Yb,Yc,Yd,Ye,Yf] | simp only [Yg,Yh,true_and,Yi,Yj,Yk,Yl,Ym,Yn,Yo,Yp,Yq,Yr,Yt,Yu,Yv,Yw,Yx,Yy,Yz,XA,XB,XC,XD,XE,beq_self_eq_true,reduceIte,reduceCtorEq,↓reduceIte,XF,XG,XH, e2, hA2.len, range_nat hlim]))
      refine wFor_idx (fun i ρ H' => H' = H3 ∧ (∀ i', i' < i → ∀ j, j < i' → ¬ (soonerP W i' (some j) (some (A.idxOf i')) = true ∧ soonerP W j (some i') (some (A.idxOf j)) = true)) ∧ ρ "wishes" = some (.ref w) ∧ ρ "after" = some (.ref a) ∧ ρ "before" = some (.ref H2.length)) ⟨rfl, (fun j hj => by omega), by (repeat (first | dsimp only [XI, XJ] | dsimp only [ZA,ZB,ZC,ZD,ZE,ZF,ZG,ZH,ZI,ZJ,ZK,ZL,ZM,ZN,ZO,ZP,ZQ,ZR,ZS,ZT,ZU,ZV,ZW,ZX,ZY,ZZ,Za,Zb,Zc,Zd,Ze,Zf,Zg,Zh,Zi,Zj,Zk,Zl,Zm,Zn,Zo,Zp,Zq,Zr,Zs,Zt,Zu,Zv,Zw,Zx,Zy,Zz,YA,YB,YC,YD,YE,YF,YG,YH,YI,YJ,YK,YL,YM,YN,YO,YP,YQ,YR,Env.set,cond_true,cond_false,String.reduceBEq,YS,YT,YU,YV,YW,YX,YY,YZ,Ya,Yb,Yc,Yd,Ye,Yf] | simp only [Yg,Yh,true_and,Yi,Yj,Yk,Yl,Ym,Yn,Yo,Yp,Yq,Yr,Yt,Yu,Yv,Yw,Yx,Yy,Yz,XA,XB,XC,XD,XE,beq_self_eq_true,reduceIte,reduceCtorEq,↓reduceIte,XF,XG,XH, e1])), by (repeat (first | dsimp only [XI, XJ] | dsimp only [ZA,ZB,ZC,ZD,ZE,ZF,ZG,ZH,ZI,ZJ,ZK,ZL,ZM,ZN,ZO,ZP,ZQ,ZR,ZS,ZT,ZU,ZV,ZW,ZX,ZY,ZZ,Za,Zb,Zc,Zd,Ze,Zf,Zg,Zh,Zi,Zj,Zk,Zl,Zm,Zn,Zo,Zp,Zq,Zr,Zs,Zt,Zu,Zv,Zw,Zx,Zy,Zz,YA,YB,YC,YD,YE,YF,YG,YH,YI,YJ,YK,YL,YM,YN,YO,YP,YQ,YR,Env.set,cond_true,cond_false,String.reduceBEq,YS,YT,YU,YV,YW,YX,YY,YZ,Ya,Yb,Yc,Yd,Ye,Yf] | simp only [Yg,Yh,true_and,Yi,Yj,Yk,Yl,Ym,Yn,Yo,Yp,Yq,Yr,Yt,Yu,Yv,Yw,Yx,Yy,Yz,XA,XB,XC,XD,XE,beq_self_eq_true,reduceIte,reduceCtorEq,↓reduceIte,XF,XG,XH, e2])), by (repeat (first | dsimp only [XI, XJ] | dsimp only [ZA,ZB,ZC,ZD,ZE,ZF,ZG,ZH,ZI,ZJ,ZK,ZL,ZM,ZN,ZO,ZP,ZQ,ZR,ZS,ZT,ZU,ZV,ZW,ZX,ZY,ZZ,Za,Zb,Zc,Zd,Ze,Zf,Zg,Zh,Zi,Zj,Zk,Zl,Zm,Zn,Zo,Zp,Zq,Zr,Zs,Zt,Zu,Zv,Zw,Zx,Zy,Zz,YA,YB,YC,YD,YE,YF,YG,YH,YI,YJ,YK,YL,YM,YN,YO,YP,YQ,YR,Env.set,cond_true,cond_false,String.reduceBEq,YS,YT,YU,YV,YW,YX,YY,YZ,Ya,Yb,Yc,Yd,Ye,Yf] | simp only [Yg,Yh,true_and,Yi,Yj,Yk,Yl,Ym,Yn,Yo,Yp,Yq,Yr,Yt,Yu,Yv,Yw,Yx,Yy,Yz,XA,XB,XC,XD,XE,beq_self_eq_true,reduceIte,reduceCtorEq,↓reduceIte,XF,XG,XH]))⟩ (fun i v ρ H' hv hI => ⟨trivial, fun k' h1 h2 => ?_⟩) fun ρ H' hI => ⟨trivial, ?_⟩
      · obtain ⟨hi, rfl⟩ := rng_get hv
        obtain ⟨rfl, hh, f1, f2, f3⟩ := hI
        (repeat (first | dsimp only [XI, XJ] | dsimp only [ZA,ZB,ZC,ZD,ZE,ZF,ZG,ZH,ZI,ZJ,ZK,ZL,ZM,ZN,ZO,ZP,ZQ,ZR,ZS,ZT,ZU,ZV,ZW,ZX,ZY,ZZ,Za,Zb,Zc,Zd,Ze,Zf,Zg,Zh,Zi,Zj,Zk,Zl,Zm,Zn,Zo,Zp,Zq,Zr,Zs,Zt,Zu,Zv,Zw,Zx,Zy,Zz,YA,YB,YC,YD,YE,YF,YG,YH,YI,YJ,YK,YL,YM,YN,YO,YP,YQ,YR,Env.set,cond_true,cond_false,String.reduceBEq,YS,YT,YU,YV,YW,YX,YY,YZ,Ya,Yb,Yc,Yd,Ye,Yf] | simp only [Yg,Yh,true_and,Yi,Yj,Yk,Yl,Ym,Yn,Yo,Yp,Yq,Yr,Yt,Yu,Yv,Yw,Yx,Yy,Yz,XA,XB,XC,XD,XE,beq_self_eq_true,reduceIte,reduceCtorEq,↓reduceIte,XF,XG,XH, range_nat (show i ≤ lim by omega)]))
        refine wFor_idx (fun j ρ Hx => Hx = H' ∧ (∀ j', j' < j → ¬ (soonerP W i (some j') (some (A.idxOf i)) = true ∧ soonerP W j' (some i) (some (A.idxOf j')) = true)) ∧ ρ "wishes" = some (.ref w) ∧ ρ "after" = some (.ref a) ∧ ρ "before" = some (.ref H2.length) ∧ ρ "one" = some (.int (i : Int))) ⟨rfl, (fun j hj => by omega), by (repeat (first | dsimp only [XI, XJ] | dsimp only [ZA,ZB,ZC,ZD,ZE,ZF,ZG,ZH,ZI,ZJ,ZK,ZL,ZM,ZN,ZO,ZP,ZQ,ZR,ZS,ZT,ZU,ZV,ZW,ZX,ZY,ZZ,Za,Zb,Zc,Zd,Ze,Zf,Zg,Zh,Zi,Zj,Zk,Zl,Zm,Zn,Zo,Zp,Zq,Zr,Zs,Zt,Zu,Zv,Zw,Zx,Zy,Zz,YA,YB,YC,YD,YE,YF,YG,YH,YI,YJ,YK,YL,YM,YN,YO,YP,YQ,YR,Env.set,cond_true,cond_false,String.reduceBEq,YS,YT,YU,YV,YW,YX,YY,YZ,Ya,Yb,Yc,Yd,Ye,Yf] | simp only [Yg,Yh,true_and,Yi,Yj,Yk,Yl,Ym,Yn,Yo,Yp,Yq,Yr,Yt,Yu,Yv,Yw,Yx,Yy,Yz,XA,XB,XC,XD,XE,beq_self_eq_true,reduceIte,reduceCtorEq,↓reduceIte,XF,XG,XH, f1])), by (repeat (first | dsimp only [XI, XJ] | dsimp only [ZA,ZB,ZC,ZD,ZE,ZF,ZG,ZH,ZI,ZJ,ZK,ZL,ZM,ZN,ZO,ZP,ZQ,ZR,ZS,ZT,ZU,ZV,ZW,ZX,ZY,ZZ,Za,Zb,Zc,Zd,Ze,Zf,Zg,Zh,Zi,Zj,Zk,Zl,Zm,Zn,Zo,Zp,Zq,Zr,Zs,Zt,Zu,Zv,Zw,Zx,Zy,Zz,YA,YB,YC,YD,YE,YF,YG,YH,YI,YJ,YK,YL,YM,YN,YO,YP,YQ,YR,Env.set,cond_true,cond_false,String.reduceBEq,YS,YT,YU,YV,YW,YX,YY,YZ,Ya,Yb,Yc,Yd,Ye,Yf] | simp only [Yg,Yh,true_and,Yi,Yj,Yk,Yl,Ym,Yn,Yo,Yp,Yq,Yr,Yt,Yu,Yv,Yw,Yx,Yy,Yz,XA,XB,XC,XD,XE,beq_self_eq_true,reduceIte,reduceCtorEq,↓reduceIte,XF,XG,XH, f2])), by (repeat (first | dsimp only [XI, XJ] | dsimp only [ZA,ZB,ZC,ZD,ZE,ZF,ZG,ZH,ZI,ZJ,ZK,ZL,ZM,ZN,ZO,ZP,ZQ,ZR,ZS,ZT,ZU,ZV,ZW,ZX,ZY,ZZ,Za,Zb,Zc,Zd,Ze,Zf,Zg,Zh,Zi,Zj,Zk,Zl,Zm,Zn,Zo,Zp,Zq,Zr,Zs,Zt,Zu,Zv,Zw,Zx,Zy,Zz,YA,YB,YC,YD,YE,YF,YG,YH,YI,YJ,YK,YL,YM,YN,YO,YP,YQ,YR,Env.set,cond_true,cond_false,String.reduceBEq,YS,YT,YU,YV,YW,YX,YY,YZ,Ya,Yb,Yc,Yd,Ye,Yf] | simp only [Yg,Yh,true_and,Yi,Yj,Yk,Yl,Ym,Yn,Yo,Yp,Yq,Yr,Yt,Yu,Yv,Yw,Yx,Yy,Yz,XA,XB,XC,XD,XE,beq_self_eq_true,reduceIte,reduceCtorEq,↓reduceIte,XF,XG,XH, f3])), by (repeat (first | dsimp only [XI, XJ] | dsimp only [ZA,ZB,ZC,ZD,ZE,ZF,ZG,ZH,ZI,ZJ,ZK,ZL,ZM,ZN,ZO,ZP,ZQ,ZR,ZS,ZT,ZU,ZV,ZW,ZX,ZY,ZZ,Za,Zb,Zc,Zd,Ze,Zf,Zg,Zh,Zi,Zj,Zk,Zl,Zm,Zn,Zo,Zp,Zq,Zr,Zs,Zt,Zu,Zv,Zw,Zx,Zy,Zz,YA,YB,YC,YD,YE,YF,YG,YH,YI,YJ,YK,YL,YM,YN,YO,YP,YQ,YR,Env.set,cond_true,cond_false,String.reduceBEq,YS,YT,YU,YV,YW,YX,YY,YZ,Ya,Yb,Yc,Yd,Ye,Yf] | simp only [Yg,Yh,true_and,Yi,Yj,Yk,Yl,Ym,Yn,Yo,Yp,Yq,Yr,Yt,Yu,Yv,Yw,Yx,Yy,Yz,XA,XB,XC,XD,XE,beq_self_eq_true,reduceIte,reduceCtorEq,↓reduceIte,XF,XG,XH]))⟩ (fun j v ρ H4 hv hI => ⟨trivial, fun k'' h1' h2' => ?_⟩) fun ρ H4 hI => ⟨trivial, ?_⟩
        · obtain ⟨hj, rfl⟩ := rng_get hv
          obtain ⟨rfl, hh', r1, r2, r3, r4⟩ := hI
          have hjA : j < A.length := by omega
          have next : ¬ (soonerP W i (some j) (some (A.idxOf i)) = true ∧ soonerP W j (some i) (some (A.idxOf j)) = true) → ∀ ρ', ρ' "wishes" = some (.ref w) → ρ' "after" = some (.ref a) → ρ' "before" = some (.ref H2.length) → ρ' "one" = some (.int (i : Int)) → k'' none ρ' H4 := by
            intro q ρ' s1 s2 s3 s4
            refine h1' _ _ ⟨rfl, fun j' hj' => ?_, s1, s2, s3, s4⟩
            rcases Nat.lt_or_eq_of_le (Nat.lt_succ_iff.mp hj') with z | rfl
            · exact hh' j' z
            · exact q
          (repeat (first | dsimp only [XI, XJ] | dsimp only [ZA,ZB,ZC,ZD,ZE,ZF,ZG,ZH,ZI,ZJ,ZK,ZL,ZM,ZN,ZO,ZP,ZQ,ZR,ZS,ZT,ZU,ZV,ZW,ZX,ZY,ZZ,Za,Zb,Zc,Zd,Ze,Zf,Zg,Zh,Zi,Zj,Zk,Zl,Zm,Zn,Zo,Zp,Zq,Zr,Zs,Zt,Zu,Zv,Zw,Zx,Zy,Zz,YA,YB,YC,YD,YE,YF,YG,YH,YI,YJ,YK,YL,YM,YN,YO,YP,YQ,YR,Env.set,cond_true,cond_false,String.reduceBEq,YS,YT,YU,YV,YW,YX,YY,YZ,Ya,Yb,Yc,Yd,Ye,Yf] | simp only [Yg,Yh,true_and,Yi,Yj,Yk,Yl,Ym,Yn,Yo,Yp,Yq,Yr,Yt,Yu,Yv,Yw,Yx,Yy,Yz,XA,XB,XC,XD,XE,beq_self_eq_true,reduceIte,reduceCtorEq,↓reduceIte,XF,XG,XH, r1, r3, r4, hb hi]))
          refine s_sooner (one := some j) (other := some (A.idxOf i)) hP2 hP1 hw2 (by omega) (fun z e => by cases e; omega) (fun z e => by cases e; rw [hl]; exact idx_lt ok hi) ?_
          (repeat (first | dsimp only [XI, XJ] | dsimp only [ZA,ZB,ZC,ZD,ZE,ZF,ZG,ZH,ZI,ZJ,ZK,ZL,ZM,ZN,ZO,ZP,ZQ,ZR,ZS,ZT,ZU,ZV,ZW,ZX,ZY,ZZ,Za,Zb,Zc,Zd,Ze,Zf,Zg,Zh,Zi,Zj,Zk,Zl,Zm,Zn,Zo,Zp,Zq,Zr,Zs,Zt,Zu,Zv,Zw,Zx,Zy,Zz,YA,YB,YC,YD,YE,YF,YG,YH,YI,YJ,YK,YL,YM,YN,YO,YP,YQ,YR,Env.set,cond_true,cond_false,String.reduceBEq,YS,YT,YU,YV,YW,YX,YY,YZ,Ya,Yb,Yc,Yd,Ye,Yf] | simp only [Yg,Yh,true_and,Yi,Yj,Yk,Yl,Ym,Yn,Yo,Yp,Yq,Yr,Yt,Yu,Yv,Yw,Yx,Yy,Yz,XA,XB,XC,XD,XE,beq_self_eq_true,reduceIte,reduceCtorEq,↓reduceIte,XF,XG,XH]))
          refine ⟨fun q => ?_, fun q => next (fun z => by rw [q] at z; cases z.1) _ (by (repeat (first | dsimp only [XI, XJ] | dsimp only [ZA,ZB,ZC,ZD,ZE,ZF,ZG,ZH,ZI,ZJ,ZK,ZL,ZM,ZN,ZO,ZP,ZQ,ZR,ZS,ZT,ZU,ZV,ZW,ZX,ZY,ZZ,Za,Zb,Zc,Zd,Ze,Zf,Zg,Zh,Zi,Zj,Zk,Zl,Zm,Zn,Zo,Zp,Zq,Zr,Zs,Zt,Zu,Zv,Zw,Zx,Zy,Zz,YA,YB,YC,YD,YE,YF,YG,YH,YI,YJ,YK,YL,YM,YN,YO,YP,YQ,YR,Env.set,cond_true,cond_false,String.reduceBEq,YS,YT,YU,YV,YW,YX,YY,YZ,Ya,Yb,Yc,Yd,Ye,Yf] | simp only [Yg,Yh,true_and,Yi,Yj,Yk,Yl,Ym,Yn,Yo,Yp,Yq,Yr,Yt,Yu,Yv,Yw,Yx,Yy,Yz,XA,XB,XC,XD,XE,beq_self_eq_true,reduceIte,reduceCtorEq,↓reduceIte,XF,XG,XH, r1]))) (by (repeat (first | dsimp only [XI, XJ] | dsimp only [ZA,ZB,ZC,ZD,ZE,ZF,ZG,ZH,ZI,ZJ,ZK,ZL,ZM,ZN,ZO,ZP,ZQ,ZR,ZS,ZT,ZU,ZV,ZW,ZX,ZY,ZZ,Za,Zb,Zc,Zd,Ze,Zf,Zg,Zh,Zi,Zj,Zk,Zl,Zm,Zn,Zo,Zp,Zq,Zr,Zs,Zt,Zu,Zv,Zw,Zx,Zy,Zz,YA,YB,YC,YD,YE,YF,YG,YH,YI,YJ,YK,YL,YM,YN,YO,YP,YQ,YR,Env.set,cond_true,cond_false,String.reduceBEq,YS,YT,YU,YV,YW,YX,YY,YZ,Ya,Yb,Yc,Yd,Ye,Yf] | simp only [Yg,Yh,true_and,Yi,Yj,Yk,Yl,Ym,Yn,Yo,Yp,Yq,Yr,Yt,Yu,Yv,Yw,Yx,Yy,Yz,XA,XB,XC,XD,XE,beq_self_eq_true,reduceIte,reduceCtorEq,↓reduceIte,XF,XG,XH, r2]))) (by (repeat (first | dsimp only [XI, XJ] | dsimp only [ZA,ZB,ZC,ZD,ZE,ZF,ZG,ZH,ZI,ZJ,ZK,ZL,ZM,ZN,ZO,ZP,ZQ,ZR,ZS,ZT,ZU,ZV,ZW,ZX,ZY,ZZ,Za,Zb,Zc,Zd,Ze,Zf,Zg,Zh,Zi,Zj,Zk,Zl,Zm,Zn,Zo,Zp,Zq,Zr,Zs,Zt,Zu,Zv,Zw,Zx,Zy,Zz,YA,YB,YC,YD,YE,YF,YG,YH,YI,YJ,YK,YL,YM,YN,YO,YP,YQ,YR,Env.set,cond_true,cond_false,String.reduceBEq,YS,YT,YU,YV,YW,YX,YY,YZ,Ya,Yb,Yc,Yd,Ye,Yf] | simp only [Yg,Yh,true_and,Yi,Yj,Yk,Yl,Ym,Yn,Yo,Yp,Yq,Yr,Yt,Yu,Yv,Yw,Yx,Yy,Yz,XA,XB,XC,XD,XE,beq_self_eq_true,reduceIte,reduceCtorEq,↓reduceIte,XF,XG,XH, r3]))) (by (repeat (first | dsimp only [XI, XJ] | dsimp only [ZA,ZB,ZC,ZD,ZE,ZF,ZG,ZH,ZI,ZJ,ZK,ZL,ZM,ZN,ZO,ZP,ZQ,ZR,ZS,ZT,ZU,ZV,ZW,ZX,ZY,ZZ,Za,Zb,Zc,Zd,Ze,Zf,Zg,Zh,Zi,Zj,Zk,Zl,Zm,Zn,Zo,Zp,Zq,Zr,Zs,Zt,Zu,Zv,Zw,Zx,Zy,Zz,YA,YB,YC,YD,YE,YF,YG,YH,YI,YJ,YK,YL,YM,YN,YO,YP,YQ,YR,Env.set,cond_true,cond_false,String.reduceBEq,YS,YT,YU,YV,YW,YX,YY,YZ,Ya,Yb,Yc,Yd,Ye,Yf] | simp only [Yg,Yh,true_and,Yi,Yj,Yk,Yl,Ym,Yn,Yo,Yp,Yq,Yr,Yt,Yu,Yv,Yw,Yx,Yy,Yz,XA,XB,XC,XD,XE,beq_self_eq_true,reduceIte,reduceCtorEq,↓reduceIte,XF,XG,XH, r4])))⟩
          (repeat (first | dsimp only [XI, XJ] | dsimp only [ZA,ZB,ZC,ZD,ZE,ZF,ZG,ZH,ZI,ZJ,ZK,ZL,ZM,ZN,ZO,ZP,ZQ,ZR,ZS,ZT,ZU,ZV,ZW,ZX,ZY,ZZ,Za,Zb,Zc,Zd,Ze,Zf,Zg,Zh,Zi,Zj,Zk,Zl,Zm,Zn,Zo,Zp,Zq,Zr,Zs,Zt,Zu,Zv,Zw,Zx,Zy,Zz,YA,YB,YC,YD,YE,YF,YG,YH,YI,YJ,YK,YL,YM,YN,YO,YP,YQ,YR,Env.set,cond_true,cond_false,String.reduceBEq,YS,YT,YU,YV,YW,YX,YY,YZ,Ya,Yb,Yc,Yd,Ye,Yf] | simp only [Yg,Yh,true_and,Yi,Yj,Yk,Yl,Ym,Yn,Yo,Yp,Yq,Yr,Yt,Yu,Yv,Yw,Yx,Yy,Yz,XA,XB,XC,XD,XE,beq_self_eq_true,reduceIte,reduceCtorEq,↓reduceIte,XF,XG,XH, r1, r3, r4, hb hjA]))
          refine s_sooner (one := some i) (other := some (A.idxOf j)) hP2 hP1 hw2 (by omega) (fun z e => by cases e; omega) (fun z e => by cases e; rw [hl]; exact idx_lt ok hjA) ?_
          (repeat (first | dsimp only [XI, XJ] | dsimp only [ZA,ZB,ZC,ZD,ZE,ZF,ZG,ZH,ZI,ZJ,ZK,ZL,ZM,ZN,ZO,ZP,ZQ,ZR,ZS,ZT,ZU,ZV,ZW,ZX,ZY,ZZ,Za,Zb,Zc,Zd,Ze,Zf,Zg,Zh,Zi,Zj,Zk,Zl,Zm,Zn,Zo,Zp,Zq,Zr,Zs,Zt,Zu,Zv,Zw,Zx,Zy,Zz,YA,YB,YC,YD,YE,YF,YG,YH,YI,YJ,YK,YL,YM,YN,YO,YP,YQ,YR,Env.set,cond_true,cond_false,String.reduceBEq,YS,YT,YU,YV,YW,YX,YY,YZ,Ya,Yb,Yc,Yd,Ye,Yf] | simp only [Yg,Yh,true_and,Yi,Yj,Yk,Yl,Ym,Yn,Yo,Yp,Yq,Yr,Yt,Yu,Yv,Yw,Yx,Yy,Yz,XA,XB,XC,XD,XE,beq_self_eq_true,reduceIte,reduceCtorEq,↓reduceIte,XF,XG,XH]))
          refine ⟨fun q2 => h2' _ _ _ (h2 _ _ _ (h _ false (hp1.trans hp2) ?_)), fun q2 => next (fun z => by rw [q2] at z; cases z.2) _ (by (repeat (first | dsimp only [XI, XJ] | dsimp only [ZA,ZB,ZC,ZD,ZE,ZF,ZG,ZH,ZI,ZJ,ZK,ZL,ZM,ZN,ZO,ZP,ZQ,ZR,ZS,ZT,ZU,ZV,ZW,ZX,ZY,ZZ,Za,Zb,Zc,Zd,Ze,Zf,Zg,Zh,Zi,Zj,Zk,Zl,Zm,Zn,Zo,Zp,Zq,Zr,Zs,Zt,Zu,Zv,Zw,Zx,Zy,Zz,YA,YB,YC,YD,YE,YF,YG,YH,YI,YJ,YK,YL,YM,YN,YO,YP,YQ,YR,Env.set,cond_true,cond_false,String.reduceBEq,YS,YT,YU,YV,YW,YX,YY,YZ,Ya,Yb,Yc,Yd,Ye,Yf] | simp only [Yg,Yh,true_and,Yi,Yj,Yk,Yl,Ym,Yn,Yo,Yp,Yq,Yr,Yt,Yu,Yv,Yw,Yx,Yy,Yz,XA,XB,XC,XD,XE,beq_self_eq_true,reduceIte,reduceCtorEq,↓reduceIte,XF,XG,XH, r1]))) (by (repeat (first | dsimp only [XI, XJ] | dsimp only [ZA,ZB,ZC,ZD,ZE,ZF,ZG,ZH,ZI,ZJ,ZK,ZL,ZM,ZN,ZO,ZP,ZQ,ZR,ZS,ZT,ZU,ZV,ZW,ZX,ZY,ZZ,Za,Zb,Zc,Zd,Ze,Zf,Zg,Zh,Zi,Zj,Zk,Zl,Zm,Zn,Zo,Zp,Zq,Zr,Zs,Zt,Zu,Zv,Zw,Zx,Zy,Zz,YA,YB,YC,YD,YE,YF,YG,YH,YI,YJ,YK,YL,YM,YN,YO,YP,YQ,YR,Env.set,cond_true,cond_false,String.reduceBEq,YS,YT,YU,YV,YW,YX,YY,YZ,Ya,Yb,Yc,Yd,Ye,Yf] | simp only [Yg,Yh,true_and,Yi,Yj,Yk,Yl,Ym,Yn,Yo,Yp,Yq,Yr,Yt,Yu,Yv,Yw,Yx,Yy,Yz,XA,XB,XC,XD,XE,beq_self_eq_true,reduceIte,reduceCtorEq,↓reduceIte,XF,XG,XH, r2]))) (by (repeat (first | dsimp only [XI, XJ] | dsimp only [ZA,ZB,ZC,ZD,ZE,ZF,ZG,ZH,ZI,ZJ,ZK,ZL,ZM,ZN,ZO,ZP,ZQ,ZR,ZS,ZT,ZU,ZV,ZW,ZX,ZY,ZZ,Za,Zb,Zc,Zd,Ze,Zf,Zg,Zh,Zi,Zj,Zk,Zl,Zm,Zn,Zo,Zp,Zq,Zr,Zs,Zt,Zu,Zv,Zw,Zx,Zy,Zz,YA,YB,YC,YD,YE,YF,YG,YH,YI,YJ,YK,YL,YM,YN,YO,YP,YQ,YR,Env.set,cond_true,cond_false,String.reduceBEq,YS,YT,YU,YV,YW,YX,YY,YZ,Ya,Yb,Yc,Yd,Ye,Yf] | simp only [Yg,Yh,true_and,Yi,Yj,Yk,Yl,Ym,Yn,Yo,Yp,Yq,Yr,Yt,Yu,Yv,Yw,Yx,Yy,Yz,XA,XB,XC,XD,XE,beq_self_eq_true,reduceIte,reduceCtorEq,↓reduceIte,XF,XG,XH, r3]))) (by (repeat (first | dsimp only [XI, XJ] | dsimp only [ZA,ZB,ZC,ZD,ZE,ZF,ZG,ZH,ZI,ZJ,ZK,ZL,ZM,ZN,ZO,ZP,ZQ,ZR,ZS,ZT,ZU,ZV,ZW,ZX,ZY,ZZ,Za,Zb,Zc,Zd,Ze,Zf,Zg,Zh,Zi,Zj,Zk,Zl,Zm,Zn,Zo,Zp,Zq,Zr,Zs,Zt,Zu,Zv,Zw,Zx,Zy,Zz,YA,YB,YC,YD,YE,YF,YG,YH,YI,YJ,YK,YL,YM,YN,YO,YP,YQ,YR,Env.set,cond_true,cond_false,String.reduceBEq,YS,YT,YU,YV,YW,YX,YY,YZ,Ya,Yb,Yc,Yd,Ye,Yf] | simp only [Yg,Yh,true_and,Yi,Yj,Yk,Yl,Ym,Yn,Yo,Yp,Yq,Yr,Yt,Yu,Yv,Yw,Yx,Yy,Yz,XA,XB,XC,XD,XE,beq_self_eq_true,reduceIte,reduceCtorEq,↓reduceIte,XF,XG,XH, r4])))⟩
          exact ⟨(fun e => by cases e), fun z => absurd ⟨q, q2⟩ (z.2 i hi j hj)⟩
        · obtain ⟨rfl, hh', r1, r2, r3, r4⟩ := hI
          rw [rng_len] at hh'
          refine h1 _ _ ⟨rfl, fun i' hi' => ?_, r1, r2, r3⟩
          rcases Nat.lt_or_eq_of_le (Nat.lt_succ_iff.mp hi') with z | rfl
          · exact hh i' z
          · exact hh'
      · obtain ⟨rfl, hh, f1, f2, f3⟩ := hI
        rw [rng_len] at hh
        (repeat (first | dsimp only [XI, XJ] | dsimp only [ZA,ZB,ZC,ZD,ZE,ZF,ZG,ZH,ZI,ZJ,ZK,ZL,ZM,ZN,ZO,ZP,ZQ,ZR,ZS,ZT,ZU,ZV,ZW,ZX,ZY,ZZ,Za,Zb,Zc,Zd,Ze,Zf,Zg,Zh,Zi,Zj,Zk,Zl,Zm,Zn,Zo,Zp,Zq,Zr,Zs,Zt,Zu,Zv,Zw,Zx,Zy,Zz,YA,YB,YC,YD,YE,YF,YG,YH,YI,YJ,YK,YL,YM,YN,YO,YP,YQ,YR,Env.set,cond_true,cond_false,String.reduceBEq,YS,YT,YU,YV,YW,YX,YY,YZ,Ya,Yb,Yc,Yd,Ye,Yf] | simp only [Yg,Yh,true_and,Yi,Yj,Yk,Yl,Ym,Yn,Yo,Yp,Yq,Yr,Yt,Yu,Yv,Yw,Yx,Yy,Yz,XA,XB,XC,XD,XE,beq_self_eq_true,reduceIte,reduceCtorEq,↓reduceIte,XF,XG,XH]))
        exact h _ true (hp1.trans hp2) ⟨fun _ => ⟨hold', hh⟩, fun _ => rfl⟩

theorem s_holds (hP : P.fn "holds" = some f_holds) (hP9 : P.fn "all_hold" = some f_all_hold) (hP0 : P.fn "ring_holds" = some f_ring_holds) (hP1 : P.fn "both_wish" = some f_both_wish) (hP2 : P.fn "sooner" = some f_sooner) (hP3 : P.fn "rounds" = some f_rounds)
    (hP4 : P.fn "need_wishes" = some f_need_wishes) (hP5 : P.fn "is_row" = some f_is_row) (hP6 : P.fn "is_guest" = some f_is_guest) (hP7 : P.fn "need_parties" = some f_need_parties) (hG : P.glob "MOST_GUESTS" = some (.int 6)) {w a : Nat} {W : List (List Int)} {A : List Nat} (hw : WH H w W) (wok : WOk W) (hA : LN H a A) (ok : AOk A) (hl : W.length = A.length)
    (h : ∀ H' r, H <+: H' → (r = true ↔ AllHold W A) → Q (.bool r) H') : callN P b (n + 5) "holds" [.ref w, .ref a] H Q X := by
  (refine callN_in hP rfl ?_; unfold f_holds)
  (repeat (first | dsimp only [XI, XJ] | dsimp only [ZA,ZB,ZC,ZD,ZE,ZF,ZG,ZH,ZI,ZJ,ZK,ZL,ZM,ZN,ZO,ZP,ZQ,ZR,ZS,ZT,ZU,ZV,ZW,ZX,ZY,ZZ,Za,Zb,Zc,Zd,Ze,Zf,Zg,Zh,Zi,Zj,Zk,Zl,Zm,Zn,Zo,Zp,Zq,Zr,Zs,Zt,Zu,Zv,Zw,Zx,Zy,Zz,YA,YB,YC,YD,YE,YF,YG,YH,YI,YJ,YK,YL,YM,YN,YO,YP,YQ,YR,Env.set,cond_true,cond_false,String.reduceBEq,YS,YT,YU,YV,YW,YX,YY,YZ,Ya,Yb,Yc,Yd,Ye,Yf] | simp only [Yg,Yh,true_and,Yi,Yj,Yk,Yl,Ym,Yn,Yo,Yp,Yq,Yr,Yt,Yu,Yv,Yw,Yx,Yy,Yz,XA,XB,XC,XD,XE,beq_self_eq_true,reduceIte,reduceCtorEq,↓reduceIte,XF,XG,XH]))
  refine s_need_wishes hP4 hP5 hP6 hG hw wok fun H1 hp1 => ?_
  (repeat (first | dsimp only [XI, XJ] | dsimp only [ZA,ZB,ZC,ZD,ZE,ZF,ZG,ZH,ZI,ZJ,ZK,ZL,ZM,ZN,ZO,ZP,ZQ,ZR,ZS,ZT,ZU,ZV,ZW,ZX,ZY,ZZ,Za,Zb,Zc,Zd,Ze,Zf,Zg,Zh,Zi,Zj,Zk,Zl,Zm,Zn,Zo,Zp,Zq,Zr,Zs,Zt,Zu,Zv,Zw,Zx,Zy,Zz,YA,YB,YC,YD,YE,YF,YG,YH,YI,YJ,YK,YL,YM,YN,YO,YP,YQ,YR,Env.set,cond_true,cond_false,String.reduceBEq,YS,YT,YU,YV,YW,YX,YY,YZ,Ya,Yb,Yc,Yd,Ye,Yf] | simp only [Yg,Yh,true_and,Yi,Yj,Yk,Yl,Ym,Yn,Yo,Yp,Yq,Yr,Yt,Yu,Yv,Yw,Yx,Yy,Yz,XA,XB,XC,XD,XE,beq_self_eq_true,reduceIte,reduceCtorEq,↓reduceIte,XF,XG,XH]))
  refine s_need_parties hP7 hP6 hG (hA.pre hp1) ok fun H2 hp2 => ?_
  have hp := hp1.trans hp2
  (repeat (first | dsimp only [XI, XJ] | dsimp only [ZA,ZB,ZC,ZD,ZE,ZF,ZG,ZH,ZI,ZJ,ZK,ZL,ZM,ZN,ZO,ZP,ZQ,ZR,ZS,ZT,ZU,ZV,ZW,ZX,ZY,ZZ,Za,Zb,Zc,Zd,Ze,Zf,Zg,Zh,Zi,Zj,Zk,Zl,Zm,Zn,Zo,Zp,Zq,Zr,Zs,Zt,Zu,Zv,Zw,Zx,Zy,Zz,YA,YB,YC,YD,YE,YF,YG,YH,YI,YJ,YK,YL,YM,YN,YO,YP,YQ,YR,Env.set,cond_true,cond_false,String.reduceBEq,YS,YT,YU,YV,YW,YX,YY,YZ,Ya,Yb,Yc,Yd,Ye,Yf] | simp only [Yg,Yh,true_and,Yi,Yj,Yk,Yl,Ym,Yn,Yo,Yp,Yq,Yr,Yt,Yu,Yv,Yw,Yx,Yy,Yz,XA,XB,XC,XD,XE,beq_self_eq_true,reduceIte,reduceCtorEq,↓reduceIte,XF,XG,XH, (hA.pre hp).len, (hw.pre hp).len, hl]))
  refine s_all_hold hP9 hP0 hP1 hP2 hP3 (hw.pre hp) (hA.pre hp) ok hl fun H3 r hp3 hr => ?_
  exact h H3 r (hp.trans hp3) hr

end
end Mine

namespace Mine
open PySem

theorem LN.ne_mt {H : Hp} {c m : Nat} {R : List Nat} {k : Nat} (h : LN H c R) (hR : 0 < R.length) (hm : MT H m (List.replicate k none)) : c ≠ m := by
  rintro rfl
  unfold LN at h
  unfold MT at hm
  rw [h] at hm
  cases R with
  | nil => simp at hR
  | cons x R =>
    cases k with
    | zero => simp at hm
    | succ k => simp [List.replicate_succ, ov] at hm

theorem pairRing_succ (M : List (Option Nat)) (R : List Nat) (k : Nat) : pairRing M R (k + 1) = pairIn (pairRing M R k) (at0 R (2 * k)) (at0 R (2 * k + 1)) := by
  unfold pairRing
  rw [upto_eq, upto_eq, List.append_nil, List.append_nil, List.range_succ, List.foldl_append]; rfl
theorem pairIn_len (M : List (Option Nat)) (a b : Nat) : (pairIn M a b).length = M.length := by simp [pairIn]
theorem pairRing_len (M : List (Option Nat)) (R : List Nat) (k : Nat) : (pairRing M R k).length = M.length := by
  induction k with
  | zero => rfl
  | succ k ih => rw [pairRing_succ, pairIn_len, ih]
theorem pairTo_snoc (ahead : Bool) (Rs : List (List Nat)) (R : List Nat) (M : List (Option Nat)) : pairTo ahead (Rs ++ [R]) M = pairRing (pairTo ahead Rs M) (turned ahead R) (R.length / 2) := by
  unfold pairTo; rw [List.foldl_append]; rfl
theorem pairTo_len (ahead : Bool) (M : List (Option Nat)) : ∀ (Rs : List (List Nat)) , (pairTo ahead Rs M).length = M.length := by
  intro Rs
  unfold pairTo
  induction Rs generalizing M with
  | nil => rfl
  | cons R Rs ih => rw [List.foldl_cons, ih, pairRing_len]
theorem turned_len (ahead : Bool) (R : List Nat) : (turned ahead R).length = R.length := by
  unfold turned; cases ahead <;> simp; omega
theorem turned_mem {ahead : Bool} {R : List Nat} {x : Nat} (h : x ∈ turned ahead R) : x ∈ R := by
  unfold turned at h
  cases ahead with
  | false => simpa using h
  | true =>
    simp only [if_true, List.mem_append] at h
    rcases h with h | h
    · exact List.mem_of_mem_drop h
    · exact List.mem_of_mem_take h
theorem take_snoc {α : Type} {l : List α} {i : Nat} {x : α} (h : l[i]? = some x) : l.take (i + 1) = l.take i ++ [x] := by
  rw [List.take_add_one, h]; rfl

/-- range(0, k, 2) -/
noncomputable def rngT (k : Nat) : List V := (List.range k).map fun k : Nat => V.int ((2 * k : Nat) : Int)
theorem rngT_get {k i : Nat} {v : V} (h : (rngT k)[i]? = some v) : i < k ∧ v = .int ((2 * i : Nat) : Int) := by
  unfold rngT at h
  rw [List.getElem?_map] at h
  obtain ⟨j, hj, rfl⟩ := Option.map_eq_some_iff.mp h
  obtain ⟨hl, e⟩ := List.getElem?_eq_some_iff.mp hj
  simp at hl e; subst e; exact ⟨hl, rfl⟩
theorem rngT_len (k : Nat) : (rngT k).length = k := by simp [rngT]
theorem rangeT {L : Nat} (h : L = 1 ∨ L % 2 = 0) (hl : L ≤ 6) (h0 : 0 < L) : rangeOf [.int 0, .int ((L : Int) - 1), .int 2] = some (rangeI 0 ((L : Int) - 1) 2) ∧ (rangeI 0 ((L : Int) - 1) 2).map V.int = rngT (L / 2) := by
  constructor
  · unfold rangeOf lim
    simp; omega
  · unfold rangeI rngT
    rw [List.map_map]
    have : (if (0 : Int) < (L : Int) - 1 then ((L : Int) - 1 - 0 - 1) / 2 + 1 else 0).toNat = L / 2 := by split <;> omega
    rw [this]
    refine List.map_congr_left fun k _ => ?_
    simp only [Function.comp]; congr 1; omega

section
variable {P : Prog} {b : Bool} {n : Nat} {H : Hp} {Q : Post} {X : XP}

theorem mul_none (k : Nat) (hk : k ≤ lim) {a : Nat} (h : H[a]? = some (.list [.none])) : mulV (.ref a) (.int (k : Int)) H = some (.ref H.length, H ++ [.list ((List.replicate k none).map ov)]) := by
  rw [mul_at h hk, List.map_replicate]; rfl

theorem oddR_eq (R : List Nat) : oddR R = (decide (1 < R.length) && decide (R.length % 2 = 1)) := by
  unfold oddR; rw [blt_dec, beq_dec]

theorem getD_mem {R : List Nat} {i : Nat} (h : i < R.length) : R.getD i 0 ∈ R := by
  rw [List.getD_eq_getElem?_getD, List.getElem?_eq_getElem h]; exact List.getElem_mem h

theorem w_pairs {C : Ctx} {ρ : Env} {k : SPost} {X : SXP} {c m : Nat} {R : List Nat} {M : List (Option Nat)} {ah : V} (hR : LN H c R) (hM : MT H m M) (hcm : c ≠ m) (hlt : ∀ x ∈ R, x < M.length) (hev : R.length = 1 ∨ R.length % 2 = 0) (h6 : R.length ≤ 6) (h0 : 0 < R.length)
    (e1 : ρ "mates" = some (.ref m)) (e2 : ρ "ring" = some (.ref c)) (e3 : ρ "ahead" = some ah) (h : ∀ ρ' H', (∀ c, c ≠ m → H'[c]? = H[c]?) → MT H' m (pairRing M R (R.length / 2)) → ρ' "mates" = some (.ref m) → ρ' "ahead" = some ah → k none ρ' H') :
    wSs C [.forR "at" [.int 0, .op (.bin .sub) [.op .len [.var "ring"], .int 1], .int 2]
      [.setItem (.var "mates") (.op .item [.var "ring", .var "at"]) (.op .item [.var "ring", .op (.bin .add) [.var "at", .int 1]]),
      .setItem (.var "mates") (.op .item [.var "ring", .op (.bin .add) [.var "at", .int 1]]) (.op .item [.var "ring", .var "at"])]] ρ H k X := by
  obtain ⟨r1, r2⟩ := rangeT hev h6 h0
  (repeat (first | dsimp only [XI, XJ] | dsimp only [ZA,ZB,ZC,ZD,ZE,ZF,ZG,ZH,ZI,ZJ,ZK,ZL,ZM,ZN,ZO,ZP,ZQ,ZR,ZS,ZT,ZU,ZV,ZW,ZX,ZY,ZZ,Za,Zb,Zc,Zd,Ze,Zf,Zg,Zh,Zi,Zj,Zk,Zl,Zm,Zn,Zo,Zp,Zq,Zr,Zs,Zt,Zu,Zv,Zw,Zx,Zy,Zz,YA,YB,YC,YD,YE,YF,YG,YH,YI,YJ,YK,YL,YM,YN,YO,YP,YQ,YR,Env.set,cond_true,cond_false,String.reduceBEq,YS,YT,YU,YV,YW,YX,YY,YZ,Ya,Yb,Yc,Yd,Ye,Yf] | simp only [Yg,Yh,true_and,Yi,Yj,Yk,Yl,Ym,Yn,Yo,Yp,Yq,Yr,Yt,Yu,Yv,Yw,Yx,Yy,Yz,XA,XB,XC,XD,XE,beq_self_eq_true,reduceIte,reduceCtorEq,↓reduceIte,XF,XG,XH, e2, hR.len, r1, r2]))
  refine wFor_idx (fun i ρ H' => (∀ c, c ≠ m → H'[c]? = H[c]?) ∧ MT H' m (pairRing M R i) ∧ ρ "mates" = some (.ref m) ∧ ρ "ring" = some (.ref c) ∧ ρ "ahead" = some ah) ⟨(fun _ _ => rfl), hM, e1, e2, e3⟩ (fun i v ρ H' hv hI => ⟨trivial, fun k' h1 h2 => ?_⟩) fun ρ H' hI => ⟨trivial, ?_⟩
  · obtain ⟨hi, rfl⟩ := rngT_get hv
    obtain ⟨hk, hm, f1, f2, f3⟩ := hI
    have hR1 : LN H' c R := by unfold LN; rw [hk c hcm]; exact hR
    have hi1 : 2 * i < R.length := by omega
    have hi2 : 2 * i + 1 < R.length := by omega
    have ec : ((2 * i : Nat) : Int) + 1 = ((2 * i + 1 : Nat) : Int) := by omega
    have q1 := hlt _ (getD_mem hi1)
    have q2 := hlt _ (getD_mem hi2)
    obtain ⟨s1, s2⟩ := hm.set (i := R.getD (2 * i) 0) (by rw [pairRing_len]; exact q1) (some (R.getD (2 * i + 1) 0))
    have hR2 : LN (H'.set m (.list (((pairRing M R i).set (R.getD (2 * i) 0) (some (R.getD (2 * i + 1) 0))).map ov))) c R := by unfold LN; rw [get_set_ne hcm]; exact hR1
    obtain ⟨s3, s4⟩ := s2.set (i := R.getD (2 * i + 1) 0) (by rw [List.length_set, pairRing_len]; exact q2) (some (R.getD (2 * i) 0))
    simp only [ov] at s1 s3
    (repeat (first | dsimp only [XI, XJ] | dsimp only [ZA,ZB,ZC,ZD,ZE,ZF,ZG,ZH,ZI,ZJ,ZK,ZL,ZM,ZN,ZO,ZP,ZQ,ZR,ZS,ZT,ZU,ZV,ZW,ZX,ZY,ZZ,Za,Zb,Zc,Zd,Ze,Zf,Zg,Zh,Zi,Zj,Zk,Zl,Zm,Zn,Zo,Zp,Zq,Zr,Zs,Zt,Zu,Zv,Zw,Zx,Zy,Zz,YA,YB,YC,YD,YE,YF,YG,YH,YI,YJ,YK,YL,YM,YN,YO,YP,YQ,YR,Env.set,cond_true,cond_false,String.reduceBEq,YS,YT,YU,YV,YW,YX,YY,YZ,Ya,Yb,Yc,Yd,Ye,Yf] | simp only [Yg,Yh,true_and,Yi,Yj,Yk,Yl,Ym,Yn,Yo,Yp,Yq,Yr,Yt,Yu,Yv,Yw,Yx,Yy,Yz,XA,XB,XC,XD,XE,beq_self_eq_true,reduceIte,reduceCtorEq,↓reduceIte,XF,XG,XH, f1, f2, ec, hR1.at hi1, hR1.at hi2, s1]))
    (repeat (first | dsimp only [XI, XJ] | dsimp only [ZA,ZB,ZC,ZD,ZE,ZF,ZG,ZH,ZI,ZJ,ZK,ZL,ZM,ZN,ZO,ZP,ZQ,ZR,ZS,ZT,ZU,ZV,ZW,ZX,ZY,ZZ,Za,Zb,Zc,Zd,Ze,Zf,Zg,Zh,Zi,Zj,Zk,Zl,Zm,Zn,Zo,Zp,Zq,Zr,Zs,Zt,Zu,Zv,Zw,Zx,Zy,Zz,YA,YB,YC,YD,YE,YF,YG,YH,YI,YJ,YK,YL,YM,YN,YO,YP,YQ,YR,Env.set,cond_true,cond_false,String.reduceBEq,YS,YT,YU,YV,YW,YX,YY,YZ,Ya,Yb,Yc,Yd,Ye,Yf] | simp only [Yg,Yh,true_and,Yi,Yj,Yk,Yl,Ym,Yn,Yo,Yp,Yq,Yr,Yt,Yu,Yv,Yw,Yx,Yy,Yz,XA,XB,XC,XD,XE,beq_self_eq_true,reduceIte,reduceCtorEq,↓reduceIte,XF,XG,XH, f1, f2, ec, hR2.at hi1, hR2.at hi2, s3]))
    refine h1 _ _ ⟨fun c hc => ?_, ?_, by (repeat (first | dsimp only [XI, XJ] | dsimp only [ZA,ZB,ZC,ZD,ZE,ZF,ZG,ZH,ZI,ZJ,ZK,ZL,ZM,ZN,ZO,ZP,ZQ,ZR,ZS,ZT,ZU,ZV,ZW,ZX,ZY,ZZ,Za,Zb,Zc,Zd,Ze,Zf,Zg,Zh,Zi,Zj,Zk,Zl,Zm,Zn,Zo,Zp,Zq,Zr,Zs,Zt,Zu,Zv,Zw,Zx,Zy,Zz,YA,YB,YC,YD,YE,YF,YG,YH,YI,YJ,YK,YL,YM,YN,YO,YP,YQ,YR,Env.set,cond_true,cond_false,String.reduceBEq,YS,YT,YU,YV,YW,YX,YY,YZ,Ya,Yb,Yc,Yd,Ye,Yf] | simp only [Yg,Yh,true_and,Yi,Yj,Yk,Yl,Ym,Yn,Yo,Yp,Yq,Yr,Yt,Yu,Yv,Yw,Yx,Yy,Yz,XA,XB,XC,XD,XE,beq_self_eq_true,reduceIte,reduceCtorEq,↓reduceIte,XF,XG,XH, f1])), by (repeat (first | dsimp only [XI, XJ] | dsimp only [ZA,ZB,ZC,ZD,ZE,ZF,ZG,ZH,ZI,ZJ,ZK,ZL,ZM,ZN,ZO,ZP,ZQ,ZR,ZS,ZT,ZU,ZV,ZW,ZX,ZY,ZZ,Za,Zb,Zc,Zd,Ze,Zf,Zg,Zh,Zi,Zj,Zk,Zl,Zm,Zn,Zo,Zp,Zq,Zr,Zs,Zt,Zu,Zv,Zw,Zx,Zy,Zz,YA,YB,YC,YD,YE,YF,YG,YH,YI,YJ,YK,YL,YM,YN,YO,YP,YQ,YR,Env.set,cond_true,cond_false,String.reduceBEq,YS,YT,YU,YV,YW,YX,YY,YZ,Ya,Yb,Yc,Yd,Ye,Yf] | simp only [Yg,Yh,true_and,Yi,Yj,Yk,Yl,Ym,Yn,Yo,Yp,Yq,Yr,Yt,Yu,Yv,Yw,Yx,Yy,Yz,XA,XB,XC,XD,XE,beq_self_eq_true,reduceIte,reduceCtorEq,↓reduceIte,XF,XG,XH, f2])), by (repeat (first | dsimp only [XI, XJ] | dsimp only [ZA,ZB,ZC,ZD,ZE,ZF,ZG,ZH,ZI,ZJ,ZK,ZL,ZM,ZN,ZO,ZP,ZQ,ZR,ZS,ZT,ZU,ZV,ZW,ZX,ZY,ZZ,Za,Zb,Zc,Zd,Ze,Zf,Zg,Zh,Zi,Zj,Zk,Zl,Zm,Zn,Zo,Zp,Zq,Zr,Zs,Zt,Zu,Zv,Zw,Zx,Zy,Zz,YA,YB,YC,YD,YE,YF,YG,YH,YI,YJ,YK,YL,YM,YN,YO,YP,YQ,YR,Env.set,cond_true,cond_false,String.reduceBEq,YS,YT,YU,YV,YW,YX,YY,YZ,Ya,Yb,Yc,Yd,Ye,Yf] | simp only [Yg,Yh,true_and,Yi,Yj,Yk,Yl,Ym,Yn,Yo,Yp,Yq,Yr,Yt,Yu,Yv,Yw,Yx,Yy,Yz,XA,XB,XC,XD,XE,beq_self_eq_true,reduceIte,reduceCtorEq,↓reduceIte,XF,XG,XH, f3]))⟩
    · rw [get_set_ne hc, get_set_ne hc, hk c hc]
    · rw [pairRing_succ, at0_eq, at0_eq]; exact s4
  · obtain ⟨hk, hm, f1, f2, f3⟩ := hI
    rw [rngT_len] at hm
    exact h _ _ hk hm f1 f3

theorem s_paired (hP : P.fn "paired" = some f_paired) (hP0 : P.fn "rounds" = some f_rounds) (hP1 : P.fn "need_parties" = some f_need_parties) (hP2 : P.fn "is_guest" = some f_is_guest) (hG : P.glob "MOST_GUESTS" = some (.int 6)) {a : Nat} {A : List Nat} (hA : LN H a A) (ok : AOk A) (ahead : Bool)
    (h : (roundsF A).any oddR = false → ∀ H' r, H <+: H' → H.length ≤ r → MT H' r (pairedF A ahead) → Q (.ref r) H') (hx : (roundsF A).any oddR = true → ∀ H', H <+: H' → X "BadParties" H') : callN P b (n + 3) "paired" [.ref a, .bool ahead] H Q X := by
  have hlim : A.length ≤ lim := Nat.le_trans ok.le (by decide)
  have hle := ok.le
  (refine callN_in hP rfl ?_; unfold f_paired)
  refine wSs_step fun K1 hk1 hk2 => ?_
  simp only [s_expr, s_assign, s_forS, s_forR, s_ret, oE_some, os_ref, Option.map_some, e_call, e_var, es_cons, es_nil, bp_cons, bp_nil, Env.set, cond_true, cond_false, String.reduceBEq]
  refine s_need_parties hP1 hP2 hG hA ok fun H1 hp1 => ?_
  refine hk1 _ _ (wSs_step fun K2 hk3 hk4 => ?_)
  have hA1 := (hA.pre hp1).pre (pre_new H1 (.list [.none]))
  (repeat (first | dsimp only [XI, XJ] | dsimp only [ZA,ZB,ZC,ZD,ZE,ZF,ZG,ZH,ZI,ZJ,ZK,ZL,ZM,ZN,ZO,ZP,ZQ,ZR,ZS,ZT,ZU,ZV,ZW,ZX,ZY,ZZ,Za,Zb,Zc,Zd,Ze,Zf,Zg,Zh,Zi,Zj,Zk,Zl,Zm,Zn,Zo,Zp,Zq,Zr,Zs,Zt,Zu,Zv,Zw,Zx,Zy,Zz,YA,YB,YC,YD,YE,YF,YG,YH,YI,YJ,YK,YL,YM,YN,YO,YP,YQ,YR,Env.set,cond_true,cond_false,String.reduceBEq,YS,YT,YU,YV,YW,YX,YY,YZ,Ya,Yb,Yc,Yd,Ye,Yf] | simp only [Yg,Yh,true_and,Yi,Yj,Yk,Yl,Ym,Yn,Yo,Yp,Yq,Yr,Yt,Yu,Yv,Yw,Yx,Yy,Yz,XA,XB,XC,XD,XE,beq_self_eq_true,reduceIte,reduceCtorEq,↓reduceIte,XF,XG,XH, hA1.len, mul_none A.length hlim (get_new H1 (.list [.none]))]))
  have hm : MT (H1 ++ [.list [.none]] ++ [.list ((List.replicate A.length none).map ov)]) (H1 ++ [O.list [.none]]).length (List.replicate A.length none) := get_new _ _
  have hmlow : H1.length < (H1 ++ [O.list [.none]]).length := by simp
  have hA2 := hA1.pre (pre_new _ (.list ((List.replicate A.length none).map ov)))
  have hp2 : H1 <+: H1 ++ [.list [.none]] ++ [.list ((List.replicate A.length none).map ov)] := (pre_new _ _).trans (pre_new _ _)
  have hmlt : (H1 ++ [O.list [.none]]).length < (H1 ++ [O.list [.none]] ++ [O.list ((List.replicate A.length none).map ov)]).length := by simp
  generalize (H1 ++ [O.list [.none]]).length = m at *
  generalize (H1 ++ [O.list [.none]] ++ [O.list ((List.replicate A.length none).map ov)]) = H2 at *
  refine hk3 _ _ (wSs_step fun K3 hk5 hk6 => ?_)
  simp only [s_expr, s_assign, s_forS, s_forR, s_ret, oE_some, os_ref, Option.map_some, e_call, e_var, es_cons, es_nil, bp_cons, bp_nil, Env.set, cond_true, cond_false, String.reduceBEq]
  refine s_rounds hP0 hA2 ok fun H3 r hp3 hr hwn => ?_
  obtain ⟨fs, g1, g2, g3⟩ := hwn.at
  have hm3 := hm.pre hp3
  have hp03 : H <+: H3 := hp1.trans (hp2.trans hp3)
  have hlm : H.length ≤ m := by have := hp1.length_le; omega
  have hlr3 := hp3.length_le
  simp only [os_ref, seqOf_list g1, Option.map_some, oE_some]
  refine wFor_idx (fun i ρ H' => (∀ c, c ≠ m → c < H3.length → H'[c]? = H3[c]?) ∧ MT H' m (pairTo ahead ((roundsF A).take i) (List.replicate A.length none)) ∧ (∀ (j : Nat) R, j < i → (roundsF A)[j]? = some R → oddR R = false) ∧ ρ "mates" = some (.ref m) ∧ ρ "ahead" = some (.bool ahead)) ⟨(fun _ _ _ => rfl), by simpa [pairTo] using hm3, (fun j R hj => by omega), by (repeat (first | dsimp only [XI, XJ] | dsimp only [ZA,ZB,ZC,ZD,ZE,ZF,ZG,ZH,ZI,ZJ,ZK,ZL,ZM,ZN,ZO,ZP,ZQ,ZR,ZS,ZT,ZU,ZV,ZW,ZX,ZY,ZZ,Za,Zb,Zc,Zd,Ze,Zf,Zg,Zh,Zi,Zj,Zk,Zl,Zm,Zn,Zo,Zp,Zq,Zr,Zs,Zt,Zu,Zv,Zw,Zx,Zy,Zz,YA,YB,YC,YD,YE,YF,YG,YH,YI,YJ,YK,YL,YM,YN,YO,YP,YQ,YR,Env.set,cond_true,cond_false,String.reduceBEq,YS,YT,YU,YV,YW,YX,YY,YZ,Ya,Yb,Yc,Yd,Ye,Yf] | simp only [Yg,Yh,true_and,Yi,Yj,Yk,Yl,Ym,Yn,Yo,Yp,Yq,Yr,Yt,Yu,Yv,Yw,Yx,Yy,Yz,XA,XB,XC,XD,XE,beq_self_eq_true,reduceIte,reduceCtorEq,↓reduceIte,XF,XG,XH])), by (repeat (first | dsimp only [XI, XJ] | dsimp only [ZA,ZB,ZC,ZD,ZE,ZF,ZG,ZH,ZI,ZJ,ZK,ZL,ZM,ZN,ZO,ZP,ZQ,ZR,ZS,ZT,ZU,ZV,ZW,ZX,ZY,ZZ,Za,Zb,Zc,Zd,Ze,Zf,Zg,Zh,Zi,Zj,Zk,Zl,Zm,Zn,Zo,Zp,Zq,Zr,Zs,Zt,Zu,Zv,Zw,Zx,Zy,Zz,YA,YB,YC,YD,YE,YF,YG,YH,YI,YJ,YK,YL,YM,YN,YO,YP,YQ,YR,Env.set,cond_true,cond_false,String.reduceBEq,YS,YT,YU,YV,YW,YX,YY,YZ,Ya,Yb,Yc,Yd,Ye,Yf] | simp only [Yg,Yh,true_and,Yi,Yj,Yk,Yl,Ym,Yn,Yo,Yp,Yq,Yr,Yt,Yu,Yv,Yw,Yx,Yy,Yz,XA,XB,XC,XD,XE,beq_self_eq_true,reduceIte,reduceCtorEq,↓reduceIte,XF,XG,XH]))⟩ (fun i v ρ H' hv hI => ?_) fun ρ H' hI => ?_
  · obtain ⟨hk, hmt, hold, e1, e2⟩ := hI
    have hrl : r < H3.length := (List.getElem?_eq_some_iff.mp g1).1
    refine ⟨hk r (by omega) hrl, fun k' h1 h2 => ?_⟩
    obtain ⟨c, R, rfl, hRi, hRc⟩ := g3 i v hv
    have hRmem := List.mem_of_getElem? hRi
    obtain ⟨f1, f2, f3⟩ := ok.ok.facts R hRmem
    have hcm := hRc.ne_mt f1 hm3
    have hcl : c < H3.length := (List.getElem?_eq_some_iff.mp hRc).1
    have hR' : LN H' c R := by unfold LN; rw [hk c hcm hcl]; exact hRc
    have hpre' : H <+: H' := pre_of fun j hj => by
      have := hp03.length_le
      rw [hk j (by omega) (by omega)]
      obtain ⟨t, rfl⟩ := hp03
      exact List.getElem?_append_left hj
    have ef : ((R.length : Int)).fmod 2 = ((R.length % 2 : Nat) : Int) := by rw [← fmod_nn]; rfl
    have hz : ((2 : Int) = 0) = False := by simp
    have hodd : oddR R = false → R.length = 1 ∨ R.length % 2 = 0 := fun q => by
      rw [oddR_eq] at q
      simp at q; omega
    have hRlt : ∀ x ∈ R, x < A.length := fun x hx => by
      obtain ⟨j, hj, e⟩ := List.mem_iff_getElem.mp hx
      have := (f3 j hj).1
      rw [List.getD_eq_getElem?_getD, List.getElem?_eq_getElem hj] at this
      exact e ▸ this
    refine wSs_step fun K4 q1 q2 => ?_
    have go : oddR R = false → ∀ ρ' : Env, ρ' "mates" = some (.ref m) → ρ' "ahead" = some (.bool ahead) → ρ' "ring" = some (.ref c) → K4 none ρ' H' := by
      intro hno ρ' r1 r2 r3
      refine q1 _ _ (wSs_step fun K5 q3 q4 => ?_)
      have fin : ∀ (c' : Nat) (H4 : Hp) (ρ4 : Env), H' <+: H4 → LN H4 c' (turned ahead R) → c' ≠ m → ρ4 "mates" = some (.ref m) → ρ4 "ring" = some (.ref c') → ρ4 "ahead" = some (.bool ahead) → K5 none ρ4 H4 := by
        intro c' H4 ρ4 hp4 hR4 hc' t1 t2 t3
        refine q3 _ _ (w_pairs hR4 (hmt.pre hp4) hc' (fun x hx => ?_) (by rw [turned_len]; exact hodd hno) (by rw [turned_len]; omega) (by rw [turned_len]; exact f1) t1 t2 t3 fun ρ5 H5 hk5 hm5 u1 u2 => ?_)
        · rw [pairTo_len, List.length_replicate]; exact hRlt x (turned_mem hx)
        · refine h1 _ _ ⟨fun d hd hdl => ?_, ?_, fun j R' hj hR' => ?_, u1, u2⟩
          · have hdl' : d < H'.length := by
              have := hk d hd hdl
              rw [List.getElem?_eq_getElem hdl] at this
              exact (List.getElem?_eq_some_iff.mp this).1
            rw [hk5 d hd, ← hk d hd hdl]
            obtain ⟨t, rfl⟩ := hp4
            exact List.getElem?_append_left hdl'
          · rw [take_snoc hRi, pairTo_snoc]
            rw [turned_len] at hm5
            exact hm5
          · rcases Nat.lt_or_eq_of_le (Nat.lt_succ_iff.mp hj) with z | rfl
            · exact hold j R' z hR'
            · rw [hRi] at hR'; cases hR'; exact hno
      have hml : m < H'.length := (List.getElem?_eq_some_iff.mp hmt).1
      cases ahead with
      | false =>
        (repeat (first | dsimp only [XI, XJ] | dsimp only [ZA,ZB,ZC,ZD,ZE,ZF,ZG,ZH,ZI,ZJ,ZK,ZL,ZM,ZN,ZO,ZP,ZQ,ZR,ZS,ZT,ZU,ZV,ZW,ZX,ZY,ZZ,Za,Zb,Zc,Zd,Ze,Zf,Zg,Zh,Zi,Zj,Zk,Zl,Zm,Zn,Zo,Zp,Zq,Zr,Zs,Zt,Zu,Zv,Zw,Zx,Zy,Zz,YA,YB,YC,YD,YE,YF,YG,YH,YI,YJ,YK,YL,YM,YN,YO,YP,YQ,YR,Env.set,cond_true,cond_false,String.reduceBEq,YS,YT,YU,YV,YW,YX,YY,YZ,Ya,Yb,Yc,Yd,Ye,Yf] | simp only [Yg,Yh,true_and,Yi,Yj,Yk,Yl,Ym,Yn,Yo,Yp,Yq,Yr,Yt,Yu,Yv,Yw,Yx,Yy,Yz,XA,XB,XC,XD,XE,beq_self_eq_true,reduceIte,reduceCtorEq,↓reduceIte,XF,XG,XH, r2]))
        exact fin c H' _ (List.prefix_refl _) hR' hcm r1 r3 r2
      | true =>
        have hs1 := hR'.sliceFrom 1
        have hR1 := hR'.pre (pre_new H' (.list ((R.drop 1).map fun i : Nat => V.int (i : Int))))
        have hs2 := hR1.sliceTo 1
        have ha1 := (LN.new H' (R.drop 1)).pre (pre_new _ (.list ((R.take 1).map fun i : Nat => V.int (i : Int))))
        have ha2 := LN.new (H' ++ [.list ((R.drop 1).map fun i : Nat => V.int (i : Int))]) (R.take 1)
        have hadd : addV (.ref H'.length) (.ref (H' ++ [O.list ((R.drop 1).map fun i : Nat => V.int (i : Int))]).length) (H' ++ [O.list ((R.drop 1).map fun i : Nat => V.int (i : Int))] ++ [O.list ((R.take 1).map fun i : Nat => V.int (i : Int))]) =
            some (.ref (H' ++ [O.list ((R.drop 1).map fun i : Nat => V.int (i : Int))] ++ [O.list ((R.take 1).map fun i : Nat => V.int (i : Int))]).length, H' ++ [O.list ((R.drop 1).map fun i : Nat => V.int (i : Int))] ++ [O.list ((R.take 1).map fun i : Nat => V.int (i : Int))] ++ [O.list ((R.drop 1 ++ R.take 1).map fun i : Nat => V.int (i : Int))]) := by
          rw [add_at ha1 ha2 (by simp [lim]; omega), List.map_append]
        have h1c : ((1 : Nat) : Int) = 1 := rfl
        rw [h1c] at hs1 hs2
        (repeat (first | dsimp only [XI, XJ] | dsimp only [ZA,ZB,ZC,ZD,ZE,ZF,ZG,ZH,ZI,ZJ,ZK,ZL,ZM,ZN,ZO,ZP,ZQ,ZR,ZS,ZT,ZU,ZV,ZW,ZX,ZY,ZZ,Za,Zb,Zc,Zd,Ze,Zf,Zg,Zh,Zi,Zj,Zk,Zl,Zm,Zn,Zo,Zp,Zq,Zr,Zs,Zt,Zu,Zv,Zw,Zx,Zy,Zz,YA,YB,YC,YD,YE,YF,YG,YH,YI,YJ,YK,YL,YM,YN,YO,YP,YQ,YR,Env.set,cond_true,cond_false,String.reduceBEq,YS,YT,YU,YV,YW,YX,YY,YZ,Ya,Yb,Yc,Yd,Ye,Yf] | simp only [Yg,Yh,true_and,Yi,Yj,Yk,Yl,Ym,Yn,Yo,Yp,Yq,Yr,Yt,Yu,Yv,Yw,Yx,Yy,Yz,XA,XB,XC,XD,XE,beq_self_eq_true,reduceIte,reduceCtorEq,↓reduceIte,XF,XG,XH, r2, r3, hs1, hs2, hadd]))
        refine fin _ _ _ ((pre_new _ _).trans ((pre_new _ _).trans (pre_new _ _))) (LN.new _ _) ?_ (by (repeat (first | dsimp only [XI, XJ] | dsimp only [ZA,ZB,ZC,ZD,ZE,ZF,ZG,ZH,ZI,ZJ,ZK,ZL,ZM,ZN,ZO,ZP,ZQ,ZR,ZS,ZT,ZU,ZV,ZW,ZX,ZY,ZZ,Za,Zb,Zc,Zd,Ze,Zf,Zg,Zh,Zi,Zj,Zk,Zl,Zm,Zn,Zo,Zp,Zq,Zr,Zs,Zt,Zu,Zv,Zw,Zx,Zy,Zz,YA,YB,YC,YD,YE,YF,YG,YH,YI,YJ,YK,YL,YM,YN,YO,YP,YQ,YR,Env.set,cond_true,cond_false,String.reduceBEq,YS,YT,YU,YV,YW,YX,YY,YZ,Ya,Yb,Yc,Yd,Ye,Yf] | simp only [Yg,Yh,true_and,Yi,Yj,Yk,Yl,Ym,Yn,Yo,Yp,Yq,Yr,Yt,Yu,Yv,Yw,Yx,Yy,Yz,XA,XB,XC,XD,XE,beq_self_eq_true,reduceIte,reduceCtorEq,↓reduceIte,XF,XG,XH, r1]))) (by (repeat (first | dsimp only [XI, XJ] | dsimp only [ZA,ZB,ZC,ZD,ZE,ZF,ZG,ZH,ZI,ZJ,ZK,ZL,ZM,ZN,ZO,ZP,ZQ,ZR,ZS,ZT,ZU,ZV,ZW,ZX,ZY,ZZ,Za,Zb,Zc,Zd,Ze,Zf,Zg,Zh,Zi,Zj,Zk,Zl,Zm,Zn,Zo,Zp,Zq,Zr,Zs,Zt,Zu,Zv,Zw,Zx,Zy,Zz,YA,YB,YC,YD,YE,YF,YG,YH,YI,YJ,YK,YL,YM,YN,YO,YP,YQ,YR,Env.set,cond_true,cond_false,String.reduceBEq,YS,YT,YU,YV,YW,YX,YY,YZ,Ya,Yb,Yc,Yd,Ye,Yf] | simp only [Yg,Yh,true_and,Yi,Yj,Yk,Yl,Ym,Yn,Yo,Yp,Yq,Yr,Yt,Yu,Yv,Yw,Yx,Yy,Yz,XA,XB,XC,XD,XE,beq_self_eq_true,reduceIte,reduceCtorEq,↓reduceIte,XF,XG,XH]))) (by (repeat (first | dsimp only [XI, XJ] | dsimp only [ZA,ZB,ZC,ZD,ZE,ZF,ZG,ZH,ZI,ZJ,ZK,ZL,ZM,ZN,ZO,ZP,ZQ,ZR,ZS,ZT,ZU,ZV,ZW,ZX,ZY,ZZ,Za,Zb,Zc,Zd,Ze,Zf,Zg,Zh,Zi,Zj,Zk,Zl,Zm,Zn,Zo,Zp,Zq,Zr,Zs,Zt,Zu,Zv,Zw,Zx,Zy,Zz,YA,YB,YC,YD,YE,YF,YG,YH,YI,YJ,YK,YL,YM,YN,YO,YP,YQ,YR,Env.set,cond_true,cond_false,String.reduceBEq,YS,YT,YU,YV,YW,YX,YY,YZ,Ya,Yb,Yc,Yd,Ye,Yf] | simp only [Yg,Yh,true_and,Yi,Yj,Yk,Yl,Ym,Yn,Yo,Yp,Yq,Yr,Yt,Yu,Yv,Yw,Yx,Yy,Yz,XA,XB,XC,XD,XE,beq_self_eq_true,reduceIte,reduceCtorEq,↓reduceIte,XF,XG,XH, r2])))
        simp; omega
    (repeat (first | dsimp only [XI, XJ] | dsimp only [ZA,ZB,ZC,ZD,ZE,ZF,ZG,ZH,ZI,ZJ,ZK,ZL,ZM,ZN,ZO,ZP,ZQ,ZR,ZS,ZT,ZU,ZV,ZW,ZX,ZY,ZZ,Za,Zb,Zc,Zd,Ze,Zf,Zg,Zh,Zi,Zj,Zk,Zl,Zm,Zn,Zo,Zp,Zq,Zr,Zs,Zt,Zu,Zv,Zw,Zx,Zy,Zz,YA,YB,YC,YD,YE,YF,YG,YH,YI,YJ,YK,YL,YM,YN,YO,YP,YQ,YR,Env.set,cond_true,cond_false,String.reduceBEq,YS,YT,YU,YV,YW,YX,YY,YZ,Ya,Yb,Yc,Yd,Ye,Yf] | simp only [Yg,Yh,true_and,Yi,Yj,Yk,Yl,Ym,Yn,Yo,Yp,Yq,Yr,Yt,Yu,Yv,Yw,Yx,Yy,Yz,XA,XB,XC,XD,XE,beq_self_eq_true,reduceIte,reduceCtorEq,↓reduceIte,XF,XG,XH, hR'.len, hz, ef]))
    by_cases c1 : 1 < R.length
    · have d1 : decide ((1 : Int) < (R.length : Int)) = true := decide_eq_true (by omega)
      (repeat (first | dsimp only [XI, XJ] | dsimp only [ZA,ZB,ZC,ZD,ZE,ZF,ZG,ZH,ZI,ZJ,ZK,ZL,ZM,ZN,ZO,ZP,ZQ,ZR,ZS,ZT,ZU,ZV,ZW,ZX,ZY,ZZ,Za,Zb,Zc,Zd,Ze,Zf,Zg,Zh,Zi,Zj,Zk,Zl,Zm,Zn,Zo,Zp,Zq,Zr,Zs,Zt,Zu,Zv,Zw,Zx,Zy,Zz,YA,YB,YC,YD,YE,YF,YG,YH,YI,YJ,YK,YL,YM,YN,YO,YP,YQ,YR,Env.set,cond_true,cond_false,String.reduceBEq,YS,YT,YU,YV,YW,YX,YY,YZ,Ya,Yb,Yc,Yd,Ye,Yf] | simp only [Yg,Yh,true_and,Yi,Yj,Yk,Yl,Ym,Yn,Yo,Yp,Yq,Yr,Yt,Yu,Yv,Yw,Yx,Yy,Yz,XA,XB,XC,XD,XE,beq_self_eq_true,reduceIte,reduceCtorEq,↓reduceIte,XF,XG,XH, d1]))
      refine ⟨fun q => hx (List.any_eq_true.mpr ⟨R, hRmem, ?_⟩) _ hpre', fun q => go ?_ _ (by (repeat (first | dsimp only [XI, XJ] | dsimp only [ZA,ZB,ZC,ZD,ZE,ZF,ZG,ZH,ZI,ZJ,ZK,ZL,ZM,ZN,ZO,ZP,ZQ,ZR,ZS,ZT,ZU,ZV,ZW,ZX,ZY,ZZ,Za,Zb,Zc,Zd,Ze,Zf,Zg,Zh,Zi,Zj,Zk,Zl,Zm,Zn,Zo,Zp,Zq,Zr,Zs,Zt,Zu,Zv,Zw,Zx,Zy,Zz,YA,YB,YC,YD,YE,YF,YG,YH,YI,YJ,YK,YL,YM,YN,YO,YP,YQ,YR,Env.set,cond_true,cond_false,String.reduceBEq,YS,YT,YU,YV,YW,YX,YY,YZ,Ya,Yb,Yc,Yd,Ye,Yf] | simp only [Yg,Yh,true_and,Yi,Yj,Yk,Yl,Ym,Yn,Yo,Yp,Yq,Yr,Yt,Yu,Yv,Yw,Yx,Yy,Yz,XA,XB,XC,XD,XE,beq_self_eq_true,reduceIte,reduceCtorEq,↓reduceIte,XF,XG,XH, e1]))) (by (repeat (first | dsimp only [XI, XJ] | dsimp only [ZA,ZB,ZC,ZD,ZE,ZF,ZG,ZH,ZI,ZJ,ZK,ZL,ZM,ZN,ZO,ZP,ZQ,ZR,ZS,ZT,ZU,ZV,ZW,ZX,ZY,ZZ,Za,Zb,Zc,Zd,Ze,Zf,Zg,Zh,Zi,Zj,Zk,Zl,Zm,Zn,Zo,Zp,Zq,Zr,Zs,Zt,Zu,Zv,Zw,Zx,Zy,Zz,YA,YB,YC,YD,YE,YF,YG,YH,YI,YJ,YK,YL,YM,YN,YO,YP,YQ,YR,Env.set,cond_true,cond_false,String.reduceBEq,YS,YT,YU,YV,YW,YX,YY,YZ,Ya,Yb,Yc,Yd,Ye,Yf] | simp only [Yg,Yh,true_and,Yi,Yj,Yk,Yl,Ym,Yn,Yo,Yp,Yq,Yr,Yt,Yu,Yv,Yw,Yx,Yy,Yz,XA,XB,XC,XD,XE,beq_self_eq_true,reduceIte,reduceCtorEq,↓reduceIte,XF,XG,XH, e2]))) (by (repeat (first | dsimp only [XI, XJ] | dsimp only [ZA,ZB,ZC,ZD,ZE,ZF,ZG,ZH,ZI,ZJ,ZK,ZL,ZM,ZN,ZO,ZP,ZQ,ZR,ZS,ZT,ZU,ZV,ZW,ZX,ZY,ZZ,Za,Zb,Zc,Zd,Ze,Zf,Zg,Zh,Zi,Zj,Zk,Zl,Zm,Zn,Zo,Zp,Zq,Zr,Zs,Zt,Zu,Zv,Zw,Zx,Zy,Zz,YA,YB,YC,YD,YE,YF,YG,YH,YI,YJ,YK,YL,YM,YN,YO,YP,YQ,YR,Env.set,cond_true,cond_false,String.reduceBEq,YS,YT,YU,YV,YW,YX,YY,YZ,Ya,Yb,Yc,Yd,Ye,Yf] | simp only [Yg,Yh,true_and,Yi,Yj,Yk,Yl,Ym,Yn,Yo,Yp,Yq,Yr,Yt,Yu,Yv,Yw,Yx,Yy,Yz,XA,XB,XC,XD,XE,beq_self_eq_true,reduceIte,reduceCtorEq,↓reduceIte,XF,XG,XH])))⟩
      · have : R.length % 2 = 1 := by simp at q; omega
        rw [oddR_eq]; simp [c1, this]
      · have : ¬ R.length % 2 = 1 := by simp at q; omega
        rw [oddR_eq]; simp [this]
    · have d1 : decide ((1 : Int) < (R.length : Int)) = false := decide_eq_false (by omega)
      (repeat (first | dsimp only [XI, XJ] | dsimp only [ZA,ZB,ZC,ZD,ZE,ZF,ZG,ZH,ZI,ZJ,ZK,ZL,ZM,ZN,ZO,ZP,ZQ,ZR,ZS,ZT,ZU,ZV,ZW,ZX,ZY,ZZ,Za,Zb,Zc,Zd,Ze,Zf,Zg,Zh,Zi,Zj,Zk,Zl,Zm,Zn,Zo,Zp,Zq,Zr,Zs,Zt,Zu,Zv,Zw,Zx,Zy,Zz,YA,YB,YC,YD,YE,YF,YG,YH,YI,YJ,YK,YL,YM,YN,YO,YP,YQ,YR,Env.set,cond_true,cond_false,String.reduceBEq,YS,YT,YU,YV,YW,YX,YY,YZ,Ya,Yb,Yc,Yd,Ye,Yf] | simp only [Yg,Yh,true_and,Yi,Yj,Yk,Yl,Ym,Yn,Yo,Yp,Yq,Yr,Yt,Yu,Yv,Yw,Yx,Yy,Yz,XA,XB,XC,XD,XE,beq_self_eq_true,reduceIte,reduceCtorEq,↓reduceIte,XF,XG,XH, d1]))
      exact go (by rw [oddR_eq]; simp [c1]) _ (by (repeat (first | dsimp only [XI, XJ] | dsimp only [ZA,ZB,ZC,ZD,ZE,ZF,ZG,ZH,ZI,ZJ,ZK,ZL,ZM,ZN,ZO,ZP,ZQ,ZR,ZS,ZT,ZU,ZV,ZW,ZX,ZY,ZZ,Za,Zb,Zc,Zd,Ze,Zf,Zg,Zh,Zi,Zj,Zk,Zl,Zm,Zn,Zo,Zp,Zq,Zr,Zs,Zt,Zu,Zv,Zw,Zx,Zy,Zz,YA,YB,YC,YD,YE,YF,YG,YH,YI,YJ,YK,YL,YM,YN,YO,YP,YQ,YR,Env.set,cond_true,cond_false,String.reduceBEq,YS,YT,YU,YV,YW,YX,YY,YZ,Ya,Yb,Yc,Yd,Ye,Yf] | simp only [Yg,Yh,true_and,Yi,Yj,Yk,Yl,Ym,Yn,Yo,Yp,Yq,Yr,Yt,Yu,Yv,Yw,Yx,Yy,Yz,XA,XB,XC,XD,XE,beq_self_eq_true,reduceIte,reduceCtorEq,↓reduceIte,XF,XG,XH, e1]))) (by (repeat (first | dsimp only [XI, XJ] | dsimp only [ZA,ZB,ZC,ZD,ZE,ZF,ZG,ZH,ZI,ZJ,ZK,ZL,ZM,ZN,ZO,ZP,ZQ,ZR,ZS,ZT,ZU,ZV,ZW,ZX,ZY,ZZ,Za,Zb,Zc,Zd,Ze,Zf,Zg,Zh,Zi,Zj,Zk,Zl,Zm,Zn,Zo,Zp,Zq,Zr,Zs,Zt,Zu,Zv,Zw,Zx,Zy,Zz,YA,YB,YC,YD,YE,YF,YG,YH,YI,YJ,YK,YL,YM,YN,YO,YP,YQ,YR,Env.set,cond_true,cond_false,String.reduceBEq,YS,YT,YU,YV,YW,YX,YY,YZ,Ya,Yb,Yc,Yd,Ye,Yf] | simp only [Yg,Yh,true_and,Yi,Yj,Yk,Yl,Ym,Yn,Yo,Yp,Yq,Yr,Yt,Yu,Yv,Yw,Yx,Yy,Yz,XA,XB,XC,XD,XE,beq_self_eq_true,reduceIte,reduceCtorEq,↓reduceIte,XF,XG,XH, e2]))) (by (repeat (first | dsimp only [XI, XJ] | dsimp only [ZA,ZB,ZC,ZD,ZE,ZF,ZG,ZH,ZI,ZJ,ZK,ZL,ZM,ZN,ZO,ZP,ZQ,ZR,ZS,ZT,ZU,ZV,ZW,ZX,ZY,ZZ,Za,Zb,Zc,Zd,Ze,Zf,Zg,Zh,Zi,Zj,Zk,Zl,Zm,Zn,Zo,Zp,Zq,Zr,Zs,Zt,Zu,Zv,Zw,Zx,Zy,Zz,YA,YB,YC,YD,YE,YF,YG,YH,YI,YJ,YK,YL,YM,YN,YO,YP,YQ,YR,Env.set,cond_true,cond_false,String.reduceBEq,YS,YT,YU,YV,YW,YX,YY,YZ,Ya,Yb,Yc,Yd,Ye,Yf] | simp only [Yg,Yh,true_and,Yi,Yj,Yk,Yl,Ym,Yn,Yo,Yp,Yq,Yr,Yt,Yu,Yv,Yw,Yx,Yy,Yz,XA,XB,XC,XD,XE,beq_self_eq_true,reduceIte,reduceCtorEq,↓reduceIte,XF,XG,XH])))
  · obtain ⟨hk, hmt, hold, e1, e2⟩ := hI
    have hrl : r < H3.length := (List.getElem?_eq_some_iff.mp g1).1
    refine ⟨hk r (by omega) hrl, ?_⟩
    rw [g2] at hmt hold
    rw [List.take_length] at hmt
    refine hk5 _ _ ?_
    (repeat (first | dsimp only [XI, XJ] | dsimp only [ZA,ZB,ZC,ZD,ZE,ZF,ZG,ZH,ZI,ZJ,ZK,ZL,ZM,ZN,ZO,ZP,ZQ,ZR,ZS,ZT,ZU,ZV,ZW,ZX,ZY,ZZ,Za,Zb,Zc,Zd,Ze,Zf,Zg,Zh,Zi,Zj,Zk,Zl,Zm,Zn,Zo,Zp,Zq,Zr,Zs,Zt,Zu,Zv,Zw,Zx,Zy,Zz,YA,YB,YC,YD,YE,YF,YG,YH,YI,YJ,YK,YL,YM,YN,YO,YP,YQ,YR,Env.set,cond_true,cond_false,String.reduceBEq,YS,YT,YU,YV,YW,YX,YY,YZ,Ya,Yb,Yc,Yd,Ye,Yf] | simp only [Yg,Yh,true_and,Yi,Yj,Yk,Yl,Ym,Yn,Yo,Yp,Yq,Yr,Yt,Yu,Yv,Yw,Yx,Yy,Yz,XA,XB,XC,XD,XE,beq_self_eq_true,reduceIte,reduceCtorEq,↓reduceIte,XF,XG,XH, e1]))
    refine h ?_ _ _ (pre_of fun j hj => ?_) hlm hmt
    · rw [List.any_eq_false]
      intro R hR
      obtain ⟨j, hj, e⟩ := List.mem_iff_getElem.mp hR
      rw [hold j R hj (by rw [List.getElem?_eq_getElem hj, e])]; simp
    · have := hp03.length_le
      rw [hk j (by omega) (by omega)]
      obtain ⟨t, rfl⟩ := hp03
      exact List.getElem?_append_left hj
end
end Mine

namespace Mine
open PySem

section
variable {P : Prog} {b : Bool} {n : Nat} {H : Hp} {Q : Post} {X : XP}

end
end Mine

namespace Mine
open PySem

theorem LN.mt {H : Hp} {a : Nat} {A : List Nat} (h : LN H a A) : MT H a (A.map some) := by
  unfold MT; rw [List.map_map]; exact h

section
variable {P : Prog} {b : Bool} {n : Nat} {H : Hp} {Q : Post} {X : XP}

end
end Mine

namespace Mine
open PySem

theorem seqOf_ln {H : Hp} {a : Nat} {A : List Nat} (h : LN H a A) : seqOf H a = some (A.map fun i : Nat => V.int (i : Int)) := seqOf_list h

end Mine

namespace Mine
namespace Tan

structure Inst (n B : Nat) (E : Nat → Nat → Prop) (rk : Nat → Nat → Nat) : Prop where
  lt : ∀ i j, E i j → i < n
  symm : ∀ i j, E i j → E j i
  irr : ∀ i, ¬ E i i
  inj : ∀ i j k, E i j → E i k → rk i j = rk i k → j = k
  bd : ∀ i j, rk i j ≤ B

theorem min_ex (g : Nat → Nat) {Q : Nat → Prop} : ∀ (v m : Nat), Q m → g m ≤ v → ∃ m, Q m ∧ ∀ k, Q k → g m ≤ g k
  | 0, m, hm, hv => ⟨m, hm, fun k _ => by omega⟩
  | v + 1, m, hm, hv => by
    by_cases h : ∃ k, Q k ∧ g k < g m
    · obtain ⟨k, hk, hl⟩ := h
      exact min_ex g v k hk (by omega)
    · exact ⟨m, hm, fun k hk => Nat.not_lt.mp fun q => h ⟨k, hk, q⟩⟩

noncomputable def Fst (rk : Nat → Nat → Nat) (R : Nat → Nat → Prop) (i j : Nat) : Prop := R i j ∧ ∀ k, R i k → rk i j ≤ rk i k
noncomputable def Lst (rk : Nat → Nat → Nat) (R : Nat → Nat → Prop) (i j : Nat) : Prop := R i j ∧ ∀ k, R i k → rk i k ≤ rk i j
noncomputable def Snd (rk : Nat → Nat → Nat) (R : Nat → Nat → Prop) (i j : Nat) : Prop := R i j ∧ ¬ Fst rk R i j ∧ ∀ k, R i k → ¬ Fst rk R i k → rk i j ≤ rk i k
noncomputable def Wit (rk : Nat → Nat → Nat) (R : Nat → Nat → Prop) (i j : Nat) : Prop := ∃ p, Lst rk R i p ∧ Fst rk R p i ∧ rk i p < rk i j

structure Tb (E : Nat → Nat → Prop) (rk : Nat → Nat → Nat) (R : Nat → Nat → Prop) : Prop where
  sub : ∀ i j, R i j → E i j
  symm : ∀ i j, R i j → R j i
  wit : ∀ i j, E i j → ¬ R i j → Wit rk R i j ∨ Wit rk R j i

section
variable {n B : Nat} {E : Nat → Nat → Prop} {rk : Nat → Nat → Nat} {R : Nat → Nat → Prop}

theorem fst_ex {i j : Nat} (h : R i j) : ∃ k, Fst rk R i k := by
  obtain ⟨m, h1, h2⟩ := min_ex (rk i) (Q := fun k => R i k) (rk i j) j h (Nat.le_refl _)
  exact ⟨m, h1, h2⟩
theorem lst_ex (I : Inst n B E rk) {i j : Nat} (h : R i j) : ∃ k, Lst rk R i k := by
  obtain ⟨m, h1, h2⟩ := min_ex (fun k => B - rk i k) (Q := fun k => R i k) _ j h (Nat.le_refl _)
  refine ⟨m, h1, fun k hk => ?_⟩
  have := h2 k hk; have := I.bd i k; have := I.bd i m; omega
theorem snd_ex {i j : Nat} (h : R i j) (hn : ¬ Fst rk R i j) : ∃ k, Snd rk R i k := by
  obtain ⟨m, ⟨h1, h1'⟩, h2⟩ := min_ex (rk i) (Q := fun k => R i k ∧ ¬ Fst rk R i k) (rk i j) j ⟨h, hn⟩ (Nat.le_refl _)
  exact ⟨m, h1, h1', fun k hk hk' => h2 k ⟨hk, hk'⟩⟩
theorem fst_un (I : Inst n B E rk) (T : Tb E rk R) {i a b : Nat} (h : Fst rk R i a) (h' : Fst rk R i b) : a = b :=
  I.inj i a b (T.sub _ _ h.1) (T.sub _ _ h'.1) (Nat.le_antisymm (h.2 b h'.1) (h'.2 a h.1))
theorem lst_un (I : Inst n B E rk) (T : Tb E rk R) {i a b : Nat} (h : Lst rk R i a) (h' : Lst rk R i b) : a = b :=
  I.inj i a b (T.sub _ _ h.1) (T.sub _ _ h'.1) (Nat.le_antisymm (h'.2 a h.1) (h.2 b h'.1))
theorem snd_un (I : Inst n B E rk) (T : Tb E rk R) {i a b : Nat} (h : Snd rk R i a) (h' : Snd rk R i b) : a = b :=
  I.inj i a b (T.sub _ _ h.1) (T.sub _ _ h'.1) (Nat.le_antisymm (h.2.2 b h'.1 h'.2.1) (h'.2.2 a h.1 h.2.1))

noncomputable def cutBy (rk : Nat → Nat → Nat) (R D : Nat → Nat → Prop) (i j : Nat) : Prop := R i j ∧ (∀ x, D i x → rk i j ≤ rk i x) ∧ ∀ x, D j x → rk j i ≤ rk j x

theorem cut_tb {D : Nat → Nat → Prop} (T : Tb E rk R) (d1 : ∀ y x, D y x → R y x) (d3 : ∀ y x, D y x → Fst rk (cutBy rk R D) x y)
    (d4 : ∀ i p, (∀ x, ¬ D i x) → Lst rk R i p → Fst rk R p i → cutBy rk R D i p) : Tb E rk (cutBy rk R D) := by
  have sy : ∀ i j, cutBy rk R D i j → cutBy rk R D j i := fun i j h => ⟨T.symm _ _ h.1, h.2.2, h.2.1⟩
  have new : ∀ i x, D i x → Lst rk (cutBy rk R D) i x ∧ Fst rk (cutBy rk R D) x i := fun i x h => ⟨⟨sy _ _ (d3 i x h).1, fun k hk => hk.2.1 x h⟩, d3 i x h⟩
  have old : ∀ i j, Wit rk R i j → Wit rk (cutBy rk R D) i j := by
    rintro i j ⟨p, h1, h2, h3⟩
    by_cases hd : ∃ x, D i x
    · obtain ⟨x, hx⟩ := hd
      obtain ⟨n1, n2⟩ := new i x hx
      exact ⟨x, n1, n2, Nat.lt_of_le_of_lt (h1.2 x (d1 i x hx)) h3⟩
    · have := d4 i p (fun x q => hd ⟨x, q⟩) h1 h2
      exact ⟨p, ⟨this, fun k hk => h1.2 k hk.1⟩, ⟨sy _ _ this, fun k hk => h2.2 k hk.1⟩, h3⟩
  refine ⟨fun i j h => T.sub _ _ h.1, sy, fun i j he hn => ?_⟩
  by_cases hr : R i j
  · by_cases hd : ∃ x, D i x ∧ rk i x < rk i j
    · obtain ⟨x, hx, hl⟩ := hd
      obtain ⟨n1, n2⟩ := new i x hx
      exact .inl ⟨x, n1, n2, hl⟩
    · by_cases hd' : ∃ x, D j x ∧ rk j x < rk j i
      · obtain ⟨x, hx, hl⟩ := hd'
        obtain ⟨n1, n2⟩ := new j x hx
        exact .inr ⟨x, n1, n2, hl⟩
      · exact absurd ⟨hr, fun x hx => Nat.not_lt.mp fun q => hd ⟨x, hx, q⟩, fun x hx => Nat.not_lt.mp fun q => hd' ⟨x, hx, q⟩⟩ hn
  · rcases T.wit i j he hr with q | q
    · exact .inl (old i j q)
    · exact .inr (old j i q)

/-- as long as a first one does not have the other as its last, the table can be cut -/
theorem phase1 (I : Inst n B E rk) (T : Tb E rk R) {x y : Nat} (hf : Fst rk R x y) (hl : ¬ Lst rk R y x) : ∃ R', Tb E rk R' ∧ (∀ i j, R' i j → R i j) ∧ ∃ i j, R i j ∧ ¬ R' i j := by
  have hxy := T.symm _ _ hf.1
  refine ⟨cutBy rk R (fun a b => a = y ∧ b = x), cut_tb T ?_ ?_ ?_, fun i j h => h.1, ?_⟩
  · rintro a b ⟨rfl, rfl⟩; exact hxy
  · rintro a b ⟨rfl, rfl⟩
    refine ⟨⟨hf.1, ?_, ?_⟩, fun k hk => hf.2 k hk.1⟩
    · rintro z ⟨rfl, rfl⟩; exact absurd (T.sub _ _ hf.1) (I.irr _)
    · rintro z ⟨_, rfl⟩; exact Nat.le_refl _
  · intro i p hi h1 h2
    refine ⟨h1.1, fun z hz => absurd hz (hi z), ?_⟩
    rintro z ⟨rfl, rfl⟩
    exact h2.2 _ hxy
  · obtain ⟨l, hl'⟩ := lst_ex (rk := rk) I hxy
    have : rk y x < rk y l := by
      rcases Nat.lt_or_ge (rk y x) (rk y l) with q | q
      · exact q
      · exact absurd ⟨hxy, fun k hk => Nat.le_trans (hl'.2 k hk) q⟩ hl
    exact ⟨y, l, hl'.1, fun h => by have := h.2.1 x ⟨rfl, rfl⟩; omega⟩

theorem orbit_rep {n : Nat} (z : Nat → Nat) (hz : ∀ t, z t < n) : ∃ a r, 0 < r ∧ z (a + r) = z a := by
  by_cases h : ∃ a b, a < b ∧ z a = z b
  · obtain ⟨a, b, hl, e⟩ := h
    exact ⟨a, b - a, by omega, by rw [show a + (b - a) = b by omega]; exact e.symm⟩
  · exfalso
    have inj : ∀ x y, z x = z y → x = y := fun x y e => by
      rcases Nat.lt_trichotomy x y with q | q | q
      · exact absurd ⟨x, y, q, e⟩ h
      · exact q
      · exact absurd ⟨y, x, q, e.symm⟩ h
    have := nodup_le (l := (List.range (n + 1)).map z) (m := List.range n) (nodup_mapF z List.nodup_range fun x _ y _ e => inj x y e) fun x hx => by
      obtain ⟨t, _, rfl⟩ := List.mem_map.mp hx
      exact List.mem_range.mpr (hz t)
    simp at this
    omega

/-- the table after the first phase: everyone is the last of its first -/
noncomputable def P1 (rk : Nat → Nat → Nat) (R : Nat → Nat → Prop) : Prop := ∀ x y, Fst rk R x y → Lst rk R y x

theorem first_last (I : Inst n B E rk) (T : Tb E rk R) (p1 : P1 rk R) : ∀ y x, Lst rk R y x → Fst rk R x y := by
  -- first is one to one on those who have a list, hence onto
  intro y x h
  classical
  have ex : ∀ i, (∃ j, R i j) → ∃ k, Fst rk R i k := fun i ⟨j, hj⟩ => fst_ex hj
  let g : Nat → Nat := fun i => if h : ∃ j, R i j then Classical.choose (ex i h) else 0
  have gs : ∀ i, (∃ j, R i j) → Fst rk R i (g i) := fun i hi => by
    show Fst rk R i (if h : ∃ j, R i j then Classical.choose (ex i h) else 0)
    rw [dif_pos hi]; exact Classical.choose_spec (ex i hi)
  let L := (List.range n).filter fun i => decide (∃ j, R i j)
  have hL : ∀ i, i ∈ L ↔ ∃ j, R i j := fun i => by
    simp only [L, List.mem_filter, List.mem_range, decide_eq_true_eq]
    exact ⟨fun q => q.2, fun ⟨j, q⟩ => ⟨I.lt _ _ (T.sub _ _ q), j, q⟩⟩
  have nd : L.Nodup := List.nodup_range.sublist List.filter_sublist
  by_cases hm : y ∈ L.map g
  · obtain ⟨i, hi, e⟩ := List.mem_map.mp hm
    have f := gs i ((hL i).mp hi)
    rw [e] at f
    have := lst_un I T (p1 i y f) h
    subst this; exact f
  · exfalso
    have yL : y ∈ L := (hL y).mpr ⟨x, h.1⟩
    have := nodup_le (l := L.map g) (m := L.erase y) (nodup_mapF g nd fun a ha b hb e => ?_) fun z hz => ?_
    · rw [List.length_map, List.length_erase_of_mem yL] at this
      have := List.length_pos_of_mem yL
      omega
    · have fa := p1 _ _ (gs a ((hL a).mp ha))
      have fb := p1 _ _ (gs b ((hL b).mp hb))
      rw [e] at fa
      exact lst_un I T fa fb
    · obtain ⟨i, hi, rfl⟩ := List.mem_map.mp hz
      have f := gs i ((hL i).mp hi)
      exact (List.mem_erase_of_ne fun q => hm (by rw [← q]; exact hz)).mpr ((hL _).mpr ⟨i, T.symm _ _ f.1⟩)


noncomputable def Tm (rk : Nat → Nat → Nat) (R : Nat → Nat → Prop) (i : Nat) : Prop := ∃ k, R i k ∧ ¬ Fst rk R i k

theorem two (I : Inst n B E rk) (T : Tb E rk R) {i a k : Nat} (hs : Snd rk R i a) (hl : Lst rk R i a) (hk : R i k) : k = a ∨ Fst rk R i k := by
  by_cases hf : Fst rk R i k
  · exact .inr hf
  · exact .inl (I.inj i k a (T.sub _ _ hk) (T.sub _ _ hs.1) (Nat.le_antisymm (hl.2 k hk) (hs.2.2 k hk hf)))

theorem tm_next (I : Inst n B E rk) (T : Tb E rk R) (p1 : P1 rk R) {i y x : Nat} (hs : Snd rk R i y) (hl : Lst rk R y x) : Tm rk R x := by
  have fx := first_last I T p1 y x hl
  by_cases h : Tm rk R x
  · exact h
  · exfalso
    have all : ∀ k, R x k → k = y := fun k hk => by
      by_cases hf : Fst rk R x k
      · exact fst_un I T hf fx
      · exact absurd ⟨k, hk, hf⟩ h
    have lx : Lst rk R x y := ⟨fx.1, fun k hk => by rw [all k hk]; exact Nat.le_refl _⟩
    have fy := first_last I T p1 x y lx
    have ri := T.symm _ _ hs.1
    have : i = x := I.inj y i x (T.sub _ _ ri) (T.sub _ _ fy.1) (Nat.le_antisymm (hl.2 i ri) (fy.2 i ri))
    subst this
    exact hs.2.1 fx

structure Cyc (rk : Nat → Nat → Nat) (R : Nat → Nat → Prop) (x y : Nat → Nat) (r : Nat) : Prop where
  pos : 0 < r
  snd : ∀ t, Snd rk R (x t) (y t)
  lst : ∀ t, Lst rk R (y t) (x (t + 1))
  fst : ∀ t, Fst rk R (x (t + 1)) (y t)
  perX : ∀ t, x (t + r) = x t
  perY : ∀ t, y (t + r) = y t
  det : ∀ a b, x a = x b → x (a + 1) = x (b + 1)

noncomputable def Br (x y : Nat → Nat) (k m : Nat) : Prop := x (k + 1) = y (m + 1) ∧ y k = x (m + 1)

theorem cyc_ne {x y : Nat → Nat} {r : Nat} (c : Cyc rk R x y r) (t : Nat) : x t ≠ x (t + 1) := fun e => (c.snd t).2.1 (e ▸ c.fst t)

theorem br_step (I : Inst n B E rk) (T : Tb E rk R) (p1 : P1 rk R) {x y : Nat → Nat} {r : Nat} (c : Cyc rk R x y r) {k m : Nat} (h : Br x y (k + 1) (m + 1)) : Br x y k m := by
  obtain ⟨h1, h2⟩ := h
  have f1 := c.fst (k + 1)
  rw [h2] at f1
  have l1 := p1 _ _ f1
  have s1 := c.snd (m + 2)
  have e1 : y (m + 2) = x (k + 2) := h1.symm
  rw [e1] at s1
  have r1 := T.symm _ _ (c.snd (k + 1)).1
  rw [h2] at r1
  have a1 : x (k + 1) = y (m + 1) := by
    rcases two I T s1 l1 r1 with q | q
    · exact absurd q (cyc_ne c (k + 1))
    · exact fst_un I T q (c.fst (m + 1))
  refine ⟨a1, ?_⟩
  have l2 := c.lst (m + 1)
  rw [← a1] at l2
  have s2 := c.snd (k + 1)
  rw [h2] at s2
  have r2 := T.symm _ _ (c.snd (m + 1)).1
  rw [← a1] at r2
  rcases two I T s2 l2 r2 with q | q
  · exact absurd q (cyc_ne c (m + 1))
  · exact fst_un I T (c.fst k) q

theorem br_all (I : Inst n B E rk) (T : Tb E rk R) (p1 : P1 rk R) {x y : Nat → Nat} {r : Nat} (c : Cyc rk R x y r) {k m : Nat} (h : Br x y k m) : ∀ j, ∃ k, Br x y k j := by
  have down : ∀ m, (∃ k, Br x y k (m + 1)) → ∃ k, Br x y k m := by
    rintro m ⟨k, h⟩
    have hr : k + r = (k + r - 1) + 1 := by have := c.pos; omega
    have h' : Br x y (k + r) (m + 1) := ⟨by rw [show k + r + 1 = k + 1 + r by omega, c.perX]; exact h.1, by rw [c.perY]; exact h.2⟩
    rw [hr] at h'
    exact ⟨_, br_step I T p1 c h'⟩
  have up : ∀ m, (∃ k, Br x y k m) → ∃ k, Br x y k (m + r) := by
    rintro m ⟨k, h⟩
    exact ⟨k, by rw [show m + r + 1 = m + 1 + r by omega, c.perY]; exact h.1, by rw [show m + r + 1 = m + 1 + r by omega, c.perX]; exact h.2⟩
  have far : ∀ N, ∃ k, Br x y k (m + N * r) := by
    intro N
    induction N with
    | zero => simpa using ⟨k, h⟩
    | succ N ih => rw [Nat.succ_mul, ← Nat.add_assoc]; exact up _ ih
  have back : ∀ d j, (∃ k, Br x y k (j + d)) → ∃ k, Br x y k j := by
    intro d
    induction d with
    | zero => intro j q; exact q
    | succ d ih => intro j q; exact ih j (down _ (by rw [Nat.add_assoc]; exact q))
  intro j
  have : j ≤ m + j * r := by have := Nat.le_mul_of_pos_right j c.pos; omega
  have := far j
  rw [show m + j * r = j + (m + j * r - j) by omega] at this
  exact back _ _ this

theorem br_closed (I : Inst n B E rk) (T : Tb E rk R) (p1 : P1 rk R) {x y : Nat → Nat} {r : Nat} (c : Cyc rk R x y r) {k m : Nat} (h : Br x y k m) (t : Nat) {v : Nat} (hv : R (x t) v) : (∃ t', v = x t') ∧ (Fst rk R (x t) v ∨ Lst rk R (x t) v) := by
  have all := br_all I T p1 c h
  have inY : ∀ t, ∃ t', y t = x t' := fun t => by
    have hr : t + r = (t + r - 1) + 1 := by have := c.pos; omega
    obtain ⟨k', b⟩ := all (t + r - 1)
    exact ⟨k' + 1, by rw [← c.perY t, hr]; exact b.1.symm⟩
  have hr : t + r = (t + r - 1) + 1 := by have := c.pos; omega
  rw [← c.perX t, hr] at hv ⊢
  generalize t + r - 1 = u at hv
  obtain ⟨k', b1, b2⟩ := all u
  have f1 := c.fst k'
  rw [b2] at f1
  have l1 := p1 _ _ f1
  have s1 := c.snd (u + 1)
  rw [← b1] at s1
  rcases two I T s1 l1 hv with q | q
  · subst q; exact ⟨⟨_, rfl⟩, .inr l1⟩
  · refine ⟨?_, .inl q⟩
    obtain ⟨t', e⟩ := inY u
    exact ⟨t', by rw [← e]; exact fst_un I T q (c.fst u)⟩

theorem cyc_cut (I : Inst n B E rk) (T : Tb E rk R) (p1 : P1 rk R) {x y : Nat → Nat} {r : Nat} (c : Cyc rk R x y r) (nb : ∀ k m, ¬ Br x y k m) : ∃ R', Tb E rk R' ∧ (∀ i j, R' i j → R i j) ∧ ∃ i j, R i j ∧ ¬ R' i j := by
  have detN : ∀ s a b, x a = x b → x (a + s) = x (b + s) := by
    intro s
    induction s with
    | zero => intro a b e; exact e
    | succ s ih => intro a b e; exact c.det _ _ (ih a b e)
  have injY : ∀ a b, y a = y b → x a = x b := fun a b e => by
    have l1 := c.lst a
    rw [e] at l1
    have := detN (r - 1) _ _ (lst_un I T l1 (c.lst b))
    have hr := c.pos
    rw [show a + 1 + (r - 1) = a + r by omega, show b + 1 + (r - 1) = b + r by omega, c.perX, c.perX] at this
    exact this
  have low : ∀ u, rk (y u) (x u) < rk (y u) (x (u + 1)) := fun u => by
    have r1 := T.symm _ _ (c.snd u).1
    rcases Nat.lt_or_ge (rk (y u) (x u)) (rk (y u) (x (u + 1))) with q | q
    · exact q
    · exact absurd (I.inj _ _ _ (T.sub _ _ r1) (T.sub _ _ (c.lst u).1) (Nat.le_antisymm ((c.lst u).2 _ r1) q)) (cyc_ne c u)
  refine ⟨cutBy rk R (fun a b => ∃ t, a = y t ∧ b = x t), cut_tb T ?_ ?_ ?_, fun i j h => h.1, x 1, y 0, (c.fst 0).1, fun h => ?_⟩
  · rintro a b ⟨t, rfl, rfl⟩; exact T.symm _ _ (c.snd t).1
  · rintro a b ⟨t, rfl, rfl⟩
    have hr : t + r = (t + r - 1) + 1 := by have := c.pos; omega
    rw [← c.perX t, ← c.perY t, hr]
    generalize t + r - 1 = u
    refine ⟨⟨(c.snd (u + 1)).1, ?_, ?_⟩, fun k hk => ?_⟩
    · rintro z ⟨m, e, rfl⟩
      have hm : m + r = (m + r - 1) + 1 := by have := c.pos; omega
      rw [← c.perX m, hm]
      rw [← c.perY m, hm] at e
      generalize m + r - 1 = v at e
      have r1 := T.symm _ _ (c.snd (v + 1)).1
      rw [← e] at r1
      by_cases hf : Fst rk R (x (u + 1)) (x (v + 1))
      · exact absurd ⟨e, fst_un I T (c.fst u) hf⟩ (nb u v)
      · exact (c.snd (u + 1)).2.2 _ r1 hf
    · rintro z ⟨m, e, rfl⟩
      rw [injY _ _ e]; exact Nat.le_refl _
    · by_cases hf : Fst rk R (x (u + 1)) k
      · have := fst_un I T hf (c.fst u)
        subst this
        have := hk.2.2 (x u) ⟨u, rfl, rfl⟩
        have := low u
        omega
      · exact (c.snd (u + 1)).2.2 _ hk.1 hf
  · intro i p hi h1 h2
    refine ⟨h1.1, fun z hz => absurd hz (hi z), ?_⟩
    rintro z ⟨m, rfl, rfl⟩
    exact h2.2 _ (T.symm _ _ (c.snd m).1)
  · have := h.2.2 (x 0) ⟨0, rfl, rfl⟩
    have : rk (y 0) (x 0) < rk (y 0) (x 1) := low 0
    omega

theorem phase2 (I : Inst n B E rk) (T : Tb E rk R) (p1 : P1 rk R) {i k : Nat} (hk : R i k) (hf : ¬ Fst rk R i k) (hl : ¬ Lst rk R i k) : ∃ R', Tb E rk R' ∧ (∀ i j, R' i j → R i j) ∧ ∃ i j, R i j ∧ ¬ R' i j := by
  classical
  have ex : ∀ i, Tm rk R i → ∃ x, ∃ y, Snd rk R i y ∧ Lst rk R y x := fun i ⟨k, h1, h2⟩ => by
    obtain ⟨y, hy⟩ := snd_ex h1 h2
    obtain ⟨x, hx⟩ := lst_ex (rk := rk) I (T.symm _ _ hy.1)
    exact ⟨x, y, hy, hx⟩
  let f : Nat → Nat := fun i => if h : Tm rk R i then Classical.choose (ex i h) else 0
  have fs : ∀ i, Tm rk R i → ∃ y, Snd rk R i y ∧ Lst rk R y (f i) := fun i hi => by
    show ∃ y, Snd rk R i y ∧ Lst rk R y (if h : Tm rk R i then Classical.choose (ex i h) else 0)
    rw [dif_pos hi]; exact Classical.choose_spec (ex i hi)
  let z : Nat → Nat := fun t => Nat.rec i (fun _ v => f v) t
  have zs : ∀ t, z (t + 1) = f (z t) := fun t => rfl
  have tm : ∀ t, Tm rk R (z t) := by
    intro t
    induction t with
    | zero => exact ⟨k, hk, hf⟩
    | succ t ih => obtain ⟨y, h1, h2⟩ := fs _ ih; rw [zs]; exact tm_next I T p1 h1 h2
  obtain ⟨a, r, hr, hp⟩ := orbit_rep z (n := n) fun t => by obtain ⟨k, q, _⟩ := tm t; exact I.lt _ _ (T.sub _ _ q)
  let y : Nat → Nat := fun t => Classical.choose (fs _ (tm t))
  have ys : ∀ t, Snd rk R (z t) (y t) ∧ Lst rk R (y t) (z (t + 1)) := fun t => Classical.choose_spec (fs _ (tm t))
  have per : ∀ t, z (a + t + r) = z (a + t) := by
    intro t
    induction t with
    | zero => exact hp
    | succ t ih => rw [show a + (t + 1) + r = (a + t + r) + 1 by omega, show a + (t + 1) = (a + t) + 1 by omega, zs, zs, ih]
  have c : Cyc rk R (fun t => z (a + t)) (fun t => y (a + t)) r := by
    refine ⟨hr, fun t => (ys _).1, fun t => (ys _).2, fun t => first_last I T p1 _ _ (ys _).2, fun t => ?_, fun t => ?_, fun p q e => ?_⟩
    · show z (a + (t + r)) = z (a + t); rw [← Nat.add_assoc]; exact per t
    · show y (a + (t + r)) = y (a + t)
      have h1 := (ys (a + (t + r))).1
      rw [← Nat.add_assoc, per t] at h1
      rw [← Nat.add_assoc]
      exact snd_un I T h1 (ys (a + t)).1
    · show z (a + p + 1) = z (a + q + 1)
      have e : z (a + p) = z (a + q) := e
      rw [zs, zs, e]
  by_cases hb : ∃ k m, Br (fun t => z (a + t)) (fun t => y (a + t)) k m
  · exfalso
    obtain ⟨k', m', hb⟩ := hb
    have cl := fun t v => @br_closed n B E rk R I T p1 _ _ r c k' m' hb t v
    have down : ∀ d t, t + d = a → ∃ t', z t = z (a + t') := by
      intro d
      induction d with
      | zero => intro t e; exact ⟨0, by rw [← e]; rfl⟩
      | succ d ih =>
        intro t e
        obtain ⟨t', e'⟩ := ih (t + 1) (by omega)
        have f1 := first_last I T p1 _ _ (ys t).2
        rw [e'] at f1
        obtain ⟨⟨t2, e2⟩, _⟩ := cl t' _ f1.1
        have r2 := T.symm _ _ (ys t).1.1
        rw [e2] at r2
        exact (cl t2 _ r2).1
    obtain ⟨t', e'⟩ := down a 0 (by omega)
    have e' : i = z (a + t') := e'
    rw [e'] at hk hf hl
    rcases (cl t' _ hk).2 with q | q
    · exact hf q
    · exact hl q
  · exact cyc_cut I T p1 c fun k m q => hb ⟨k, m, q⟩

open Classical in
noncomputable def mu (n : Nat) (R : Nat → Nat → Prop) : Nat := ((List.range n).flatMap fun i => (List.range n).map fun j => (i, j)).countP fun p => decide (R p.1 p.2)

theorem countP_less {α : Type} {p q : α → Bool} : ∀ {l : List α}, (∀ a, p a = true → q a = true) → (∃ a ∈ l, q a = true ∧ p a = false) → l.countP p < l.countP q
  | [], _, h => by obtain ⟨a, ha, _⟩ := h; cases ha
  | b :: l, hpq, h => by
    obtain ⟨a, ha, h1, h2⟩ := h
    have le := List.countP_mono_left (l := l) (p := p) (q := q) fun a _ => hpq a
    rcases List.mem_cons.mp ha with rfl | ha
    · rw [List.countP_cons_of_pos h1, List.countP_cons_of_neg (by rw [h2]; decide)]; omega
    · have ih := countP_less (l := l) hpq ⟨a, ha, h1, h2⟩
      by_cases hb : p b = true
      · rw [List.countP_cons_of_pos hb, List.countP_cons_of_pos (hpq b hb)]; omega
      · rw [List.countP_cons_of_neg hb]
        by_cases hq : q b = true
        · rw [List.countP_cons_of_pos hq]; omega
        · rw [List.countP_cons_of_neg hq]; exact ih

theorem mu_lt (I : Inst n B E rk) (T : Tb E rk R) {R' : Nat → Nat → Prop} (h : ∀ i j, R' i j → R i j) (hs : ∃ i j, R i j ∧ ¬ R' i j) : mu n R' < mu n R := by
  classical
  obtain ⟨i, j, h1, h2⟩ := hs
  unfold mu
  refine countP_less (fun p hp => ?_) ⟨(i, j), ?_, decide_eq_true h1, decide_eq_false h2⟩
  · exact decide_eq_true (h _ _ (of_decide_eq_true hp))
  · rw [List.mem_flatMap]
    exact ⟨i, List.mem_range.mpr (I.lt _ _ (T.sub _ _ h1)), List.mem_map.mpr ⟨j, List.mem_range.mpr (I.lt _ _ (T.sub _ _ (T.symm _ _ h1))), rfl⟩⟩

theorem least (I : Inst n B E rk) : ∀ (v : Nat) (R : Nat → Nat → Prop), Tb E rk R → mu n R ≤ v → ∃ R, Tb E rk R ∧ P1 rk R ∧ ∀ i k, R i k → Fst rk R i k ∨ Lst rk R i k := by
  intro v
  induction v with
  | zero =>
    intro R T hv
    have no : ∀ {Q : Prop}, (∃ R', Tb E rk R' ∧ (∀ i j, R' i j → R i j) ∧ ∃ i j, R i j ∧ ¬ R' i j) → Q := fun ⟨R', _, h2, h3⟩ => by have := mu_lt I T h2 h3; omega
    refine ⟨R, T, fun x y hf => ?_, ?_⟩
    · by_cases hl : Lst rk R y x
      · exact hl
      · exact no (phase1 I T hf hl)
    · intro i k hk
      have p1 : P1 rk R := fun x y hf => by
        by_cases hl : Lst rk R y x
        · exact hl
        · exact no (phase1 I T hf hl)
      by_cases hf : Fst rk R i k
      · exact .inl hf
      · by_cases hl : Lst rk R i k
        · exact .inr hl
        · exact no (phase2 I T p1 hk hf hl)
  | succ v ih =>
    intro R T hv
    have lessM : (∃ R', Tb E rk R' ∧ (∀ i j, R' i j → R i j) ∧ ∃ i j, R i j ∧ ¬ R' i j) → ∃ R, Tb E rk R ∧ P1 rk R ∧ ∀ i k, R i k → Fst rk R i k ∨ Lst rk R i k := fun ⟨R', h1, h2, h3⟩ => ih R' h1 (by have := mu_lt I T h2 h3; omega)
    by_cases p1 : P1 rk R
    · by_cases hg : ∀ i k, R i k → Fst rk R i k ∨ Lst rk R i k
      · exact ⟨R, T, p1, hg⟩
      · obtain ⟨i, hg⟩ := Classical.not_forall.mp hg
        obtain ⟨k, hg⟩ := Classical.not_forall.mp hg
        obtain ⟨hk, hg⟩ := Classical.not_imp.mp hg
        exact lessM (phase2 I T p1 hk (fun q => hg (.inl q)) fun q => hg (.inr q))
    · obtain ⟨x, hg⟩ := Classical.not_forall.mp p1
      obtain ⟨y, hg⟩ := Classical.not_forall.mp hg
      obtain ⟨hf, hl⟩ := Classical.not_imp.mp hg
      exact lessM (phase1 I T hf hl)

/-- Tan: parties that hold exist -/
theorem exist (I : Inst n B E rk) : ∃ nxt prv : Nat → Nat, (∀ i, i < n → nxt i < n ∧ prv i < n) ∧ (∀ i, nxt (prv i) = i ∧ prv (nxt i) = i) ∧ (∀ i, nxt i ≠ i → E i (nxt i) ∧ E i (prv i)) ∧
    (∀ i, nxt i ≠ i → nxt (nxt i) ≠ i → rk i (nxt i) < rk i (prv i)) ∧ ∀ i j, E i j → (nxt i = i ∨ rk i j < rk i (prv i)) → (nxt j = j ∨ rk j i < rk j (prv j)) → False := by
  classical
  obtain ⟨R, T, p1, hg⟩ := least I (mu n E) E ⟨fun _ _ h => h, I.symm, fun i j h q => absurd h q⟩ (Nat.le_refl _)
  let nxt : Nat → Nat := fun i => if h : ∃ k, Fst rk R i k then Classical.choose h else i
  let prv : Nat → Nat := fun i => if h : ∃ k, Lst rk R i k then Classical.choose h else i
  have n1 : ∀ i, (∃ j, R i j) → Fst rk R i (nxt i) := fun i ⟨j, hj⟩ => by
    have h := fst_ex (rk := rk) hj
    show Fst rk R i (if h : ∃ k, Fst rk R i k then Classical.choose h else i)
    rw [dif_pos h]; exact Classical.choose_spec h
  have q1 : ∀ i, (∃ j, R i j) → Lst rk R i (prv i) := fun i ⟨j, hj⟩ => by
    have h := lst_ex (rk := rk) I hj
    show Lst rk R i (if h : ∃ k, Lst rk R i k then Classical.choose h else i)
    rw [dif_pos h]; exact Classical.choose_spec h
  have n0 : ∀ i, (¬ ∃ j, R i j) → nxt i = i := fun i hn => by
    show (if h : ∃ k, Fst rk R i k then Classical.choose h else i) = i
    rw [dif_neg fun ⟨k, q⟩ => hn ⟨k, q.1⟩]
  have q0 : ∀ i, (¬ ∃ j, R i j) → prv i = i := fun i hn => by
    show (if h : ∃ k, Lst rk R i k then Classical.choose h else i) = i
    rw [dif_neg fun ⟨k, q⟩ => hn ⟨k, q.1⟩]
  have fl := first_last I T p1
  have ne : ∀ i, (∃ j, R i j) → nxt i ≠ i := fun i hi e => by have := (n1 i hi).1; rw [e] at this; exact I.irr _ (T.sub _ _ this)
  have has : ∀ i, nxt i ≠ i → ∃ j, R i j := fun i hi => Classical.byContradiction fun q => hi (n0 i q)
  refine ⟨nxt, prv, fun i hi => ?_, fun i => ?_, fun i hi => ?_, fun i hi hi2 => ?_, fun i j he h1 h2 => ?_⟩
  · by_cases h : ∃ j, R i j
    · exact ⟨I.lt _ _ (I.symm _ _ (T.sub _ _ (n1 i h).1)), I.lt _ _ (I.symm _ _ (T.sub _ _ (q1 i h).1))⟩
    · rw [n0 i h, q0 i h]; exact ⟨hi, hi⟩
  · by_cases h : ∃ j, R i j
    · have a := q1 i h
      have b := n1 i h
      have ha : ∃ j, R (prv i) j := ⟨i, T.symm _ _ a.1⟩
      have hb : ∃ j, R (nxt i) j := ⟨i, T.symm _ _ b.1⟩
      exact ⟨fst_un I T (n1 _ ha) (fl _ _ a), lst_un I T (q1 _ hb) (p1 _ _ b)⟩
    · rw [q0 i h, n0 i h, q0 i h]; exact ⟨rfl, rfl⟩
  · have h := has i hi
    exact ⟨T.sub _ _ (n1 i h).1, T.sub _ _ (q1 i h).1⟩
  · have h := has i hi
    have a := n1 i h
    have b := q1 i h
    rcases Nat.lt_or_ge (rk i (nxt i)) (rk i (prv i)) with q | q
    · exact q
    · exfalso
      have e : nxt i = prv i := I.inj _ _ _ (T.sub _ _ a.1) (T.sub _ _ b.1) (Nat.le_antisymm (a.2 _ b.1) q)
      have f := fl _ _ b
      rw [← e] at f
      exact hi2 (fst_un I T (n1 _ ⟨i, f.1⟩) f)
  · by_cases hr : R i j
    · have ri : ∃ j, R i j := ⟨j, hr⟩
      have rj : ∃ k, R j k := ⟨i, T.symm _ _ hr⟩
      have h1 : rk i j < rk i (prv i) := h1.resolve_left (ne i ri)
      have h2 : rk j i < rk j (prv j) := h2.resolve_left (ne j rj)
      rcases hg i j hr with q | q
      · have := lst_un I T (p1 _ _ q) (q1 j rj)
        rw [← this] at h2; omega
      · have := lst_un I T q (q1 i ri)
        rw [← this] at h1; omega
    · rcases T.wit i j he hr with ⟨p, a, b, l⟩ | ⟨p, a, b, l⟩
      · have ri : ∃ j, R i j := ⟨p, a.1⟩
        have h1 : rk i j < rk i (prv i) := h1.resolve_left (ne i ri)
        rw [lst_un I T a (q1 i ri)] at l; omega
      · have rj : ∃ k, R j k := ⟨p, a.1⟩
        have h2 : rk j i < rk j (prv j) := h2.resolve_left (ne j rj)
        rw [lst_un I T a (q1 j rj)] at l; omega

end
end Tan
end Mine

namespace Mine
open PySem

/-- whom a guest has ahead of it -/
noncomputable def pv (nxt prv : Nat → Nat) (i : Nat) : Option Nat := if nxt i = i then none else some (prv i)

structure Hold (W : List (List Int)) (nxt prv : Nat → Nat) : Prop where
  lt : ∀ i, i < W.length → nxt i < W.length ∧ prv i < W.length
  np : ∀ i, i < W.length → nxt (prv i) = i ∧ prv (nxt i) = i
  suit : ∀ i, i < W.length → nxt i ≠ i → both W i (nxt i) = true
  pref : ∀ i, i < W.length → nxt i ≠ i → nxt (nxt i) ≠ i → soonerP W i (some (nxt i)) (some (prv i)) = true
  calm : ∀ i j, i < W.length → j < W.length → i ≠ j → soonerP W i (some j) (pv nxt prv i) = true → soonerP W j (some i) (pv nxt prv j) = true → False

noncomputable def rkW (W : List (List Int)) (i j : Nat) : Nat := (row W i).idxOf (j : Int)

theorem soon_some {W : List (List Int)} {i a c : Nat} : soonerP W i (some a) (some c) = true ↔ a ≠ c ∧ both W i a = true ∧ (both W i c = false ∨ rkW W i a < rkW W i c) := by
  simp only [soonerP, Bool.and_eq_true, bne_iff_ne, Bool.or_eq_true, Bool.not_eq_true', decide_eq_true_eq, rkW, and_assoc]
theorem soon_none {W : List (List Int)} {i a : Nat} : soonerP W i (some a) none = true ↔ both W i a = true := by simp only [soonerP]
theorem rk_inj {W : List (List Int)} {i a c : Nat} (ha : both W i a = true) (hc : both W i c = true) (h : rkW W i a = rkW W i c) : a = c := by
  have := idx_inj (both_mem ha) (both_mem hc) h; omega

section
variable {W : List (List Int)} {nxt prv : Nat → Nat} {X : Mt}

noncomputable def inX (W : List (List Int)) (nxt prv : Nat → Nat) (X : Mt) (g : Nat) : Bool := match X.getD g none with
  | some a => soonerP W g (some a) (pv nxt prv g)
  | none => false

theorem inX_ex {g : Nat} (h : inX W nxt prv X g = true) : ∃ a, X.getD g none = some a ∧ soonerP W g (some a) (pv nxt prv g) = true := by
  unfold inX at h
  split at h
  · rename_i a e; exact ⟨a, e, h⟩
  · cases h

theorem Hold.prv_suit (hh : Hold W nxt prv) {h : Nat} (hl : h < W.length) (hn : nxt h ≠ h) : both W h (prv h) = true ∧ nxt (prv h) ≠ prv h := by
  have e := (hh.np h hl).1
  have hp := (hh.lt h hl).2
  have ne : nxt (prv h) ≠ prv h := fun q => by
    rw [e] at q
    exact hn (by rw [← q] at e; exact e)
  have := hh.suit (prv h) hp ne
  rw [e, both_comm] at this
  exact ⟨this, ne⟩

/-- one whose mate is better than its next is better off than with the one ahead -/
theorem Hold.up (hh : Hold W nxt prv) {p c : Nat} (hl : p < W.length) (hn : nxt p ≠ p) (hc : both W p c = true) (hr : rkW W p c < rkW W p (nxt p)) : soonerP W p (some c) (pv nxt prv p) = true := by
  obtain ⟨b1, _⟩ := hh.prv_suit hl hn
  unfold pv
  rw [if_neg hn, soon_some]
  have lt : rkW W p c < rkW W p (prv p) := by
    by_cases h2 : nxt (nxt p) = p
    · have : prv p = nxt p := by rw [← (hh.np (nxt p) (hh.lt p hl).1).2, h2]
      rw [this]; exact hr
    · rcases (soon_some.mp (hh.pref p hl hn h2)).2.2 with q | q
      · rw [b1] at q; cases q
      · omega
  exact ⟨fun e => by rw [e] at lt; omega, hc, .inr lt⟩

/-- h would rather have p than its mate: then p is well off -/
theorem Hold.well (hh : Hold W nxt prv) (hX : Calm W X) {h : Nat} (hl : h < W.length) (hn : nxt h ≠ h) (hs : soonerP W h (some (prv h)) (X.getD h none) = true) (hne : X.getD (prv h) none ≠ some h) : inX W nxt prv X (prv h) = true := by
  obtain ⟨b1, pn⟩ := hh.prv_suit hl hn
  have e := (hh.np h hl).1
  have pl := (hh.lt h hl).2
  have hp : h ≠ prv h := fun q => by
    have e' := e
    rw [← q] at e'
    exact hn e'
  have := hX.calm h (prv h) hl pl hp hs
  unfold inX
  cases hx : X.getD (prv h) none with
  | none =>
    rw [hx] at this
    have b2 : both W (prv h) h = true := by rw [both_comm]; exact b1
    simp only [soonerP, b2] at this; cases this
  | some c =>
    rw [hx] at this
    have hch : c ≠ h := fun q => hne (by rw [hx, q])
    have bc := (hX.ok.two _ _ hx).2.2
    have b2 : both W (prv h) h = true := by rw [both_comm]; exact b1
    refine hh.up pl pn bc ?_
    rw [e]
    rcases Nat.lt_trichotomy (rkW W (prv h) c) (rkW W (prv h) h) with q | q | q
    · exact q
    · exact absurd (rk_inj bc b2 q) hch
    · have : soonerP W (prv h) (some h) (some c) = true := soon_some.mpr ⟨Ne.symm hch, b2, .inr q⟩
      rename_i z; rw [this] at z; cases z

theorem Hold.flip1 (hh : Hold W nxt prv) (ok : WOk W) (hX : Calm W X) {g : Nat} (hg : g < W.length) (h : inX W nxt prv X g = true) : inX W nxt prv X (nxt g) = false := by
  -- the map g ↦ the one ahead of g's mate
  have mate : ∀ g, g < W.length → inX W nxt prv X g = true → ∃ a, X.getD g none = some a ∧ a < W.length ∧ inX W nxt prv X a = false ∧ inX W nxt prv X (prv a) = true := by
    intro g hg h
    obtain ⟨a, ea, sa⟩ := inX_ex h
    obtain ⟨a1, a2, a3⟩ := hX.ok.two g a ea
    have hga : g ≠ a := by rintro rfl; rw [both_self ok hg] at a3; cases a3
    have no : soonerP W a (some g) (pv nxt prv a) = false := by
      cases q : soonerP W a (some g) (pv nxt prv a) with
      | false => rfl
      | true => exact (hh.calm g a hg a1 hga sa q).elim
    have a3' : both W a g = true := by rw [both_comm]; exact a3
    have hn : nxt a ≠ a := fun q => by
      unfold pv at no; rw [if_pos q] at no
      simp only [soonerP, a3'] at no; cases no
    refine ⟨a, ea, a1, ?_, ?_⟩
    · unfold inX; rw [a2]; exact no
    · unfold pv at no
      rw [if_neg hn] at no
      by_cases hp : prv a = g
      · rw [hp]; exact h
      · obtain ⟨b1, pn⟩ := hh.prv_suit a1 hn
        refine hh.well hX a1 hn ?_ fun q => ?_
        · rw [a2, soon_some]
          refine ⟨hp, b1, .inr ?_⟩
          rcases Nat.lt_trichotomy (rkW W a (prv a)) (rkW W a g) with q | q | q
          · exact q
          · exact absurd (rk_inj b1 a3' q) hp
          · have : soonerP W a (some g) (some (prv a)) = true := soon_some.mpr ⟨Ne.symm hp, a3', .inr q⟩
            rw [this] at no; cases no
        · have := (hX.ok.two _ _ q).2.1
          rw [a2] at this; cases this; exact hp rfl
  let L := (List.range W.length).filter (inX W nxt prv X)
  have hL : ∀ i, i ∈ L ↔ i < W.length ∧ inX W nxt prv X i = true := fun i => by simp [L]
  let f : Nat → Nat := fun i => prv ((X.getD i none).getD 0)
  by_cases hm : g ∈ L.map f
  · obtain ⟨i, hi, e⟩ := List.mem_map.mp hm
    obtain ⟨i1, i2⟩ := (hL i).mp hi
    obtain ⟨a, ea, a1, a2, a3⟩ := mate i i1 i2
    have e : prv a = g := by rw [← e]; show prv a = prv ((X.getD i none).getD 0); rw [ea]; rfl
    rw [← e, (hh.np a a1).1]; exact a2
  · exfalso
    have gL : g ∈ L := (hL g).mpr ⟨hg, h⟩
    have := nodup_le (l := L.map f) (m := L.erase g) (nodup_mapF f (List.nodup_range.sublist List.filter_sublist) fun x hx y hy e => ?_) fun z hz => ?_
    · rw [List.length_map, List.length_erase_of_mem gL] at this
      have := List.length_pos_of_mem gL
      omega
    · obtain ⟨x1, x2⟩ := (hL x).mp hx
      obtain ⟨y1, y2⟩ := (hL y).mp hy
      obtain ⟨a, ea, a1, _, _⟩ := mate x x1 x2
      obtain ⟨c, ec, c1, _, _⟩ := mate y y1 y2
      have e : prv ((X.getD x none).getD 0) = prv ((X.getD y none).getD 0) := e
      rw [ea, ec] at e
      have e : prv a = prv c := e
      have : a = c := by rw [← (hh.np a a1).1, e, (hh.np c c1).1]
      subst this
      have u1 := (hX.ok.two _ _ ea).2.1
      have u2 := (hX.ok.two _ _ ec).2.1
      rw [u1] at u2; cases u2; rfl
    · obtain ⟨i, hi, rfl⟩ := List.mem_map.mp hz
      obtain ⟨i1, i2⟩ := (hL i).mp hi
      obtain ⟨a, ea, a1, a2, a3⟩ := mate i i1 i2
      have e : f i = prv a := by show prv ((X.getD i none).getD 0) = prv a; rw [ea]; rfl
      rw [e] at hz ⊢
      exact (List.mem_erase_of_ne fun q => hm (by rw [← q]; exact hz)).mpr ((hL _).mpr ⟨(hh.lt a a1).2, a3⟩)

theorem Hold.flip2 (hh : Hold W nxt prv) (hX : Calm W X) {g : Nat} (hg : g < W.length) (h1 : nxt g ≠ g) (h2 : nxt (nxt g) ≠ g) (h : inX W nxt prv X g = false) : inX W nxt prv X (nxt g) = true := by
  have hl := (hh.lt g hg).1
  have e := (hh.np g hg).2
  have hn : nxt (nxt g) ≠ nxt g := fun q => h1 (by
    have := (hh.np (nxt g) hl).2
    rw [q, e] at this; exact this.symm)
  cases hi : inX W nxt prv X (nxt g) with
  | true => rfl
  | false =>
    exfalso
    have b1 := hh.suit g hg h1
    have b1' : both W (nxt g) g = true := by rw [both_comm]; exact b1
    by_cases hx : X.getD g none = some (nxt g)
    · unfold inX at h
      rw [hx] at h
      dsimp only at h
      unfold pv at h
      rw [if_neg h1, hh.pref g hg h1 h2] at h; cases h
    · have := hh.well hX hl hn ?_ (by rw [e]; exact hx)
      · rw [e, h] at this; cases this
      · rw [e]
        cases hy : X.getD (nxt g) none with
        | none => exact soon_none.mpr b1'
        | some a =>
          have a3 := (hX.ok.two _ _ hy).2
          have hag : a ≠ g := fun q => hx (by have z := a3.1; rw [q] at z; exact z)
          unfold inX at hi
          rw [hy] at hi
          dsimp only at hi
          unfold pv at hi
          rw [if_neg hn, e] at hi
          refine soon_some.mpr ⟨Ne.symm hag, b1', .inr ?_⟩
          rcases Nat.lt_trichotomy (rkW W (nxt g) g) (rkW W (nxt g) a) with q | q | q
          · exact q
          · exact absurd (rk_inj b1' a3.2 q).symm hag
          · have : soonerP W (nxt g) (some a) (some g) = true := soon_some.mpr ⟨hag, a3.2, .inr q⟩
            rw [this] at hi; cases hi

/-- going round a ring of an odd number, three or more: no calm mates -/
theorem Hold.odd (hh : Hold W nxt prv) (ok : WOk W) (hX : Calm W X) (z : Nat → Nat) (hz : ∀ t, z t < W.length) (hs : ∀ t, z (t + 1) = nxt (z t)) (h1 : ∀ t, nxt (z t) ≠ z t) (h2 : ∀ t, nxt (nxt (z t)) ≠ z t) {k : Nat} (hk : z (2 * k + 1) = z 0) : False := by
  have flip : ∀ t, inX W nxt prv X (z (t + 1)) = !inX W nxt prv X (z t) := fun t => by
    rw [hs]
    cases q : inX W nxt prv X (z t) with
    | true => exact hh.flip1 ok hX (hz t) q
    | false => exact hh.flip2 hX (hz t) (h1 t) (h2 t) q
  have ev : ∀ k, inX W nxt prv X (z (2 * k)) = inX W nxt prv X (z 0) := by
    intro k
    induction k with
    | zero => rfl
    | succ k ih => rw [show 2 * (k + 1) = (2 * k + 1) + 1 by omega, flip, flip, ih, Bool.not_not]
  have := flip (2 * k)
  rw [hk, ev k] at this
  cases q : inX W nxt prv X (z 0) <;> rw [q] at this <;> cases this

/-- mates by parties are calm -/
theorem Hold.by_party (hh : Hold W nxt prv) {X : Mt} (len : X.length = W.length) (h0 : ∀ g, g < W.length → X.getD g none = none → nxt g = g) (h1 : ∀ g, g < W.length → ∀ j, X.getD g none = some j → nxt g ≠ g ∧ (j = nxt g ∨ j = prv g) ∧ j < W.length ∧ X.getD j none = some g) : Calm W X := by
  have bd : ∀ i j, X.getD i none = some j → i < W.length := fun i j e => by
    rcases Nat.lt_or_ge i W.length with q | q
    · exact q
    · rw [List.getD_eq_getElem?_getD, List.getElem?_eq_none (by omega)] at e; cases e
  have down : ∀ i j, i < W.length → soonerP W i (some j) (X.getD i none) = true → soonerP W i (some j) (pv nxt prv i) = true := fun i j hi h => by
    unfold pv
    cases hx : X.getD i none with
    | none => rw [if_pos (h0 i hi hx)]; rw [hx] at h; exact h
    | some a =>
      obtain ⟨q1, q2, q3, q4⟩ := h1 i hi a hx
      rw [if_neg q1]
      rw [hx] at h
      obtain ⟨b1, _⟩ := hh.prv_suit hi q1
      rcases q2 with q2 | q2
      · by_cases q5 : nxt (nxt i) = i
        · have : prv i = nxt i := by rw [← (hh.np (nxt i) (hh.lt i hi).1).2, q5]
          rw [this, ← q2]; exact h
        · obtain ⟨r1, r2, r3⟩ := soon_some.mp (hh.pref i hi q1 q5)
          obtain ⟨s1, s2, s3⟩ := soon_some.mp h
          rw [q2] at s3
          have : rkW W i j < rkW W i (prv i) := by
            rcases r3 with r3 | r3
            · rw [b1] at r3; cases r3
            · rcases s3 with s3 | s3
              · rw [r2] at s3; cases s3
              · omega
          exact soon_some.mpr ⟨fun e => by rw [e] at this; omega, s2, .inr this⟩
      · rw [← q2]; exact h
  refine ⟨⟨len, fun i j e => ?_⟩, fun i j hi hj hne hs => ?_⟩
  · have hi := bd i j e
    obtain ⟨q1, q2, q3, q4⟩ := h1 i hi j e
    refine ⟨q3, q4, ?_⟩
    rcases q2 with rfl | rfl
    · exact hh.suit i hi q1
    · exact (hh.prv_suit hi q1).1
  · cases q : soonerP W j (some i) (X.getD j none) with
    | false => rfl
    | true => exact (hh.calm i j hi hj hne (down i j hi hs) (down j i hj q)).elim
end

theorem Calm.hold {W : List (List Int)} (ok : WOk W) {X : Mt} (hX : Calm W X) : Hold W (fun i => (X.getD i none).getD i) (fun i => (X.getD i none).getD i) := by
  have inv : ∀ i, (X.getD ((X.getD i none).getD i) none).getD ((X.getD i none).getD i) = i := fun i => by
    cases e : X.getD i none with
    | none => show (X.getD i none).getD i = i; rw [e]; rfl
    | some a => show (X.getD a none).getD a = i; rw [(hX.ok.two i a e).2.1]; rfl
  have pvX : ∀ i, i < W.length → pv (fun i => (X.getD i none).getD i) (fun i => (X.getD i none).getD i) i = X.getD i none := fun i hi => by
    unfold pv
    rcases Option.eq_none_or_eq_some (X.getD i none) with e | ⟨a, e⟩
    · simp only [e, Option.getD_none, if_true]
    · have : a ≠ i := by rintro rfl; have := (hX.ok.two _ _ e).2.2; rw [both_self ok hi] at this; cases this
      simp only [e, Option.getD_some, this, if_false]
  refine ⟨fun i hi => ?_, fun i _ => ⟨inv i, inv i⟩, fun i hi hn => ?_, fun i hi hn h2 => absurd (inv i) h2, fun i j hi hj hne h1 h2 => ?_⟩
  · cases e : X.getD i none with
    | none => exact ⟨hi, hi⟩
    | some a => exact ⟨(hX.ok.two i a e).1, (hX.ok.two i a e).1⟩
  · rcases Option.eq_none_or_eq_some (X.getD i none) with e | ⟨a, e⟩
    · simp only [e, Option.getD_none, ne_eq, not_true] at hn
    · simp only [e, Option.getD_some]; exact (hX.ok.two i a e).2.2
  · rw [pvX i hi] at h1
    rw [pvX j hj] at h2
    have := hX.calm i j hi hj hne h1
    rw [h2] at this; cases this

theorem hold_ex {W : List (List Int)} (ok : WOk W) : ∃ nxt prv, Hold W nxt prv := by
  have I : Tan.Inst W.length 6 (fun i j => i < W.length ∧ j < W.length ∧ both W i j = true) (fun i j => min (rkW W i j) 6) := by
    have le : ∀ i j, i < W.length → rkW W i j ≤ 6 := fun i j hi => Nat.le_trans List.idxOf_le_length (ok.rows i hi).len
    refine ⟨fun i j h => h.1, fun i j h => ⟨h.2.1, h.1, by rw [both_comm]; exact h.2.2⟩, fun i h => ?_, fun i j k h1 h2 e => ?_, fun i j => Nat.min_le_right _ _⟩
    · have := h.2.2; rw [both_self ok h.1] at this; cases this
    · rw [Nat.min_eq_left (le i j h1.1), Nat.min_eq_left (le i k h1.1)] at e
      exact rk_inj h1.2.2 h2.2.2 e
  have le : ∀ i j, i < W.length → min (rkW W i j) 6 = rkW W i j := fun i j hi => Nat.min_eq_left (Nat.le_trans List.idxOf_le_length (ok.rows i hi).len)
  obtain ⟨nxt, prv, h1, h2, h3, h4, h5⟩ := Tan.exist I
  refine ⟨nxt, prv, h1, fun i _ => h2 i, fun i _ hn => (h3 i hn).1.2.2, fun i hi hn hn2 => ?_, fun i j hi hj hne s1 s2 => ?_⟩
  · have := h4 i hn hn2
    rw [le i _ hi, le i _ hi] at this
    exact soon_some.mpr ⟨fun e => by rw [e] at this; omega, (h3 i hn).1.2.2, .inr this⟩
  · have key : ∀ i j, i < W.length → soonerP W i (some j) (pv nxt prv i) = true → both W i j = true ∧ (nxt i = i ∨ min (rkW W i j) 6 < min (rkW W i (prv i)) 6) := fun i j hi s => by
      unfold pv at s
      by_cases hn : nxt i = i
      · rw [if_pos hn] at s; exact ⟨soon_none.mp s, .inl hn⟩
      · rw [if_neg hn] at s
        obtain ⟨a, b, c⟩ := soon_some.mp s
        rw [le i _ hi, le i _ hi]
        refine ⟨b, .inr (c.resolve_left fun q => ?_)⟩
        rw [(h3 i hn).2.2.2] at q; cases q
    obtain ⟨b1, k1⟩ := key i j hi s1
    obtain ⟨_, k2⟩ := key j i hj s2
    exact h5 i j ⟨hi, hj, b1⟩ k1 k2

theorem twos_mem (bo : Nat → Nat → Bool) : ∀ (k : Nat) (l : List Nat) (M X : Mt), l.length ≤ k → l.Nodup → X.length = M.length → (∀ i, i ∉ l → X.getD i none = M.getD i none) → (∀ i ∈ l, i < M.length) →
    (∀ i ∈ l, ∀ j, X.getD i none = some j → j ∈ l ∧ j ≠ i ∧ X.getD j none = some i ∧ bo i j = true) → (∀ i ∈ l, M.getD i none = none) → X ∈ twos bo k l M := by
  have same : ∀ {X M : Mt}, X.length = M.length → (∀ i, X.getD i none = M.getD i none) → X = M := fun {X M} hl h => by
    refine List.ext_getElem? fun i => ?_
    have := h i
    rw [List.getD_eq_getElem?_getD, List.getD_eq_getElem?_getD] at this
    by_cases q : i < X.length
    · rw [List.getElem?_eq_getElem q, List.getElem?_eq_getElem (by omega)] at this ⊢
      simpa using this
    · rw [List.getElem?_eq_none (by omega), List.getElem?_eq_none (by omega)]
  intro k
  induction k with
  | zero =>
    intro l M X hk _ hlen hout _ _ _
    have : l = [] := List.length_eq_zero_iff.mp (by omega)
    subst this
    rw [twos, List.mem_singleton]
    exact same hlen fun i => hout i (by simp)
  | succ k ih =>
    intro l M X hk hn hlen hout hin hmate hM
    cases l with
    | nil => rw [twos, List.mem_singleton]; exact same hlen fun i => hout i (by simp)
    | cons g r =>
      obtain ⟨gr, hr⟩ := List.nodup_cons.mp hn
      rw [twos, List.mem_append, List.mem_flatMap]
      have hg := hin g (.head _)
      cases hx : X.getD g none with
      | none =>
        refine .inl (ih r M X (by simpa using hk) hr hlen (fun i hi => ?_) (fun i hi => hin i (.tail _ hi)) (fun i hi j e => ?_) fun i hi => hM i (.tail _ hi))
        · by_cases e : i = g
          · rw [e, hx, hM g (.head _)]
          · exact hout i (by simp [e, hi])
        · obtain ⟨a, b, c, d⟩ := hmate i (.tail _ hi) j e
          refine ⟨(List.mem_cons.mp a).resolve_left fun q => ?_, b, c, d⟩
          rw [q, hx] at c; cases c
      | some o =>
        obtain ⟨a, b, c, d⟩ := hmate g (.head _) o hx
        have hor : o ∈ r := (List.mem_cons.mp a).resolve_left b
        refine .inr ⟨o, List.mem_filter.mpr ⟨hor, d⟩, ih _ _ X ?_ (hr.sublist List.filter_sublist) (by rw [pairM_len]; exact hlen) (fun i hi => ?_) (fun i hi => ?_) (fun i hi j e => ?_) fun i hi => ?_⟩
        · have := List.length_filter_le (fun x => x != o) r
          simp only [List.length_cons] at hk; omega
        · by_cases e1 : i = g
          · rw [e1, pairM_fst hg (Ne.symm b), hx]
          · by_cases e2 : i = o
            · rw [e2, pairM_snd (hin o (.tail _ hor)), c]
            · rw [pairM_ne e1 e2]
              exact hout i fun q => hi (List.mem_filter.mpr ⟨(List.mem_cons.mp q).resolve_left e1, by simpa using e2⟩)
        · rw [pairM_len]; exact hin i (.tail _ (List.mem_filter.mp hi).1)
        · obtain ⟨i1, i2⟩ := List.mem_filter.mp hi
          have i2 : i ≠ o := by simpa using i2
          obtain ⟨a', b', c', d'⟩ := hmate i (.tail _ i1) j e
          refine ⟨List.mem_filter.mpr ⟨(List.mem_cons.mp a').resolve_left fun q => ?_, ?_⟩, b', c', d'⟩
          · rw [q, hx] at c'; cases c'; exact i2 rfl
          · have : j ≠ o := fun q => by
              rw [q, c] at c'; cases c'; exact gr i1
            simpa using this
        · obtain ⟨i1, i2⟩ := List.mem_filter.mp hi
          have i2 : i ≠ o := by simpa using i2
          rw [pairM_ne (fun q : i = g => gr (q ▸ i1)) i2]
          exact hM i (.tail _ i1)

theorem twosW_all {W : List (List Int)} (ok : WOk W) {X : Mt} (hX : MOk W X) : X ∈ twosW W := by
  unfold twosW
  have rep : ∀ i, (List.replicate W.length (none : Option Nat)).getD i none = none := fun i => by
    rw [List.getD_eq_getElem?_getD, List.getElem?_replicate]; split <;> rfl
  refine twos_mem _ _ _ _ _ (by simp) List.nodup_range (by simpa using hX.len) (fun i hi => ?_) (fun i hi => by simpa using hi) (fun i hi j e => ?_) fun i _ => rep i
  · rw [rep, List.getD_eq_getElem?_getD, List.getElem?_eq_none (by have := hX.len; simp at hi; omega)]; rfl
  · obtain ⟨a, b, c⟩ := hX.two i j e
    refine ⟨by simpa using a, ?_, b, c⟩
    rintro rfl; rw [both_self ok a] at c; cases c

theorem Calm.rest {W : List (List Int)} {X : Mt} (hX : Calm W X) : restP W X = [] := by
  refine List.eq_nil_iff_forall_not_mem.mpr fun p hp => ?_
  unfold restP restTo at hp
  obtain ⟨i, hi, hp⟩ := List.mem_flatMap.mp hp
  unfold rowP at hp
  obtain ⟨k, hk, rfl⟩ := List.mem_map.mp hp
  obtain ⟨hk1, hk2⟩ := List.mem_filter.mp hk
  unfold restAt at hk2
  rw [Bool.and_eq_true] at hk2
  simp at hi hk1
  have := hX.calm i (i + 1 + k) hi (by omega) (by omega) hk2.1
  rw [hk2.2] at this; cases this

theorem calmW_all {W : List (List Int)} (ok : WOk W) {X : Mt} (hX : Calm W X) : X ∈ calmW W := by
  unfold calmW
  refine List.mem_filter.mpr ⟨twosW_all ok hX.ok, ?_⟩
  rw [hX.rest]; rfl
end Mine

namespace Mine

noncomputable def sameOp : Option Nat → Option Nat → Bool
  | none, none => true
  | some a, some b => Nat.beq a b
  | _, _ => false
noncomputable def atO : List (Option Nat) → Nat → Option Nat
  | [], _ => none
  | a :: _, 0 => a
  | _ :: l, k + 1 => atO l k
noncomputable def pairChk (A : List Nat) (M : List (Option Nat)) : Bool := Nat.beq M.length A.length && (upto A.length []).all fun g => match atO M g with
  | none => Nat.beq (nx A g) g
  | some j => !(Nat.beq (nx A g) g) && (Nat.beq j (nx A g) || Nat.beq j (idxN A g)) && Nat.blt j A.length && sameOp (atO M j) (some g)
noncomputable def okP (A : List Nat) : Bool := (roundsF A).any oddR || (pairChk A (pairedF A false) && pairChk A (pairedF A true))

theorem okp1 : (enumP 1 (List.range 1)).all okP = true := by decide +kernel
theorem okp2 : (enumP 2 (List.range 2)).all okP = true := by decide +kernel
theorem okp3 : (enumP 3 (List.range 3)).all okP = true := by decide +kernel
theorem okp4 : (enumP 4 (List.range 4)).all okP = true := by decide +kernel
theorem okp5 : (enumP 5 (List.range 5)).all okP = true := by decide +kernel
theorem okp60 : ((enumP 5 [1, 2, 3, 4, 5]).map (0 :: ·)).all okP = true := by decide +kernel
theorem okp61 : ((enumP 5 [0, 2, 3, 4, 5]).map (1 :: ·)).all okP = true := by decide +kernel
theorem okp62 : ((enumP 5 [0, 1, 3, 4, 5]).map (2 :: ·)).all okP = true := by decide +kernel
theorem okp63 : ((enumP 5 [0, 1, 2, 4, 5]).map (3 :: ·)).all okP = true := by decide +kernel
theorem okp64 : ((enumP 5 [0, 1, 2, 3, 5]).map (4 :: ·)).all okP = true := by decide +kernel
theorem okp65 : ((enumP 5 [0, 1, 2, 3, 4]).map (5 :: ·)).all okP = true := by decide +kernel
theorem okp6 : (enumP 6 [0, 1, 2, 3, 4, 5]).all okP = true := by
  have e : enumP 6 [0, 1, 2, 3, 4, 5] = ((enumP 5 [1, 2, 3, 4, 5]).map (0 :: ·)) ++ (((enumP 5 [0, 2, 3, 4, 5]).map (1 :: ·)) ++ (((enumP 5 [0, 1, 3, 4, 5]).map (2 :: ·)) ++ (((enumP 5 [0, 1, 2, 4, 5]).map (3 :: ·)) ++ (((enumP 5 [0, 1, 2, 3, 5]).map (4 :: ·)) ++ (((enumP 5 [0, 1, 2, 3, 4]).map (5 :: ·)) ++ []))))) := rfl
  rw [e]
  simp only [List.all_append, okp60, okp61, okp62, okp63, okp64, okp65, List.all_nil, Bool.and_self]

theorem okP_of {A : List Nat} (h1 : 1 ≤ A.length) (h6 : A.length ≤ 6) (hp : A.Perm (List.range A.length)) : okP A = true := by
  have hm := mem_enumP hp
  rw [List.length_range] at hm
  rcases le6 h1 h6 with e | e | e | e | e | e <;> rw [e] at hm
  · exact List.all_eq_true.mp okp1 A hm
  · exact List.all_eq_true.mp okp2 A hm
  · exact List.all_eq_true.mp okp3 A hm
  · exact List.all_eq_true.mp okp4 A hm
  · exact List.all_eq_true.mp okp5 A hm
  · exact List.all_eq_true.mp okp6 A hm

theorem atO_eq : ∀ (l : List (Option Nat)) (i : Nat), atO l i = l.getD i none
  | [], _ => rfl
  | _ :: _, 0 => rfl
  | _ :: l, i + 1 => by rw [atO, atO_eq l i]; simp
theorem sameOp_eq : ∀ {a b : Option Nat}, sameOp a b = true → a = b
  | none, none, _ => rfl
  | some a, some b, h => by rw [Nat.eq_of_beq_eq_true h]
  | none, some _, h => by cases h
  | some _, none, h => by cases h

/-- mates by parties: each with the next one or the one ahead -/
structure ByParty (A : List Nat) (M : List (Option Nat)) : Prop where
  len : M.length = A.length
  alone : ∀ g, g < A.length → M.getD g none = none → nx A g = g
  mate : ∀ g, g < A.length → ∀ j, M.getD g none = some j → nx A g ≠ g ∧ (j = nx A g ∨ j = A.idxOf g) ∧ j < A.length ∧ M.getD j none = some g

theorem ByParty.of {A : List Nat} {M : List (Option Nat)} (h : pairChk A M = true) : ByParty A M := by
  unfold pairChk at h
  rw [Bool.and_eq_true] at h
  obtain ⟨h1, h2⟩ := h
  refine ⟨Nat.eq_of_beq_eq_true h1, fun g hg e => ?_, fun g hg j e => ?_⟩
  · have := List.all_eq_true.mp h2 g (by rw [upto_eq]; simpa using hg)
    rw [atO_eq, e] at this
    exact Nat.eq_of_beq_eq_true this
  · have := List.all_eq_true.mp h2 g (by rw [upto_eq]; simpa using hg)
    rw [atO_eq, e] at this
    simp only [Bool.and_eq_true, Bool.not_eq_true', Bool.or_eq_true] at this
    obtain ⟨⟨⟨a1, a2⟩, a3⟩, a4⟩ := this
    rw [beq_dec] at a1
    rw [beq_dec, beq_dec, idxN_eq] at a2
    rw [atO_eq] at a4
    exact ⟨of_decide_eq_false a1, by simpa using a2, blt_iff.mp a3, sameOp_eq a4⟩

theorem paired_by {A : List Nat} (h1 : 1 ≤ A.length) (h6 : A.length ≤ 6) (hp : A.Perm (List.range A.length)) (ho : (roundsF A).any oddR = false) (b : Bool) : ByParty A (pairedF A b) := by
  have := okP_of h1 h6 hp
  unfold okP at this
  rw [ho, Bool.false_or, Bool.and_eq_true] at this
  cases b
  · exact .of this.1
  · exact .of this.2
end Mine

namespace Mine
open PySem

theorem nx_idx {A : List Nat} (ok : AOk A) {g : Nat} (hg : g < A.length) : nx A (A.idxOf g) = g ∧ A.idxOf (nx A g) = g := by
  have h1 := idx_lt ok hg
  have e1 : nx A (A.idxOf g) = g := by
    rw [nx_get, List.getD_eq_getElem?_getD, List.getElem?_eq_getElem h1]; exact List.getElem_idxOf h1
  refine ⟨e1, ?_⟩
  have h2 := idx_lt ok (ok.nx hg)
  have e2 := List.getElem_idxOf h2
  have e3 : A[g] = nx A g := by rw [nx_get, List.getD_eq_getElem?_getD, List.getElem?_eq_getElem hg]; rfl
  rcases Nat.lt_trichotomy (A.idxOf (nx A g)) g with q | q | q
  · exact absurd (e2.trans e3.symm) (List.pairwise_iff_getElem.mp ok.nodup _ g h2 hg q)
  · exact q
  · exact absurd (e3.trans e2.symm) (List.pairwise_iff_getElem.mp ok.nodup g _ hg h2 q)

theorem hold_of_law {W : List (List Int)} {A : List Nat} (ok : AOk A) (hl : W.length = A.length) (h : LawHold W A) : Hold W (nx A) (fun i => A.idxOf i) := by
  refine ⟨fun i hi => ⟨by rw [hl] at hi ⊢; exact ok.nx hi, by rw [hl] at hi ⊢; exact idx_lt ok hi⟩, fun i hi => nx_idx ok (by omega), fun i hi => (h i (by omega)).1, fun i hi h1 h2 => ?_, fun i j hi hj hne h1 h2 => ?_⟩
  · have := (h i (by omega)).2.1 h1 h2
    unfold ah at this; rw [if_neg h1] at this; exact this
  · exact (h i (by omega)).2.2 j (by omega) (Ne.symm hne) ⟨h1, h2⟩

theorem law_of_hold {W : List (List Int)} {A : List Nat} (hl : W.length = A.length) (h : Hold W (nx A) (fun i => A.idxOf i)) : LawHold W A := by
  intro g hg
  refine ⟨h.suit g (by omega), fun h1 h2 => ?_, fun j hj hne ⟨h1, h2⟩ => h.calm g j (by omega) (by omega) (Ne.symm hne) h1 h2⟩
  have := h.pref g (by omega) h1 h2
  unfold ah; rw [if_neg h1]; exact this

/-- where parties that hold have an odd one, there are no calm mates -/
theorem odd_no_calm {W : List (List Int)} (wok : WOk W) {A : List Nat} (ok : AOk A) (hl : W.length = A.length) (h : LawHold W A) (ho : (roundsF A).any oddR = true) : calmW W = [] := by
  refine List.eq_nil_iff_forall_not_mem.mpr fun X hX => ?_
  obtain ⟨x1, x2⟩ := calmW_mem hX
  have cX := Calm.of x1 x2
  obtain ⟨R, hR, hRo⟩ := List.any_eq_true.mp ho
  rw [oddR_eq, Bool.and_eq_true, decide_eq_true_eq, decide_eq_true_eq] at hRo
  obtain ⟨f1, f2, f3⟩ := ok.ok.facts R hR
  have hlt : ∀ t, t % R.length < R.length := fun t => Nat.mod_lt _ f1
  have nxR : ∀ t, nx A (R.getD (t % R.length) 0) = R.getD ((t + 1) % R.length) 0 := fun t => by
    rw [← (f3 _ (hlt t)).2.1, Nat.mod_add_mod]
  have h3 : 2 < R.length := by omega
  refine (hold_of_law ok hl h).odd wok cX (fun t => R.getD (t % R.length) 0) (fun t => by rw [hl]; exact (f3 _ (hlt t)).1) (fun t => (nxR t).symm) (fun t => ((f3 _ (hlt t)).2.2.2.2.mp h3).1) (fun t => ((f3 _ (hlt t)).2.2.2.2.mp h3).2) (k := R.length / 2) ?_
  have : 2 * (R.length / 2) + 1 = R.length := by omega
  show R.getD ((2 * (R.length / 2) + 1) % R.length) 0 = R.getD (0 % R.length) 0
  rw [this, Nat.mod_self, Nat.zero_mod]

/-- parties of even numbers that hold, put in twos, are calm -/
theorem paired_calm {W : List (List Int)} {A : List Nat} (ok : AOk A) (hl : W.length = A.length) (h : LawHold W A) (ho : (roundsF A).any oddR = false) (b : Bool) : Calm W (pairedF A b) := by
  have bp := paired_by ok.pos ok.le ok.perm ho b
  exact (hold_of_law ok hl h).by_party (by rw [bp.len, hl]) (fun g hg e => bp.alone g (by omega) e) fun g hg j e => by
    obtain ⟨a, b, c, d⟩ := bp.mate g (by omega) j e
    exact ⟨a, b, by omega, d⟩

theorem perm_of {n : Nat} {A : List Nat} (hl : A.length = n) (hn : A.Nodup) (hlt : ∀ x ∈ A, x < n) : A.Perm (List.range n) := by
  refine (List.perm_ext_iff_of_nodup hn List.nodup_range).mpr fun x => ⟨fun hx => List.mem_range.mpr (hlt x hx), fun hx => ?_⟩
  by_cases q : x ∈ A
  · exact q
  · exfalso
    have := nodup_le (l := A) (m := (List.range n).erase x) hn fun y hy => (List.mem_erase_of_ne (fun e : y = x => q (e ▸ hy))).mpr (List.mem_range.mpr (hlt y hy))
    rw [List.length_erase_of_mem hx, List.length_range] at this
    have : 0 < n := by have := List.mem_range.mp hx; omega
    omega

/-- parties as a list -/
theorem hold_list {W : List (List Int)} (wok : WOk W) {nxt prv : Nat → Nat} (hh : Hold W nxt prv) : AOk ((List.range W.length).map nxt) ∧ ((List.range W.length).map nxt).length = W.length ∧ LawHold W ((List.range W.length).map nxt) := by
  have len : ((List.range W.length).map nxt).length = W.length := by simp
  have nd : ((List.range W.length).map nxt).Nodup := nodup_mapF nxt List.nodup_range fun x hx y hy e => by
    rw [← (hh.np x (by simpa using hx)).2, e, (hh.np y (by simpa using hy)).2]
  have ok : AOk ((List.range W.length).map nxt) := by
    refine ⟨by rw [len]; exact wok.pos, by rw [len]; exact wok.le, ?_⟩
    rw [len]
    refine perm_of len nd fun x hx => ?_
    obtain ⟨i, hi, rfl⟩ := List.mem_map.mp hx
    exact (hh.lt i (by simpa using hi)).1
  have enx : ∀ i, i < W.length → nx ((List.range W.length).map nxt) i = nxt i := fun i hi => by
    rw [nx_get, List.getD_eq_getElem?_getD, List.getElem?_map, List.getElem?_range hi]; rfl
  have eix : ∀ i, i < W.length → ((List.range W.length).map nxt).idxOf i = prv i := fun i hi => by
    have h1 := (nx_idx ok (g := i) (by rw [len]; exact hi)).1
    have h2 := idx_lt ok (g := i) (by rw [len]; exact hi)
    rw [len] at h2
    rw [enx _ h2] at h1
    rw [← (hh.np _ h2).2, h1]
  generalize (List.range W.length).map nxt = A at *
  have epv : ∀ i, i < W.length → pv (nx A) (fun i => A.idxOf i) i = pv nxt prv i := fun i hi => by show (if nx A i = i then none else some (A.idxOf i)) = _; rw [enx i hi, eix i hi]; rfl
  have h2 : Hold W (nx A) (fun i => A.idxOf i) := by
    refine ⟨fun i hi => ?_, fun i hi => nx_idx ok (by omega), fun i hi => ?_, fun i hi a b => ?_, fun i j hi hj hne a b => ?_⟩
    · show nx A i < _ ∧ A.idxOf i < _; rw [enx i hi, eix i hi]; exact hh.lt i hi
    · rw [enx i hi]; exact hh.suit i hi
    · rw [enx i hi] at a b ⊢
      rw [enx _ (hh.lt i hi).1] at b
      rw [eix i hi]; exact hh.pref i hi a b
    · rw [epv i hi] at a
      rw [epv j hj] at b
      exact hh.calm i j hi hj hne a b
  exact ⟨ok, len, law_of_hold len.symm h2⟩

/-- Tan: where there are no calm mates, parties that hold with an odd one are -/
theorem party_ex {W : List (List Int)} (wok : WOk W) (hc : calmW W = []) : ∃ A, AOk A ∧ A.length = W.length ∧ LawHold W A ∧ (roundsF A).any oddR = true := by
  obtain ⟨nxt, prv, hh⟩ := hold_ex wok
  obtain ⟨ok, len, hL⟩ := hold_list wok hh
  refine ⟨_, ok, len, hL, ?_⟩
  cases ho : (roundsF ((List.range W.length).map nxt)).any oddR with
  | true => rfl
  | false =>
    have := calmW_all wok (paired_calm ok len.symm hL ho false)
    rw [hc] at this; cases this

noncomputable def extTo (row : List Nat) (j : Nat) : List (List Nat) := ((List.range j).filter fun g => !decide (g ∈ row)).map fun g => row ++ [g]
noncomputable def ordTo (m : Nat) : Nat → List (List Nat)
  | 0 => [[]]
  | k + 1 => (ordTo m k).flatMap fun row => extTo row m

theorem ext_len (row : List Nat) (j : Nat) : (extTo row j).length ≤ j := by
  unfold extTo; rw [List.length_map]; exact Nat.le_trans (List.length_filter_le _ _) (by simp)
theorem ext_succ (row : List Nat) (j : Nat) : extTo row (j + 1) = extTo row j ++ (if j ∈ row then [] else [row ++ [j]]) := by
  unfold extTo
  rw [List.range_succ, List.filter_append, List.map_append]
  congr 1
  by_cases h : j ∈ row <;> simp [h]
theorem ord_len (m : Nat) : ∀ k, (ordTo m k).length ≤ m ^ k
  | 0 => by simp [ordTo]
  | k + 1 => by
    rw [ordTo, List.length_flatMap, Nat.pow_succ]
    refine Nat.le_trans (sum_le_mul (c := m) fun r _ => ext_len r m) (Nat.mul_le_mul_right _ (ord_len m k))
theorem mem_ord {m : Nat} : ∀ {k : Nat} {r : List Nat}, r ∈ ordTo m k ↔ r.length = k ∧ r.Nodup ∧ ∀ x ∈ r, x < m
  | 0, r => by
    rw [ordTo, List.mem_singleton]
    constructor
    · rintro rfl; simp
    · rintro ⟨h, _⟩; exact List.length_eq_zero_iff.mp h
  | k + 1, r => by
    rw [ordTo, List.mem_flatMap]
    constructor
    · rintro ⟨r', hr', h⟩
      obtain ⟨h1, h2, h3⟩ := mem_ord.mp hr'
      unfold extTo at h
      obtain ⟨g, hg, rfl⟩ := List.mem_map.mp h
      obtain ⟨g1, g2⟩ := List.mem_filter.mp hg
      have g2 : g ∉ r' := by simpa using g2
      have g1 : g < m := by simpa using g1
      refine ⟨by simp [h1], ?_, fun x hx => ?_⟩
      · rw [List.nodup_append]
        exact ⟨h2, by simp, fun a ha b hb => by simp at hb; subst hb; rintro rfl; exact g2 ha⟩
      · rcases List.mem_append.mp hx with hx | hx
        · exact h3 x hx
        · simp at hx; omega
    · rintro ⟨h1, h2, h3⟩
      rcases List.eq_nil_or_concat r with rfl | ⟨r', g, rfl⟩
      · simp at h1
      · rw [List.concat_eq_append] at h1 h2 h3 ⊢
        rw [List.nodup_append] at h2
        refine ⟨r', mem_ord.mpr ⟨by simpa using h1, h2.1, fun x hx => h3 x (List.mem_append_left _ hx)⟩, ?_⟩
        unfold extTo
        refine List.mem_map.mpr ⟨g, List.mem_filter.mpr ⟨List.mem_range.mpr (h3 g (by simp)), ?_⟩, rfl⟩
        have : g ∉ r' := fun hg => h2.2.2 g hg g (by simp) rfl
        simp [this]
theorem ord_ok {m : Nat} (h1 : 1 ≤ m) (h6 : m ≤ 6) {A : List Nat} (h : A ∈ ordTo m m) : AOk A ∧ A.length = m := by
  obtain ⟨a, b, c⟩ := mem_ord.mp h
  exact ⟨⟨by omega, by omega, by rw [a]; exact perm_of a b c⟩, a⟩
theorem ord_mem {A : List Nat} (ok : AOk A) : A ∈ ordTo A.length A.length := mem_ord.mpr ⟨rfl, ok.nodup, fun _ hx => ok.lt hx⟩
theorem ord_few {m k : Nat} (h6 : m ≤ 6) (hk : k ≤ 6) : (ordTo m k).length ≤ 46656 :=
  Nat.le_trans (ord_len m k) (Nat.le_trans (Nat.pow_le_pow_left h6 k) (Nat.le_trans (Nat.pow_le_pow_right (by decide) hk) (by decide)))

section
variable {P : Prog} {b : Bool} {n : Nat} {H : Hp} {Q : Post} {X : XP}

theorem wS_forR_var {C : Ctx} {x y : String} {body : List S} {ρ : Env} {k : SPost} {X : SXP} {m : Nat} (hy : ρ y = some (.int (m : Int))) (hm : m ≤ lim) (h : wFor (fun _ => True) (fun v ρ' H' k' => wSs C body (ρ'.set x v) H' k' X) (rng m) ρ H k) : wS C (.forR x [.var y] body) ρ H k X := by
  simp only [s_forR, es_cons, es_nil, e_var, hy, oE_some, range_nat hm, rangeI_rng]; exact h
theorem wS_forS_var {C : Ctx} {x y : String} {body : List S} {ρ : Env} {k : SPost} {X : SXP} {a : Nat} {items : List V} (hy : ρ y = some (.ref a)) (ha : seqOf H a = some items) (h : wFor (fun H' => H'[a]? = H[a]?) (fun v ρ' H' k' => wSs C body (ρ'.set x v) H' k' X) items ρ H k) : wS C (.forS x (.var y) body) ρ H k X := by
  simp only [s_forS, e_var, hy, oE_some, os_ref, ha, Option.map_some]; exact h

theorem s_orders (hP : P.fn "orders" = some f_orders) {m : Nat} (h6 : m ≤ 6) (h : ∀ H' r, H <+: H' → H.length ≤ r → WN H' r (ordTo m m) → Q (.ref r) H') : callN P b (n + 1) "orders" [.int (m : Int)] H Q X := by
  have hml : m ≤ lim := Nat.le_trans h6 (by decide)
  (refine callN_in hP rfl ?_; unfold f_orders)
  refine wSs_step fun K hn hr => ?_
  (repeat (first | dsimp only [XI, XJ] | dsimp only [ZA,ZB,ZC,ZD,ZE,ZF,ZG,ZH,ZI,ZJ,ZK,ZL,ZM,ZN,ZO,ZP,ZQ,ZR,ZS,ZT,ZU,ZV,ZW,ZX,ZY,ZZ,Za,Zb,Zc,Zd,Ze,Zf,Zg,Zh,Zi,Zj,Zk,Zl,Zm,Zn,Zo,Zp,Zq,Zr,Zs,Zt,Zu,Zv,Zw,Zx,Zy,Zz,YA,YB,YC,YD,YE,YF,YG,YH,YI,YJ,YK,YL,YM,YN,YO,YP,YQ,YR,Env.set,cond_true,cond_false,String.reduceBEq,YS,YT,YU,YV,YW,YX,YY,YZ,Ya,Yb,Yc,Yd,Ye,Yf] | simp only [Yg,Yh,true_and,Yi,Yj,Yk,Yl,Ym,Yn,Yo,Yp,Yq,Yr,Yt,Yu,Yv,Yw,Yx,Yy,Yz,XA,XB,XC,XD,XE,beq_self_eq_true,reduceIte,reduceCtorEq,↓reduceIte,XF,XG,XH]))
  refine hn _ _ ?_
  clear hn hr K
  refine wSs_step fun K hn hr => ?_
  refine wS_forR_var (m := m) (by (repeat (first | dsimp only [XI, XJ] | dsimp only [ZA,ZB,ZC,ZD,ZE,ZF,ZG,ZH,ZI,ZJ,ZK,ZL,ZM,ZN,ZO,ZP,ZQ,ZR,ZS,ZT,ZU,ZV,ZW,ZX,ZY,ZZ,Za,Zb,Zc,Zd,Ze,Zf,Zg,Zh,Zi,Zj,Zk,Zl,Zm,Zn,Zo,Zp,Zq,Zr,Zs,Zt,Zu,Zv,Zw,Zx,Zy,Zz,YA,YB,YC,YD,YE,YF,YG,YH,YI,YJ,YK,YL,YM,YN,YO,YP,YQ,YR,Env.set,cond_true,cond_false,String.reduceBEq,YS,YT,YU,YV,YW,YX,YY,YZ,Ya,Yb,Yc,Yd,Ye,Yf] | simp only [Yg,Yh,true_and,Yi,Yj,Yk,Yl,Ym,Yn,Yo,Yp,Yq,Yr,Yt,Yu,Yv,Yw,Yx,Yy,Yz,XA,XB,XC,XD,XE,beq_self_eq_true,reduceIte,reduceCtorEq,↓reduceIte,XF,XG,XH]))) hml ?_
  refine wFor_idx (fun k ρ H' => ∃ r, H <+: H' ∧ H.length ≤ r ∧ WN H' r (ordTo m k) ∧ ρ "many" = some (.int (m : Int)) ∧ ρ "rows" = some (.ref r)) ⟨_, (pre_new _ _).trans (pre_new _ _), by simp, ⟨[.ref H.length], get_new _ _, .cons ⟨_, rfl, by simp [LI, ci]⟩ .nil⟩, by (repeat (first | dsimp only [XI, XJ] | dsimp only [ZA,ZB,ZC,ZD,ZE,ZF,ZG,ZH,ZI,ZJ,ZK,ZL,ZM,ZN,ZO,ZP,ZQ,ZR,ZS,ZT,ZU,ZV,ZW,ZX,ZY,ZZ,Za,Zb,Zc,Zd,Ze,Zf,Zg,Zh,Zi,Zj,Zk,Zl,Zm,Zn,Zo,Zp,Zq,Zr,Zs,Zt,Zu,Zv,Zw,Zx,Zy,Zz,YA,YB,YC,YD,YE,YF,YG,YH,YI,YJ,YK,YL,YM,YN,YO,YP,YQ,YR,Env.set,cond_true,cond_false,String.reduceBEq,YS,YT,YU,YV,YW,YX,YY,YZ,Ya,Yb,Yc,Yd,Ye,Yf] | simp only [Yg,Yh,true_and,Yi,Yj,Yk,Yl,Ym,Yn,Yo,Yp,Yq,Yr,Yt,Yu,Yv,Yw,Yx,Yy,Yz,XA,XB,XC,XD,XE,beq_self_eq_true,reduceIte,reduceCtorEq,↓reduceIte,XF,XG,XH])), by (repeat (first | dsimp only [XI, XJ] | dsimp only [ZA,ZB,ZC,ZD,ZE,ZF,ZG,ZH,ZI,ZJ,ZK,ZL,ZM,ZN,ZO,ZP,ZQ,ZR,ZS,ZT,ZU,ZV,ZW,ZX,ZY,ZZ,Za,Zb,Zc,Zd,Ze,Zf,Zg,Zh,Zi,Zj,Zk,Zl,Zm,Zn,Zo,Zp,Zq,Zr,Zs,Zt,Zu,Zv,Zw,Zx,Zy,Zz,YA,YB,YC,YD,YE,YF,YG,YH,YI,YJ,YK,YL,YM,YN,YO,YP,YQ,YR,Env.set,cond_true,cond_false,String.reduceBEq,YS,YT,YU,YV,YW,YX,YY,YZ,Ya,Yb,Yc,Yd,Ye,Yf] | simp only [Yg,Yh,true_and,Yi,Yj,Yk,Yl,Ym,Yn,Yo,Yp,Yq,Yr,Yt,Yu,Yv,Yw,Yx,Yy,Yz,XA,XB,XC,XD,XE,beq_self_eq_true,reduceIte,reduceCtorEq,↓reduceIte,XF,XG,XH]))⟩ (fun k v ρ H1 hv hI => ⟨trivial, fun k' h1 h2 => ?_⟩) fun ρ H1 hI => ⟨trivial, ?_⟩
  · obtain ⟨hk, rfl⟩ := rng_get hv
    obtain ⟨r, hp, hrl, hw, e1, e2⟩ := hI
    have few := ord_few (m := m) (k := k + 1) h6 (by omega)
    refine wSs_step fun K1 hk1 hk2 => ?_
    (repeat (first | dsimp only [XI, XJ] | dsimp only [ZA,ZB,ZC,ZD,ZE,ZF,ZG,ZH,ZI,ZJ,ZK,ZL,ZM,ZN,ZO,ZP,ZQ,ZR,ZS,ZT,ZU,ZV,ZW,ZX,ZY,ZZ,Za,Zb,Zc,Zd,Ze,Zf,Zg,Zh,Zi,Zj,Zk,Zl,Zm,Zn,Zo,Zp,Zq,Zr,Zs,Zt,Zu,Zv,Zw,Zx,Zy,Zz,YA,YB,YC,YD,YE,YF,YG,YH,YI,YJ,YK,YL,YM,YN,YO,YP,YQ,YR,Env.set,cond_true,cond_false,String.reduceBEq,YS,YT,YU,YV,YW,YX,YY,YZ,Ya,Yb,Yc,Yd,Ye,Yf] | simp only [Yg,Yh,true_and,Yi,Yj,Yk,Yl,Ym,Yn,Yo,Yp,Yq,Yr,Yt,Yu,Yv,Yw,Yx,Yy,Yz,XA,XB,XC,XD,XE,beq_self_eq_true,reduceIte,reduceCtorEq,↓reduceIte,XF,XG,XH]))
    refine hk1 _ _ (wSs_step fun K2 hk3 hk4 => ?_)
    clear hk1 hk2 K1
    obtain ⟨fs, g1, g2, g3⟩ := hw.at
    have hrlt : r < H1.length := (List.getElem?_eq_some_iff.mp g1).1
    have hp1 : H1 <+: H1 ++ [.list []] := pre_new _ _
    have hfl : FL (H1 ++ [.list []]) (H1 ++ [O.list []]).length H1.length [] := ⟨by simp, [], get_new _ _, .nil⟩
    have hkp : ∀ j, j < H1.length → (H1 ++ [O.list []])[j]? = H1[j]? := fun j hj => List.getElem?_append_left hj
    generalize H1 ++ [O.list []] = H2 at *
    refine wS_forS_var (a := r) (by (repeat (first | dsimp only [XI, XJ] | dsimp only [ZA,ZB,ZC,ZD,ZE,ZF,ZG,ZH,ZI,ZJ,ZK,ZL,ZM,ZN,ZO,ZP,ZQ,ZR,ZS,ZT,ZU,ZV,ZW,ZX,ZY,ZZ,Za,Zb,Zc,Zd,Ze,Zf,Zg,Zh,Zi,Zj,Zk,Zl,Zm,Zn,Zo,Zp,Zq,Zr,Zs,Zt,Zu,Zv,Zw,Zx,Zy,Zz,YA,YB,YC,YD,YE,YF,YG,YH,YI,YJ,YK,YL,YM,YN,YO,YP,YQ,YR,Env.set,cond_true,cond_false,String.reduceBEq,YS,YT,YU,YV,YW,YX,YY,YZ,Ya,Yb,Yc,Yd,Ye,Yf] | simp only [Yg,Yh,true_and,Yi,Yj,Yk,Yl,Ym,Yn,Yo,Yp,Yq,Yr,Yt,Yu,Yv,Yw,Yx,Yy,Yz,XA,XB,XC,XD,XE,beq_self_eq_true,reduceIte,reduceCtorEq,↓reduceIte,XF,XG,XH, e2]))) (seqOf_list (pre_get hp1 g1)) ?_
    refine wFor_idx (fun i ρ H' => FL H' H'.length H1.length ((((ordTo m k).take i).flatMap fun row => extTo row m).map ci) ∧ (∀ j, j < H1.length → H'[j]? = H1[j]?) ∧ ρ "many" = some (.int (m : Int)) ∧ ρ "longer" = some (.ref H1.length)) ⟨hfl, hkp, by (repeat (first | dsimp only [XI, XJ] | dsimp only [ZA,ZB,ZC,ZD,ZE,ZF,ZG,ZH,ZI,ZJ,ZK,ZL,ZM,ZN,ZO,ZP,ZQ,ZR,ZS,ZT,ZU,ZV,ZW,ZX,ZY,ZZ,Za,Zb,Zc,Zd,Ze,Zf,Zg,Zh,Zi,Zj,Zk,Zl,Zm,Zn,Zo,Zp,Zq,Zr,Zs,Zt,Zu,Zv,Zw,Zx,Zy,Zz,YA,YB,YC,YD,YE,YF,YG,YH,YI,YJ,YK,YL,YM,YN,YO,YP,YQ,YR,Env.set,cond_true,cond_false,String.reduceBEq,YS,YT,YU,YV,YW,YX,YY,YZ,Ya,Yb,Yc,Yd,Ye,Yf] | simp only [Yg,Yh,true_and,Yi,Yj,Yk,Yl,Ym,Yn,Yo,Yp,Yq,Yr,Yt,Yu,Yv,Yw,Yx,Yy,Yz,XA,XB,XC,XD,XE,beq_self_eq_true,reduceIte,reduceCtorEq,↓reduceIte,XF,XG,XH, e1])), by (repeat (first | dsimp only [XI, XJ] | dsimp only [ZA,ZB,ZC,ZD,ZE,ZF,ZG,ZH,ZI,ZJ,ZK,ZL,ZM,ZN,ZO,ZP,ZQ,ZR,ZS,ZT,ZU,ZV,ZW,ZX,ZY,ZZ,Za,Zb,Zc,Zd,Ze,Zf,Zg,Zh,Zi,Zj,Zk,Zl,Zm,Zn,Zo,Zp,Zq,Zr,Zs,Zt,Zu,Zv,Zw,Zx,Zy,Zz,YA,YB,YC,YD,YE,YF,YG,YH,YI,YJ,YK,YL,YM,YN,YO,YP,YQ,YR,Env.set,cond_true,cond_false,String.reduceBEq,YS,YT,YU,YV,YW,YX,YY,YZ,Ya,Yb,Yc,Yd,Ye,Yf] | simp only [Yg,Yh,true_and,Yi,Yj,Yk,Yl,Ym,Yn,Yo,Yp,Yq,Yr,Yt,Yu,Yv,Yw,Yx,Yy,Yz,XA,XB,XC,XD,XE,beq_self_eq_true,reduceIte,reduceCtorEq,↓reduceIte,XF,XG,XH]))⟩ (fun i v ρ H3 hv hI => ?_) fun ρ H3 hI => ?_
    · obtain ⟨fl, hkeep, f1, f2⟩ := hI
      refine ⟨by rw [hkeep r hrlt, hkp r hrlt], fun k'' h1' h2' => ?_⟩
      obtain ⟨c, R, rfl, hRi, hRc⟩ := g3 i v hv
      have hcl : c < H1.length := (List.getElem?_eq_some_iff.mp hRc).1
      have hRm := mem_ord.mp (List.mem_of_getElem? hRi)
      have part : ∀ j, j ≤ m → ((((ordTo m k).take i).flatMap fun row => extTo row m) ++ extTo R j).length ≤ 46656 := fun j hj => by
        refine Nat.le_trans ?_ few
        rw [ordTo]
        have : ((ordTo m k).take (i + 1)).flatMap (fun row => extTo row m) = (((ordTo m k).take i).flatMap fun row => extTo row m) ++ extTo R m := by
          rw [take_snoc hRi, List.flatMap_append]; simp
        have hle : (((ordTo m k).take (i + 1)).flatMap (fun row => extTo row m)).length ≤ ((ordTo m k).flatMap fun row => extTo row m).length := by
          conv => rhs; rw [← List.take_append_drop (i + 1) (ordTo m k), List.flatMap_append, List.length_append]
          omega
        rw [this] at hle
        refine Nat.le_trans ?_ hle
        rw [List.length_append, List.length_append]
        have : (extTo R j).length ≤ (extTo R m).length := by
          unfold extTo; rw [List.length_map, List.length_map]
          exact (((List.range_sublist.mpr hj).filter _)).length_le
        omega
      (repeat (first | dsimp only [XI, XJ] | dsimp only [ZA,ZB,ZC,ZD,ZE,ZF,ZG,ZH,ZI,ZJ,ZK,ZL,ZM,ZN,ZO,ZP,ZQ,ZR,ZS,ZT,ZU,ZV,ZW,ZX,ZY,ZZ,Za,Zb,Zc,Zd,Ze,Zf,Zg,Zh,Zi,Zj,Zk,Zl,Zm,Zn,Zo,Zp,Zq,Zr,Zs,Zt,Zu,Zv,Zw,Zx,Zy,Zz,YA,YB,YC,YD,YE,YF,YG,YH,YI,YJ,YK,YL,YM,YN,YO,YP,YQ,YR,Env.set,cond_true,cond_false,String.reduceBEq,YS,YT,YU,YV,YW,YX,YY,YZ,Ya,Yb,Yc,Yd,Ye,Yf] | simp only [Yg,Yh,true_and,Yi,Yj,Yk,Yl,Ym,Yn,Yo,Yp,Yq,Yr,Yt,Yu,Yv,Yw,Yx,Yy,Yz,XA,XB,XC,XD,XE,beq_self_eq_true,reduceIte,reduceCtorEq,↓reduceIte,XF,XG,XH, f1, range_nat hml]))
      refine wFor_idx (fun j ρ H' => FL H' H'.length H1.length (((((ordTo m k).take i).flatMap fun row => extTo row m) ++ extTo R j).map ci) ∧ (∀ j, j < H1.length → H'[j]? = H1[j]?) ∧ ρ "many" = some (.int (m : Int)) ∧ ρ "longer" = some (.ref H1.length) ∧ ρ "row" = some (.ref c)) ⟨by simpa [extTo] using fl, hkeep, by (repeat (first | dsimp only [XI, XJ] | dsimp only [ZA,ZB,ZC,ZD,ZE,ZF,ZG,ZH,ZI,ZJ,ZK,ZL,ZM,ZN,ZO,ZP,ZQ,ZR,ZS,ZT,ZU,ZV,ZW,ZX,ZY,ZZ,Za,Zb,Zc,Zd,Ze,Zf,Zg,Zh,Zi,Zj,Zk,Zl,Zm,Zn,Zo,Zp,Zq,Zr,Zs,Zt,Zu,Zv,Zw,Zx,Zy,Zz,YA,YB,YC,YD,YE,YF,YG,YH,YI,YJ,YK,YL,YM,YN,YO,YP,YQ,YR,Env.set,cond_true,cond_false,String.reduceBEq,YS,YT,YU,YV,YW,YX,YY,YZ,Ya,Yb,Yc,Yd,Ye,Yf] | simp only [Yg,Yh,true_and,Yi,Yj,Yk,Yl,Ym,Yn,Yo,Yp,Yq,Yr,Yt,Yu,Yv,Yw,Yx,Yy,Yz,XA,XB,XC,XD,XE,beq_self_eq_true,reduceIte,reduceCtorEq,↓reduceIte,XF,XG,XH, f1])), by (repeat (first | dsimp only [XI, XJ] | dsimp only [ZA,ZB,ZC,ZD,ZE,ZF,ZG,ZH,ZI,ZJ,ZK,ZL,ZM,ZN,ZO,ZP,ZQ,ZR,ZS,ZT,ZU,ZV,ZW,ZX,ZY,ZZ,Za,Zb,Zc,Zd,Ze,Zf,Zg,Zh,Zi,Zj,Zk,Zl,Zm,Zn,Zo,Zp,Zq,Zr,Zs,Zt,Zu,Zv,Zw,Zx,Zy,Zz,YA,YB,YC,YD,YE,YF,YG,YH,YI,YJ,YK,YL,YM,YN,YO,YP,YQ,YR,Env.set,cond_true,cond_false,String.reduceBEq,YS,YT,YU,YV,YW,YX,YY,YZ,Ya,Yb,Yc,Yd,Ye,Yf] | simp only [Yg,Yh,true_and,Yi,Yj,Yk,Yl,Ym,Yn,Yo,Yp,Yq,Yr,Yt,Yu,Yv,Yw,Yx,Yy,Yz,XA,XB,XC,XD,XE,beq_self_eq_true,reduceIte,reduceCtorEq,↓reduceIte,XF,XG,XH, f2])), by (repeat (first | dsimp only [XI, XJ] | dsimp only [ZA,ZB,ZC,ZD,ZE,ZF,ZG,ZH,ZI,ZJ,ZK,ZL,ZM,ZN,ZO,ZP,ZQ,ZR,ZS,ZT,ZU,ZV,ZW,ZX,ZY,ZZ,Za,Zb,Zc,Zd,Ze,Zf,Zg,Zh,Zi,Zj,Zk,Zl,Zm,Zn,Zo,Zp,Zq,Zr,Zs,Zt,Zu,Zv,Zw,Zx,Zy,Zz,YA,YB,YC,YD,YE,YF,YG,YH,YI,YJ,YK,YL,YM,YN,YO,YP,YQ,YR,Env.set,cond_true,cond_false,String.reduceBEq,YS,YT,YU,YV,YW,YX,YY,YZ,Ya,Yb,Yc,Yd,Ye,Yf] | simp only [Yg,Yh,true_and,Yi,Yj,Yk,Yl,Ym,Yn,Yo,Yp,Yq,Yr,Yt,Yu,Yv,Yw,Yx,Yy,Yz,XA,XB,XC,XD,XE,beq_self_eq_true,reduceIte,reduceCtorEq,↓reduceIte,XF,XG,XH]))⟩ (fun j v ρ H4 hv hI => ⟨trivial, fun k3 h3 h4 => ?_⟩) fun ρ H4 hI => ⟨trivial, ?_⟩
      · obtain ⟨hj, rfl⟩ := rng_get hv
        obtain ⟨fl, hkeep, f1, f2, f3⟩ := hI
        have hR4 : LN H4 c R := by unfold LN; rw [hkeep c hcl]; exact hRc
        have hd := fl.1
        (repeat (first | dsimp only [XI, XJ] | dsimp only [ZA,ZB,ZC,ZD,ZE,ZF,ZG,ZH,ZI,ZJ,ZK,ZL,ZM,ZN,ZO,ZP,ZQ,ZR,ZS,ZT,ZU,ZV,ZW,ZX,ZY,ZZ,Za,Zb,Zc,Zd,Ze,Zf,Zg,Zh,Zi,Zj,Zk,Zl,Zm,Zn,Zo,Zp,Zq,Zr,Zs,Zt,Zu,Zv,Zw,Zx,Zy,Zz,YA,YB,YC,YD,YE,YF,YG,YH,YI,YJ,YK,YL,YM,YN,YO,YP,YQ,YR,Env.set,cond_true,cond_false,String.reduceBEq,YS,YT,YU,YV,YW,YX,YY,YZ,Ya,Yb,Yc,Yd,Ye,Yf] | simp only [Yg,Yh,true_and,Yi,Yj,Yk,Yl,Ym,Yn,Yo,Yp,Yq,Yr,Yt,Yu,Yv,Yw,Yx,Yy,Yz,XA,XB,XC,XD,XE,beq_self_eq_true,reduceIte,reduceCtorEq,↓reduceIte,XF,XG,XH, f3, hR4.mem j]))
        refine ⟨fun q => ?_, fun q => ?_⟩
        · have q : j ∉ R := by simpa using q
          have hR5 := hR4.pre (pre_new H4 (.list [.int (j : Int)]))
          have hnew := get_new H4 (.list [.int (j : Int)])
          have hadd : addV (.ref c) (.ref H4.length) (H4 ++ [O.list [.int (j : Int)]]) = some (.ref (H4 ++ [O.list [.int (j : Int)]]).length, H4 ++ [O.list [.int (j : Int)]] ++ [.list ((R ++ [j]).map fun i : Nat => V.int (i : Int))]) := by
            rw [add_at hR5 hnew (by rw [List.length_map]; simp [lim]; omega)]
            simp
          have hl6 : LN (H4 ++ [O.list [.int (j : Int)]] ++ [.list ((R ++ [j]).map fun i : Nat => V.int (i : Int))]) (H4 ++ [O.list [.int (j : Int)]]).length (R ++ [j]) := LN.new _ _
          have hp6 : H4 <+: H4 ++ [O.list [.int (j : Int)]] ++ [.list ((R ++ [j]).map fun i : Nat => V.int (i : Int))] := (pre_new _ _).trans (pre_new _ _)
          have hlen6 : (H4 ++ [O.list [V.int (j : Int)]] ++ [O.list ((R ++ [j]).map fun i : Nat => V.int (i : Int))]).length = (H4 ++ [O.list [V.int (j : Int)]]).length + 1 := by simp
          have hlen5 : H4.length ≤ (H4 ++ [O.list [V.int (j : Int)]]).length := by simp
          have hk6 : ∀ i, i < H4.length → (H4 ++ [O.list [V.int (j : Int)]] ++ [O.list ((R ++ [j]).map fun i : Nat => V.int (i : Int))])[i]? = H4[i]? := fun i hi => by rw [List.append_assoc, List.getElem?_append_left hi]
          have recv := fl.recv
          generalize (H4 ++ [O.list [V.int (j : Int)]]).length = d' at *
          generalize H4 ++ [O.list [V.int (j : Int)]] ++ [O.list ((R ++ [j]).map fun i : Nat => V.int (i : Int))] = H6 at *
          obtain ⟨H7, p1, p2, p3, p4⟩ := ((fl.keep hk6).up hlen5).push hl6.li (by rw [List.length_map]; have := part j (by omega); unfold lim; omega)
          (repeat (first | dsimp only [XI, XJ] | dsimp only [ZA,ZB,ZC,ZD,ZE,ZF,ZG,ZH,ZI,ZJ,ZK,ZL,ZM,ZN,ZO,ZP,ZQ,ZR,ZS,ZT,ZU,ZV,ZW,ZX,ZY,ZZ,Za,Zb,Zc,Zd,Ze,Zf,Zg,Zh,Zi,Zj,Zk,Zl,Zm,Zn,Zo,Zp,Zq,Zr,Zs,Zt,Zu,Zv,Zw,Zx,Zy,Zz,YA,YB,YC,YD,YE,YF,YG,YH,YI,YJ,YK,YL,YM,YN,YO,YP,YQ,YR,Env.set,cond_true,cond_false,String.reduceBEq,YS,YT,YU,YV,YW,YX,YY,YZ,Ya,Yb,Yc,Yd,Ye,Yf] | simp only [Yg,Yh,true_and,Yi,Yj,Yk,Yl,Ym,Yn,Yo,Yp,Yq,Yr,Yt,Yu,Yv,Yw,Yx,Yy,Yz,XA,XB,XC,XD,XE,beq_self_eq_true,reduceIte,reduceCtorEq,↓reduceIte,XF,XG,XH, f2, f3, recv, hadd, p1]))
          refine h3 _ _ ⟨?_, fun i hi => by rw [p4 i (by omega), hk6 i (by omega), hkeep i hi], by (repeat (first | dsimp only [XI, XJ] | dsimp only [ZA,ZB,ZC,ZD,ZE,ZF,ZG,ZH,ZI,ZJ,ZK,ZL,ZM,ZN,ZO,ZP,ZQ,ZR,ZS,ZT,ZU,ZV,ZW,ZX,ZY,ZZ,Za,Zb,Zc,Zd,Ze,Zf,Zg,Zh,Zi,Zj,Zk,Zl,Zm,Zn,Zo,Zp,Zq,Zr,Zs,Zt,Zu,Zv,Zw,Zx,Zy,Zz,YA,YB,YC,YD,YE,YF,YG,YH,YI,YJ,YK,YL,YM,YN,YO,YP,YQ,YR,Env.set,cond_true,cond_false,String.reduceBEq,YS,YT,YU,YV,YW,YX,YY,YZ,Ya,Yb,Yc,Yd,Ye,Yf] | simp only [Yg,Yh,true_and,Yi,Yj,Yk,Yl,Ym,Yn,Yo,Yp,Yq,Yr,Yt,Yu,Yv,Yw,Yx,Yy,Yz,XA,XB,XC,XD,XE,beq_self_eq_true,reduceIte,reduceCtorEq,↓reduceIte,XF,XG,XH, f1])), by (repeat (first | dsimp only [XI, XJ] | dsimp only [ZA,ZB,ZC,ZD,ZE,ZF,ZG,ZH,ZI,ZJ,ZK,ZL,ZM,ZN,ZO,ZP,ZQ,ZR,ZS,ZT,ZU,ZV,ZW,ZX,ZY,ZZ,Za,Zb,Zc,Zd,Ze,Zf,Zg,Zh,Zi,Zj,Zk,Zl,Zm,Zn,Zo,Zp,Zq,Zr,Zs,Zt,Zu,Zv,Zw,Zx,Zy,Zz,YA,YB,YC,YD,YE,YF,YG,YH,YI,YJ,YK,YL,YM,YN,YO,YP,YQ,YR,Env.set,cond_true,cond_false,String.reduceBEq,YS,YT,YU,YV,YW,YX,YY,YZ,Ya,Yb,Yc,Yd,Ye,Yf] | simp only [Yg,Yh,true_and,Yi,Yj,Yk,Yl,Ym,Yn,Yo,Yp,Yq,Yr,Yt,Yu,Yv,Yw,Yx,Yy,Yz,XA,XB,XC,XD,XE,beq_self_eq_true,reduceIte,reduceCtorEq,↓reduceIte,XF,XG,XH, f2])), by (repeat (first | dsimp only [XI, XJ] | dsimp only [ZA,ZB,ZC,ZD,ZE,ZF,ZG,ZH,ZI,ZJ,ZK,ZL,ZM,ZN,ZO,ZP,ZQ,ZR,ZS,ZT,ZU,ZV,ZW,ZX,ZY,ZZ,Za,Zb,Zc,Zd,Ze,Zf,Zg,Zh,Zi,Zj,Zk,Zl,Zm,Zn,Zo,Zp,Zq,Zr,Zs,Zt,Zu,Zv,Zw,Zx,Zy,Zz,YA,YB,YC,YD,YE,YF,YG,YH,YI,YJ,YK,YL,YM,YN,YO,YP,YQ,YR,Env.set,cond_true,cond_false,String.reduceBEq,YS,YT,YU,YV,YW,YX,YY,YZ,Ya,Yb,Yc,Yd,Ye,Yf] | simp only [Yg,Yh,true_and,Yi,Yj,Yk,Yl,Ym,Yn,Yo,Yp,Yq,Yr,Yt,Yu,Yv,Yw,Yx,Yy,Yz,XA,XB,XC,XD,XE,beq_self_eq_true,reduceIte,reduceCtorEq,↓reduceIte,XF,XG,XH, f3]))⟩
          have : extTo R (j + 1) = extTo R j ++ [R ++ [j]] := by rw [ext_succ, if_neg q]
          rw [this, ← List.append_assoc, List.map_append]
          exact p2.up (by omega)
        · have q : j ∈ R := by simpa using q
          refine h3 _ _ ⟨?_, hkeep, by (repeat (first | dsimp only [XI, XJ] | dsimp only [ZA,ZB,ZC,ZD,ZE,ZF,ZG,ZH,ZI,ZJ,ZK,ZL,ZM,ZN,ZO,ZP,ZQ,ZR,ZS,ZT,ZU,ZV,ZW,ZX,ZY,ZZ,Za,Zb,Zc,Zd,Ze,Zf,Zg,Zh,Zi,Zj,Zk,Zl,Zm,Zn,Zo,Zp,Zq,Zr,Zs,Zt,Zu,Zv,Zw,Zx,Zy,Zz,YA,YB,YC,YD,YE,YF,YG,YH,YI,YJ,YK,YL,YM,YN,YO,YP,YQ,YR,Env.set,cond_true,cond_false,String.reduceBEq,YS,YT,YU,YV,YW,YX,YY,YZ,Ya,Yb,Yc,Yd,Ye,Yf] | simp only [Yg,Yh,true_and,Yi,Yj,Yk,Yl,Ym,Yn,Yo,Yp,Yq,Yr,Yt,Yu,Yv,Yw,Yx,Yy,Yz,XA,XB,XC,XD,XE,beq_self_eq_true,reduceIte,reduceCtorEq,↓reduceIte,XF,XG,XH, f1])), by (repeat (first | dsimp only [XI, XJ] | dsimp only [ZA,ZB,ZC,ZD,ZE,ZF,ZG,ZH,ZI,ZJ,ZK,ZL,ZM,ZN,ZO,ZP,ZQ,ZR,ZS,ZT,ZU,ZV,ZW,ZX,ZY,ZZ,Za,Zb,Zc,Zd,Ze,Zf,Zg,Zh,Zi,Zj,Zk,Zl,Zm,Zn,Zo,Zp,Zq,Zr,Zs,Zt,Zu,Zv,Zw,Zx,Zy,Zz,YA,YB,YC,YD,YE,YF,YG,YH,YI,YJ,YK,YL,YM,YN,YO,YP,YQ,YR,Env.set,cond_true,cond_false,String.reduceBEq,YS,YT,YU,YV,YW,YX,YY,YZ,Ya,Yb,Yc,Yd,Ye,Yf] | simp only [Yg,Yh,true_and,Yi,Yj,Yk,Yl,Ym,Yn,Yo,Yp,Yq,Yr,Yt,Yu,Yv,Yw,Yx,Yy,Yz,XA,XB,XC,XD,XE,beq_self_eq_true,reduceIte,reduceCtorEq,↓reduceIte,XF,XG,XH, f2])), by (repeat (first | dsimp only [XI, XJ] | dsimp only [ZA,ZB,ZC,ZD,ZE,ZF,ZG,ZH,ZI,ZJ,ZK,ZL,ZM,ZN,ZO,ZP,ZQ,ZR,ZS,ZT,ZU,ZV,ZW,ZX,ZY,ZZ,Za,Zb,Zc,Zd,Ze,Zf,Zg,Zh,Zi,Zj,Zk,Zl,Zm,Zn,Zo,Zp,Zq,Zr,Zs,Zt,Zu,Zv,Zw,Zx,Zy,Zz,YA,YB,YC,YD,YE,YF,YG,YH,YI,YJ,YK,YL,YM,YN,YO,YP,YQ,YR,Env.set,cond_true,cond_false,String.reduceBEq,YS,YT,YU,YV,YW,YX,YY,YZ,Ya,Yb,Yc,Yd,Ye,Yf] | simp only [Yg,Yh,true_and,Yi,Yj,Yk,Yl,Ym,Yn,Yo,Yp,Yq,Yr,Yt,Yu,Yv,Yw,Yx,Yy,Yz,XA,XB,XC,XD,XE,beq_self_eq_true,reduceIte,reduceCtorEq,↓reduceIte,XF,XG,XH, f3]))⟩
          have : extTo R (j + 1) = extTo R j := by rw [ext_succ, if_pos q, List.append_nil]
          rw [this]; exact fl
      · obtain ⟨fl, hkeep, f1, f2, f3⟩ := hI
        rw [rng_len] at fl
        refine h1' _ _ ⟨?_, hkeep, f1, f2⟩
        rw [take_snoc hRi, List.flatMap_append]
        simpa using fl
    · obtain ⟨fl, hkeep, f1, f2⟩ := hI
      refine ⟨by rw [hkeep r hrlt, hkp r hrlt], ?_⟩
      rw [g2, List.take_length] at fl
      refine hk3 _ _ ?_
      (repeat (first | dsimp only [XI, XJ] | dsimp only [ZA,ZB,ZC,ZD,ZE,ZF,ZG,ZH,ZI,ZJ,ZK,ZL,ZM,ZN,ZO,ZP,ZQ,ZR,ZS,ZT,ZU,ZV,ZW,ZX,ZY,ZZ,Za,Zb,Zc,Zd,Ze,Zf,Zg,Zh,Zi,Zj,Zk,Zl,Zm,Zn,Zo,Zp,Zq,Zr,Zs,Zt,Zu,Zv,Zw,Zx,Zy,Zz,YA,YB,YC,YD,YE,YF,YG,YH,YI,YJ,YK,YL,YM,YN,YO,YP,YQ,YR,Env.set,cond_true,cond_false,String.reduceBEq,YS,YT,YU,YV,YW,YX,YY,YZ,Ya,Yb,Yc,Yd,Ye,Yf] | simp only [Yg,Yh,true_and,Yi,Yj,Yk,Yl,Ym,Yn,Yo,Yp,Yq,Yr,Yt,Yu,Yv,Yw,Yx,Yy,Yz,XA,XB,XC,XD,XE,beq_self_eq_true,reduceIte,reduceCtorEq,↓reduceIte,XF,XG,XH, f2]))
      exact h1 _ _ ⟨_, hp.trans (pre_of hkeep), hp.length_le, fl.wh, by (repeat (first | dsimp only [XI, XJ] | dsimp only [ZA,ZB,ZC,ZD,ZE,ZF,ZG,ZH,ZI,ZJ,ZK,ZL,ZM,ZN,ZO,ZP,ZQ,ZR,ZS,ZT,ZU,ZV,ZW,ZX,ZY,ZZ,Za,Zb,Zc,Zd,Ze,Zf,Zg,Zh,Zi,Zj,Zk,Zl,Zm,Zn,Zo,Zp,Zq,Zr,Zs,Zt,Zu,Zv,Zw,Zx,Zy,Zz,YA,YB,YC,YD,YE,YF,YG,YH,YI,YJ,YK,YL,YM,YN,YO,YP,YQ,YR,Env.set,cond_true,cond_false,String.reduceBEq,YS,YT,YU,YV,YW,YX,YY,YZ,Ya,Yb,Yc,Yd,Ye,Yf] | simp only [Yg,Yh,true_and,Yi,Yj,Yk,Yl,Ym,Yn,Yo,Yp,Yq,Yr,Yt,Yu,Yv,Yw,Yx,Yy,Yz,XA,XB,XC,XD,XE,beq_self_eq_true,reduceIte,reduceCtorEq,↓reduceIte,XF,XG,XH, f1])), by (repeat (first | dsimp only [XI, XJ] | dsimp only [ZA,ZB,ZC,ZD,ZE,ZF,ZG,ZH,ZI,ZJ,ZK,ZL,ZM,ZN,ZO,ZP,ZQ,ZR,ZS,ZT,ZU,ZV,ZW,ZX,ZY,ZZ,Za,Zb,Zc,Zd,Ze,Zf,Zg,Zh,Zi,Zj,Zk,Zl,Zm,Zn,Zo,Zp,Zq,Zr,Zs,Zt,Zu,Zv,Zw,Zx,Zy,Zz,YA,YB,YC,YD,YE,YF,YG,YH,YI,YJ,YK,YL,YM,YN,YO,YP,YQ,YR,Env.set,cond_true,cond_false,String.reduceBEq,YS,YT,YU,YV,YW,YX,YY,YZ,Ya,Yb,Yc,Yd,Ye,Yf] | simp only [Yg,Yh,true_and,Yi,Yj,Yk,Yl,Ym,Yn,Yo,Yp,Yq,Yr,Yt,Yu,Yv,Yw,Yx,Yy,Yz,XA,XB,XC,XD,XE,beq_self_eq_true,reduceIte,reduceCtorEq,↓reduceIte,XF,XG,XH]))⟩
  · obtain ⟨r, hp, hrl, hw, e1, e2⟩ := hI
    rw [rng_len] at hw
    refine hn _ _ ?_
    (repeat (first | dsimp only [XI, XJ] | dsimp only [ZA,ZB,ZC,ZD,ZE,ZF,ZG,ZH,ZI,ZJ,ZK,ZL,ZM,ZN,ZO,ZP,ZQ,ZR,ZS,ZT,ZU,ZV,ZW,ZX,ZY,ZZ,Za,Zb,Zc,Zd,Ze,Zf,Zg,Zh,Zi,Zj,Zk,Zl,Zm,Zn,Zo,Zp,Zq,Zr,Zs,Zt,Zu,Zv,Zw,Zx,Zy,Zz,YA,YB,YC,YD,YE,YF,YG,YH,YI,YJ,YK,YL,YM,YN,YO,YP,YQ,YR,Env.set,cond_true,cond_false,String.reduceBEq,YS,YT,YU,YV,YW,YX,YY,YZ,Ya,Yb,Yc,Yd,Ye,Yf] | simp only [Yg,Yh,true_and,Yi,Yj,Yk,Yl,Ym,Yn,Yo,Yp,Yq,Yr,Yt,Yu,Yv,Yw,Yx,Yy,Yz,XA,XB,XC,XD,XE,beq_self_eq_true,reduceIte,reduceCtorEq,↓reduceIte,XF,XG,XH, e2]))
    exact h _ _ hp hrl hw

theorem mapM_asBool : ∀ (l : List Bool), (l.map V.bool).mapM asBool = some l
  | [] => rfl
  | i :: l => by rw [List.map_cons, List.mapM_cons, mapM_asBool l]; rfl
theorem mem_tup (H : Hp) (x : Int) (is : List Int) : Mine.mem (H ++ [O.tuple (is.map .int)]) (.int x) (.ref H.length) = some (decide (x ∈ is)) := by
  exact (mem_ref (get_new _ _)).trans (inD_ints _ x is)
theorem is_ref (a : Nat) : isSame (.ref a) .none = some false := by simp [isSame]

theorem s_has_odd (hP : P.fn "has_odd" = some f_has_odd) (hP3 : P.fn "rounds" = some f_rounds) {a : Nat} {A : List Nat} (hA : LN H a A) (ok : AOk A) (h : ∀ H', H <+: H' → Q (.bool ((roundsF A).any oddR)) H') : callN P b (n + 2) "has_odd" [.ref a] H Q X := by
  (refine callN_in hP rfl ?_; unfold f_has_odd)
  (repeat (first | dsimp only [XI, XJ] | dsimp only [ZA,ZB,ZC,ZD,ZE,ZF,ZG,ZH,ZI,ZJ,ZK,ZL,ZM,ZN,ZO,ZP,ZQ,ZR,ZS,ZT,ZU,ZV,ZW,ZX,ZY,ZZ,Za,Zb,Zc,Zd,Ze,Zf,Zg,Zh,Zi,Zj,Zk,Zl,Zm,Zn,Zo,Zp,Zq,Zr,Zs,Zt,Zu,Zv,Zw,Zx,Zy,Zz,YA,YB,YC,YD,YE,YF,YG,YH,YI,YJ,YK,YL,YM,YN,YO,YP,YQ,YR,Env.set,cond_true,cond_false,String.reduceBEq,YS,YT,YU,YV,YW,YX,YY,YZ,Ya,Yb,Yc,Yd,Ye,Yf] | simp only [Yg,Yh,true_and,Yi,Yj,Yk,Yl,Ym,Yn,Yo,Yp,Yq,Yr,Yt,Yu,Yv,Yw,Yx,Yy,Yz,XA,XB,XC,XD,XE,beq_self_eq_true,reduceIte,reduceCtorEq,↓reduceIte,XF,XG,XH]))
  refine s_rounds hP3 hA ok fun H1 r hp1 hr hwn => ?_
  obtain ⟨fs, g1, g2, g3⟩ := hwn.at
  (repeat (first | dsimp only [XI, XJ] | dsimp only [ZA,ZB,ZC,ZD,ZE,ZF,ZG,ZH,ZI,ZJ,ZK,ZL,ZM,ZN,ZO,ZP,ZQ,ZR,ZS,ZT,ZU,ZV,ZW,ZX,ZY,ZZ,Za,Zb,Zc,Zd,Ze,Zf,Zg,Zh,Zi,Zj,Zk,Zl,Zm,Zn,Zo,Zp,Zq,Zr,Zs,Zt,Zu,Zv,Zw,Zx,Zy,Zz,YA,YB,YC,YD,YE,YF,YG,YH,YI,YJ,YK,YL,YM,YN,YO,YP,YQ,YR,Env.set,cond_true,cond_false,String.reduceBEq,YS,YT,YU,YV,YW,YX,YY,YZ,Ya,Yb,Yc,Yd,Ye,Yf] | simp only [Yg,Yh,true_and,Yi,Yj,Yk,Yl,Ym,Yn,Yo,Yp,Yq,Yr,Yt,Yu,Yv,Yw,Yx,Yy,Yz,XA,XB,XC,XD,XE,beq_self_eq_true,reduceIte,reduceCtorEq,↓reduceIte,XF,XG,XH, seqOf_list g1]))
  have hkeep : ∀ H' : Hp, H1 <+: H' → H'[r]? = H1[r]? := fun H' hp => by rw [g1]; exact pre_get hp g1
  refine wLoop_idx (fun i acc H' => H1 <+: H' ∧ acc = (((roundsF A).take i).map oddR).map V.bool) ⟨List.prefix_refl _, rfl⟩ (fun i v acc H' hv hI => ⟨hkeep _ hI.1, fun k' k1 k2 => ?_⟩) fun acc H' hI => ⟨hkeep _ hI.1, ?_⟩
  · obtain ⟨hp, rfl⟩ := hI
    obtain ⟨c, R, rfl, hRi, hRc⟩ := g3 i v hv
    have hl := (hRc.pre hp).len
    obtain ⟨f1, f2, f3⟩ := ok.ok.facts R (List.mem_of_getElem? hRi)
    have h6 := ok.le
    have em : Mine.mem (H' ++ [O.tuple [.int 3, .int 5]]) (.int (R.length : Int)) (.ref H'.length) = some (oddR R) := by
      have := mem_tup H' (R.length : Int) [3, 5]
      rw [show ([3, 5] : List Int).map V.int = [.int 3, .int 5] from rfl] at this
      rw [this, oddR_eq]
      congr 1
      rcases le6 f1 (Nat.le_trans f2 h6) with e | e | e | e | e | e <;> rw [e] <;> rfl
    (repeat (first | dsimp only [XI, XJ] | dsimp only [ZA,ZB,ZC,ZD,ZE,ZF,ZG,ZH,ZI,ZJ,ZK,ZL,ZM,ZN,ZO,ZP,ZQ,ZR,ZS,ZT,ZU,ZV,ZW,ZX,ZY,ZZ,Za,Zb,Zc,Zd,Ze,Zf,Zg,Zh,Zi,Zj,Zk,Zl,Zm,Zn,Zo,Zp,Zq,Zr,Zs,Zt,Zu,Zv,Zw,Zx,Zy,Zz,YA,YB,YC,YD,YE,YF,YG,YH,YI,YJ,YK,YL,YM,YN,YO,YP,YQ,YR,Env.set,cond_true,cond_false,String.reduceBEq,YS,YT,YU,YV,YW,YX,YY,YZ,Ya,Yb,Yc,Yd,Ye,Yf] | simp only [Yg,Yh,true_and,Yi,Yj,Yk,Yl,Ym,Yn,Yo,Yp,Yq,Yr,Yt,Yu,Yv,Yw,Yx,Yy,Yz,XA,XB,XC,XD,XE,beq_self_eq_true,reduceIte,reduceCtorEq,↓reduceIte,XF,XG,XH, hl, em]))
    refine k1 _ _ ⟨hp.trans (pre_new _ _), ?_⟩
    rw [take_snoc hRi, List.map_append, List.map_append]; rfl
  · obtain ⟨hp, rfl⟩ := hI
    rw [g2, List.take_length]
    have hl : listOf? (H' ++ [O.list (((roundsF A).map oddR).map V.bool)]) H'.length = some (((roundsF A).map oddR).map V.bool) := by unfold listOf?; rw [get_new]
    (repeat (first | dsimp only [XI, XJ] | dsimp only [ZA,ZB,ZC,ZD,ZE,ZF,ZG,ZH,ZI,ZJ,ZK,ZL,ZM,ZN,ZO,ZP,ZQ,ZR,ZS,ZT,ZU,ZV,ZW,ZX,ZY,ZZ,Za,Zb,Zc,Zd,Ze,Zf,Zg,Zh,Zi,Zj,Zk,Zl,Zm,Zn,Zo,Zp,Zq,Zr,Zs,Zt,Zu,Zv,Zw,Zx,Zy,Zz,YA,YB,YC,YD,YE,YF,YG,YH,YI,YJ,YK,YL,YM,YN,YO,YP,YQ,YR,Env.set,cond_true,cond_false,String.reduceBEq,YS,YT,YU,YV,YW,YX,YY,YZ,Ya,Yb,Yc,Yd,Ye,Yf] | simp only [Yg,Yh,true_and,Yi,Yj,Yk,Yl,Ym,Yn,Yo,Yp,Yq,Yr,Yt,Yu,Yv,Yw,Yx,Yy,Yz,XA,XB,XC,XD,XE,beq_self_eq_true,reduceIte,reduceCtorEq,↓reduceIte,XF,XG,XH, hl, mapM_asBool]))
    have : (((roundsF A).map oddR).any id) = (roundsF A).any oddR := by rw [List.any_map]; rfl
    rw [this]
    exact h _ (hp1.trans (hp.trans (pre_new _ _)))

theorem s_dealt (hP : P.fn "dealt" = some f_dealt) (hPc : P.fn "all_calm" = some f_all_calm) (hP0 : P.fn "all_twos" = some f_all_twos) (hP1 : P.fn "need_wishes" = some f_need_wishes) (hP4 : P.fn "is_row" = some f_is_row) (hP5 : P.fn "is_guest" = some f_is_guest) (hP6 : P.fn "both_wish" = some f_both_wish) (hP7 : P.fn "settled" = some f_settled) (hG : P.glob "MOST_GUESTS" = some (.int 6))
    (hP3 : P.fn "found_restless" = some f_found_restless) (hP8 : P.fn "sooner" = some f_sooner) (hPo : P.fn "orders" = some f_orders) (hPh : P.fn "has_odd" = some f_has_odd) (hPr : P.fn "rounds" = some f_rounds) (hPa : P.fn "all_hold" = some f_all_hold) (hPb : P.fn "ring_holds" = some f_ring_holds)
    {w : Nat} {W : List (List Int)} (hw : WH H w W) (ok : WOk W)
    (h1 : ∀ H' r a M, H <+: H' → H.length ≤ r → (calmW W)[0]? = some M → H'[r]? = some (.tuple [.str (Str.ofString "twos"), .ref a]) → MT H' a M → H.length ≤ a → Q (.ref r) H')
    (h2 : ∀ H' r a A, H <+: H' → H.length ≤ r → calmW W = [] → H'[r]? = some (.tuple [.str (Str.ofString "parties"), .ref a]) → LN H' a A → AOk A → A.length = W.length → LawHold W A → (roundsF A).any oddR = true → Q (.ref r) H') : callN P b (n + 11) "dealt" [.ref w] H Q X := by
  have hlim : W.length ≤ lim := Nat.le_trans ok.le (by decide)
  (refine callN_in hP rfl ?_; unfold f_dealt)
  refine wSs_step fun K hn hr => ?_
  (repeat (first | dsimp only [XI, XJ] | dsimp only [ZA,ZB,ZC,ZD,ZE,ZF,ZG,ZH,ZI,ZJ,ZK,ZL,ZM,ZN,ZO,ZP,ZQ,ZR,ZS,ZT,ZU,ZV,ZW,ZX,ZY,ZZ,Za,Zb,Zc,Zd,Ze,Zf,Zg,Zh,Zi,Zj,Zk,Zl,Zm,Zn,Zo,Zp,Zq,Zr,Zs,Zt,Zu,Zv,Zw,Zx,Zy,Zz,YA,YB,YC,YD,YE,YF,YG,YH,YI,YJ,YK,YL,YM,YN,YO,YP,YQ,YR,Env.set,cond_true,cond_false,String.reduceBEq,YS,YT,YU,YV,YW,YX,YY,YZ,Ya,Yb,Yc,Yd,Ye,Yf] | simp only [Yg,Yh,true_and,Yi,Yj,Yk,Yl,Ym,Yn,Yo,Yp,Yq,Yr,Yt,Yu,Yv,Yw,Yx,Yy,Yz,XA,XB,XC,XD,XE,beq_self_eq_true,reduceIte,reduceCtorEq,↓reduceIte,XF,XG,XH]))
  refine s_all_calm hPc hP0 hP1 hP4 hP5 hP6 hP7 hG hP3 hP8 hw ok fun H1 c hp1 hC => ?_
  refine hn _ _ ?_
  clear hn hr K
  have hw1 := hw.pre hp1
  refine wSs_step fun K hn hr => ?_
  (repeat (first | dsimp only [XI, XJ] | dsimp only [ZA,ZB,ZC,ZD,ZE,ZF,ZG,ZH,ZI,ZJ,ZK,ZL,ZM,ZN,ZO,ZP,ZQ,ZR,ZS,ZT,ZU,ZV,ZW,ZX,ZY,ZZ,Za,Zb,Zc,Zd,Ze,Zf,Zg,Zh,Zi,Zj,Zk,Zl,Zm,Zn,Zo,Zp,Zq,Zr,Zs,Zt,Zu,Zv,Zw,Zx,Zy,Zz,YA,YB,YC,YD,YE,YF,YG,YH,YI,YJ,YK,YL,YM,YN,YO,YP,YQ,YR,Env.set,cond_true,cond_false,String.reduceBEq,YS,YT,YU,YV,YW,YX,YY,YZ,Ya,Yb,Yc,Yd,Ye,Yf] | simp only [Yg,Yh,true_and,Yi,Yj,Yk,Yl,Ym,Yn,Yo,Yp,Yq,Yr,Yt,Yu,Yv,Yw,Yx,Yy,Yz,XA,XB,XC,XD,XE,beq_self_eq_true,reduceIte,reduceCtorEq,↓reduceIte,XF,XG,XH, hC.len]))
  refine ⟨fun q => ?_, fun q => ?_⟩
  · have hpos : 0 < (calmW W).length := by simpa using q
    obtain ⟨M, hM⟩ : ∃ M, (calmW W)[0]? = some M := ⟨_, List.getElem?_eq_getElem hpos⟩
    obtain ⟨_, fs, g1, g2⟩ := hC
    obtain ⟨v, hv, a, rfl, q1, q2, q3, q4⟩ := g2.get' hM
    have hit : itemV (.ref c) (.int 0) H1 = some (.ref a) := item_seq (i := 0) (seqOf_list g1) hv
    (repeat (first | dsimp only [XI, XJ] | dsimp only [ZA,ZB,ZC,ZD,ZE,ZF,ZG,ZH,ZI,ZJ,ZK,ZL,ZM,ZN,ZO,ZP,ZQ,ZR,ZS,ZT,ZU,ZV,ZW,ZX,ZY,ZZ,Za,Zb,Zc,Zd,Ze,Zf,Zg,Zh,Zi,Zj,Zk,Zl,Zm,Zn,Zo,Zp,Zq,Zr,Zs,Zt,Zu,Zv,Zw,Zx,Zy,Zz,YA,YB,YC,YD,YE,YF,YG,YH,YI,YJ,YK,YL,YM,YN,YO,YP,YQ,YR,Env.set,cond_true,cond_false,String.reduceBEq,YS,YT,YU,YV,YW,YX,YY,YZ,Ya,Yb,Yc,Yd,Ye,Yf] | simp only [Yg,Yh,true_and,Yi,Yj,Yk,Yl,Ym,Yn,Yo,Yp,Yq,Yr,Yt,Yu,Yv,Yw,Yx,Yy,Yz,XA,XB,XC,XD,XE,beq_self_eq_true,reduceIte,reduceCtorEq,↓reduceIte,XF,XG,XH, hit]))
    exact hr _ _ _ (h1 _ _ a M (hp1.trans (pre_new _ _)) hp1.length_le hM (get_new _ _) (q4.pre (pre_new _ _)) q1)
  · have hnil : calmW W = [] := by
      have : ¬ 0 < (calmW W).length := by simpa using q
      exact List.length_eq_zero_iff.mp (by omega)
    refine hn _ _ ?_
    clear hn hr K
    refine wSs_step fun K hn hr => ?_
    (repeat (first | dsimp only [XI, XJ] | dsimp only [ZA,ZB,ZC,ZD,ZE,ZF,ZG,ZH,ZI,ZJ,ZK,ZL,ZM,ZN,ZO,ZP,ZQ,ZR,ZS,ZT,ZU,ZV,ZW,ZX,ZY,ZZ,Za,Zb,Zc,Zd,Ze,Zf,Zg,Zh,Zi,Zj,Zk,Zl,Zm,Zn,Zo,Zp,Zq,Zr,Zs,Zt,Zu,Zv,Zw,Zx,Zy,Zz,YA,YB,YC,YD,YE,YF,YG,YH,YI,YJ,YK,YL,YM,YN,YO,YP,YQ,YR,Env.set,cond_true,cond_false,String.reduceBEq,YS,YT,YU,YV,YW,YX,YY,YZ,Ya,Yb,Yc,Yd,Ye,Yf] | simp only [Yg,Yh,true_and,Yi,Yj,Yk,Yl,Ym,Yn,Yo,Yp,Yq,Yr,Yt,Yu,Yv,Yw,Yx,Yy,Yz,XA,XB,XC,XD,XE,beq_self_eq_true,reduceIte,reduceCtorEq,↓reduceIte,XF,XG,XH]))
    refine hn _ _ ?_
    clear hn hr K
    refine wSs_step fun K hn hr => ?_
    rw [s_forS]
    (repeat (first | dsimp only [XI, XJ] | dsimp only [ZA,ZB,ZC,ZD,ZE,ZF,ZG,ZH,ZI,ZJ,ZK,ZL,ZM,ZN,ZO,ZP,ZQ,ZR,ZS,ZT,ZU,ZV,ZW,ZX,ZY,ZZ,Za,Zb,Zc,Zd,Ze,Zf,Zg,Zh,Zi,Zj,Zk,Zl,Zm,Zn,Zo,Zp,Zq,Zr,Zs,Zt,Zu,Zv,Zw,Zx,Zy,Zz,YA,YB,YC,YD,YE,YF,YG,YH,YI,YJ,YK,YL,YM,YN,YO,YP,YQ,YR,Env.set,cond_true,cond_false,String.reduceBEq,YS,YT,YU,YV,YW,YX,YY,YZ,Ya,Yb,Yc,Yd,Ye,Yf] | simp only [Yg,Yh,true_and,Yi,Yj,Yk,Yl,Ym,Yn,Yo,Yp,Yq,Yr,Yt,Yu,Yv,Yw,Yx,Yy,Yz,XA,XB,XC,XD,XE,beq_self_eq_true,reduceIte,reduceCtorEq,↓reduceIte,XF,XG,XH, hw1.len]))
    refine s_orders hPo ok.le fun H2 r hp2 hrl hO => ?_
    obtain ⟨fs, g1, g2, g3⟩ := hO.at
    simp only [os_ref, seqOf_list g1, Option.map_some, oE_some]
    have hkeep : ∀ H' : Hp, H2 <+: H' → H'[r]? = H2[r]? := fun H' hp => by rw [g1]; exact pre_get hp g1
    refine wFor_idx (fun i ρ H' => H2 <+: H' ∧ ρ "wishes" = some (.ref w) ∧ ((ρ "found" = some .none ∧ ∀ (j : Nat) A, j < i → (ordTo W.length W.length)[j]? = some A → ¬ (LawHold W A ∧ (roundsF A).any oddR = true)) ∨ ∃ a A, ρ "found" = some (.ref a) ∧ LN H2 a A ∧ A ∈ ordTo W.length W.length ∧ LawHold W A ∧ (roundsF A).any oddR = true))
      ⟨List.prefix_refl _, by (repeat (first | dsimp only [XI, XJ] | dsimp only [ZA,ZB,ZC,ZD,ZE,ZF,ZG,ZH,ZI,ZJ,ZK,ZL,ZM,ZN,ZO,ZP,ZQ,ZR,ZS,ZT,ZU,ZV,ZW,ZX,ZY,ZZ,Za,Zb,Zc,Zd,Ze,Zf,Zg,Zh,Zi,Zj,Zk,Zl,Zm,Zn,Zo,Zp,Zq,Zr,Zs,Zt,Zu,Zv,Zw,Zx,Zy,Zz,YA,YB,YC,YD,YE,YF,YG,YH,YI,YJ,YK,YL,YM,YN,YO,YP,YQ,YR,Env.set,cond_true,cond_false,String.reduceBEq,YS,YT,YU,YV,YW,YX,YY,YZ,Ya,Yb,Yc,Yd,Ye,Yf] | simp only [Yg,Yh,true_and,Yi,Yj,Yk,Yl,Ym,Yn,Yo,Yp,Yq,Yr,Yt,Yu,Yv,Yw,Yx,Yy,Yz,XA,XB,XC,XD,XE,beq_self_eq_true,reduceIte,reduceCtorEq,↓reduceIte,XF,XG,XH])), .inl ⟨by (repeat (first | dsimp only [XI, XJ] | dsimp only [ZA,ZB,ZC,ZD,ZE,ZF,ZG,ZH,ZI,ZJ,ZK,ZL,ZM,ZN,ZO,ZP,ZQ,ZR,ZS,ZT,ZU,ZV,ZW,ZX,ZY,ZZ,Za,Zb,Zc,Zd,Ze,Zf,Zg,Zh,Zi,Zj,Zk,Zl,Zm,Zn,Zo,Zp,Zq,Zr,Zs,Zt,Zu,Zv,Zw,Zx,Zy,Zz,YA,YB,YC,YD,YE,YF,YG,YH,YI,YJ,YK,YL,YM,YN,YO,YP,YQ,YR,Env.set,cond_true,cond_false,String.reduceBEq,YS,YT,YU,YV,YW,YX,YY,YZ,Ya,Yb,Yc,Yd,Ye,Yf] | simp only [Yg,Yh,true_and,Yi,Yj,Yk,Yl,Ym,Yn,Yo,Yp,Yq,Yr,Yt,Yu,Yv,Yw,Yx,Yy,Yz,XA,XB,XC,XD,XE,beq_self_eq_true,reduceIte,reduceCtorEq,↓reduceIte,XF,XG,XH])), fun j A hj => by omega⟩⟩ (fun i v ρ H' hv hI => ⟨hkeep _ hI.1, fun k' k1 k2 => ?_⟩) fun ρ H' hI => ⟨hkeep _ hI.1, ?_⟩
    · obtain ⟨hp, e1, e2⟩ := hI
      obtain ⟨a, A, rfl, hAi, hA⟩ := g3 i v hv
      have hAm := List.mem_of_getElem? hAi
      obtain ⟨aok, al⟩ := ord_ok ok.pos ok.le hAm
      rcases e2 with ⟨e2, hno⟩ | ⟨a', A', e2, hA', hm', hh', ho'⟩
      · have no : ¬ (LawHold W A ∧ (roundsF A).any oddR = true) → ∀ H'', H2 <+: H'' → k' none (ρ.set "after" (.ref a)) H'' := fun q H'' hp'' => by
          refine k1 _ _ ⟨hp'', by (repeat (first | dsimp only [XI, XJ] | dsimp only [ZA,ZB,ZC,ZD,ZE,ZF,ZG,ZH,ZI,ZJ,ZK,ZL,ZM,ZN,ZO,ZP,ZQ,ZR,ZS,ZT,ZU,ZV,ZW,ZX,ZY,ZZ,Za,Zb,Zc,Zd,Ze,Zf,Zg,Zh,Zi,Zj,Zk,Zl,Zm,Zn,Zo,Zp,Zq,Zr,Zs,Zt,Zu,Zv,Zw,Zx,Zy,Zz,YA,YB,YC,YD,YE,YF,YG,YH,YI,YJ,YK,YL,YM,YN,YO,YP,YQ,YR,Env.set,cond_true,cond_false,String.reduceBEq,YS,YT,YU,YV,YW,YX,YY,YZ,Ya,Yb,Yc,Yd,Ye,Yf] | simp only [Yg,Yh,true_and,Yi,Yj,Yk,Yl,Ym,Yn,Yo,Yp,Yq,Yr,Yt,Yu,Yv,Yw,Yx,Yy,Yz,XA,XB,XC,XD,XE,beq_self_eq_true,reduceIte,reduceCtorEq,↓reduceIte,XF,XG,XH, e1])), .inl ⟨by (repeat (first | dsimp only [XI, XJ] | dsimp only [ZA,ZB,ZC,ZD,ZE,ZF,ZG,ZH,ZI,ZJ,ZK,ZL,ZM,ZN,ZO,ZP,ZQ,ZR,ZS,ZT,ZU,ZV,ZW,ZX,ZY,ZZ,Za,Zb,Zc,Zd,Ze,Zf,Zg,Zh,Zi,Zj,Zk,Zl,Zm,Zn,Zo,Zp,Zq,Zr,Zs,Zt,Zu,Zv,Zw,Zx,Zy,Zz,YA,YB,YC,YD,YE,YF,YG,YH,YI,YJ,YK,YL,YM,YN,YO,YP,YQ,YR,Env.set,cond_true,cond_false,String.reduceBEq,YS,YT,YU,YV,YW,YX,YY,YZ,Ya,Yb,Yc,Yd,Ye,Yf] | simp only [Yg,Yh,true_and,Yi,Yj,Yk,Yl,Ym,Yn,Yo,Yp,Yq,Yr,Yt,Yu,Yv,Yw,Yx,Yy,Yz,XA,XB,XC,XD,XE,beq_self_eq_true,reduceIte,reduceCtorEq,↓reduceIte,XF,XG,XH, e2])), fun j A' hj hA' => ?_⟩⟩
          rcases Nat.lt_or_eq_of_le (Nat.lt_succ_iff.mp hj) with z | rfl
          · exact hno j A' z hA'
          · rw [hAi] at hA'; cases hA'; exact q
        (repeat (first | dsimp only [XI, XJ] | dsimp only [ZA,ZB,ZC,ZD,ZE,ZF,ZG,ZH,ZI,ZJ,ZK,ZL,ZM,ZN,ZO,ZP,ZQ,ZR,ZS,ZT,ZU,ZV,ZW,ZX,ZY,ZZ,Za,Zb,Zc,Zd,Ze,Zf,Zg,Zh,Zi,Zj,Zk,Zl,Zm,Zn,Zo,Zp,Zq,Zr,Zs,Zt,Zu,Zv,Zw,Zx,Zy,Zz,YA,YB,YC,YD,YE,YF,YG,YH,YI,YJ,YK,YL,YM,YN,YO,YP,YQ,YR,Env.set,cond_true,cond_false,String.reduceBEq,YS,YT,YU,YV,YW,YX,YY,YZ,Ya,Yb,Yc,Yd,Ye,Yf] | simp only [Yg,Yh,true_and,Yi,Yj,Yk,Yl,Ym,Yn,Yo,Yp,Yq,Yr,Yt,Yu,Yv,Yw,Yx,Yy,Yz,XA,XB,XC,XD,XE,beq_self_eq_true,reduceIte,reduceCtorEq,↓reduceIte,XF,XG,XH, e2]))
        refine s_has_odd (n := n + 8) hPh hPr (hA.pre hp) aok fun H3 hp3 => ?_
        (repeat (first | dsimp only [XI, XJ] | dsimp only [ZA,ZB,ZC,ZD,ZE,ZF,ZG,ZH,ZI,ZJ,ZK,ZL,ZM,ZN,ZO,ZP,ZQ,ZR,ZS,ZT,ZU,ZV,ZW,ZX,ZY,ZZ,Za,Zb,Zc,Zd,Ze,Zf,Zg,Zh,Zi,Zj,Zk,Zl,Zm,Zn,Zo,Zp,Zq,Zr,Zs,Zt,Zu,Zv,Zw,Zx,Zy,Zz,YA,YB,YC,YD,YE,YF,YG,YH,YI,YJ,YK,YL,YM,YN,YO,YP,YQ,YR,Env.set,cond_true,cond_false,String.reduceBEq,YS,YT,YU,YV,YW,YX,YY,YZ,Ya,Yb,Yc,Yd,Ye,Yf] | simp only [Yg,Yh,true_and,Yi,Yj,Yk,Yl,Ym,Yn,Yo,Yp,Yq,Yr,Yt,Yu,Yv,Yw,Yx,Yy,Yz,XA,XB,XC,XD,XE,beq_self_eq_true,reduceIte,reduceCtorEq,↓reduceIte,XF,XG,XH, e1]))
        refine ⟨fun q => ?_, fun q => no (fun z => by rw [z.2] at q; cases q) _ (hp.trans hp3)⟩
        refine s_all_hold (n := n + 6) hPa hPb hP6 hP8 hPr (hw1.pre (hp2.trans (hp.trans hp3))) (hA.pre (hp.trans hp3)) aok al.symm fun H4 rr hp4 hrr => ?_
        (repeat (first | dsimp only [XI, XJ] | dsimp only [ZA,ZB,ZC,ZD,ZE,ZF,ZG,ZH,ZI,ZJ,ZK,ZL,ZM,ZN,ZO,ZP,ZQ,ZR,ZS,ZT,ZU,ZV,ZW,ZX,ZY,ZZ,Za,Zb,Zc,Zd,Ze,Zf,Zg,Zh,Zi,Zj,Zk,Zl,Zm,Zn,Zo,Zp,Zq,Zr,Zs,Zt,Zu,Zv,Zw,Zx,Zy,Zz,YA,YB,YC,YD,YE,YF,YG,YH,YI,YJ,YK,YL,YM,YN,YO,YP,YQ,YR,Env.set,cond_true,cond_false,String.reduceBEq,YS,YT,YU,YV,YW,YX,YY,YZ,Ya,Yb,Yc,Yd,Ye,Yf] | simp only [Yg,Yh,true_and,Yi,Yj,Yk,Yl,Ym,Yn,Yo,Yp,Yq,Yr,Yt,Yu,Yv,Yw,Yx,Yy,Yz,XA,XB,XC,XD,XE,beq_self_eq_true,reduceIte,reduceCtorEq,↓reduceIte,XF,XG,XH]))
        refine ⟨fun q2 => ?_, fun q2 => no (fun z => ?_) _ (hp.trans (hp3.trans hp4))⟩
        · exact k1 _ _ ⟨hp.trans (hp3.trans hp4), by (repeat (first | dsimp only [XI, XJ] | dsimp only [ZA,ZB,ZC,ZD,ZE,ZF,ZG,ZH,ZI,ZJ,ZK,ZL,ZM,ZN,ZO,ZP,ZQ,ZR,ZS,ZT,ZU,ZV,ZW,ZX,ZY,ZZ,Za,Zb,Zc,Zd,Ze,Zf,Zg,Zh,Zi,Zj,Zk,Zl,Zm,Zn,Zo,Zp,Zq,Zr,Zs,Zt,Zu,Zv,Zw,Zx,Zy,Zz,YA,YB,YC,YD,YE,YF,YG,YH,YI,YJ,YK,YL,YM,YN,YO,YP,YQ,YR,Env.set,cond_true,cond_false,String.reduceBEq,YS,YT,YU,YV,YW,YX,YY,YZ,Ya,Yb,Yc,Yd,Ye,Yf] | simp only [Yg,Yh,true_and,Yi,Yj,Yk,Yl,Ym,Yn,Yo,Yp,Yq,Yr,Yt,Yu,Yv,Yw,Yx,Yy,Yz,XA,XB,XC,XD,XE,beq_self_eq_true,reduceIte,reduceCtorEq,↓reduceIte,XF,XG,XH, e1])), .inr ⟨a, A, by (repeat (first | dsimp only [XI, XJ] | dsimp only [ZA,ZB,ZC,ZD,ZE,ZF,ZG,ZH,ZI,ZJ,ZK,ZL,ZM,ZN,ZO,ZP,ZQ,ZR,ZS,ZT,ZU,ZV,ZW,ZX,ZY,ZZ,Za,Zb,Zc,Zd,Ze,Zf,Zg,Zh,Zi,Zj,Zk,Zl,Zm,Zn,Zo,Zp,Zq,Zr,Zs,Zt,Zu,Zv,Zw,Zx,Zy,Zz,YA,YB,YC,YD,YE,YF,YG,YH,YI,YJ,YK,YL,YM,YN,YO,YP,YQ,YR,Env.set,cond_true,cond_false,String.reduceBEq,YS,YT,YU,YV,YW,YX,YY,YZ,Ya,Yb,Yc,Yd,Ye,Yf] | simp only [Yg,Yh,true_and,Yi,Yj,Yk,Yl,Ym,Yn,Yo,Yp,Yq,Yr,Yt,Yu,Yv,Yw,Yx,Yy,Yz,XA,XB,XC,XD,XE,beq_self_eq_true,reduceIte,reduceCtorEq,↓reduceIte,XF,XG,XH])), hA, hAm, (hold_iff ok aok al.symm).mp (hrr.mp q2), q⟩⟩
        · rw [hrr.mpr ((hold_iff ok aok al.symm).mpr z.1)] at q2; cases q2
      · (repeat (first | dsimp only [XI, XJ] | dsimp only [ZA,ZB,ZC,ZD,ZE,ZF,ZG,ZH,ZI,ZJ,ZK,ZL,ZM,ZN,ZO,ZP,ZQ,ZR,ZS,ZT,ZU,ZV,ZW,ZX,ZY,ZZ,Za,Zb,Zc,Zd,Ze,Zf,Zg,Zh,Zi,Zj,Zk,Zl,Zm,Zn,Zo,Zp,Zq,Zr,Zs,Zt,Zu,Zv,Zw,Zx,Zy,Zz,YA,YB,YC,YD,YE,YF,YG,YH,YI,YJ,YK,YL,YM,YN,YO,YP,YQ,YR,Env.set,cond_true,cond_false,String.reduceBEq,YS,YT,YU,YV,YW,YX,YY,YZ,Ya,Yb,Yc,Yd,Ye,Yf] | simp only [Yg,Yh,true_and,Yi,Yj,Yk,Yl,Ym,Yn,Yo,Yp,Yq,Yr,Yt,Yu,Yv,Yw,Yx,Yy,Yz,XA,XB,XC,XD,XE,beq_self_eq_true,reduceIte,reduceCtorEq,↓reduceIte,XF,XG,XH, e2, is_ref]))
        exact k1 _ _ ⟨hp, by (repeat (first | dsimp only [XI, XJ] | dsimp only [ZA,ZB,ZC,ZD,ZE,ZF,ZG,ZH,ZI,ZJ,ZK,ZL,ZM,ZN,ZO,ZP,ZQ,ZR,ZS,ZT,ZU,ZV,ZW,ZX,ZY,ZZ,Za,Zb,Zc,Zd,Ze,Zf,Zg,Zh,Zi,Zj,Zk,Zl,Zm,Zn,Zo,Zp,Zq,Zr,Zs,Zt,Zu,Zv,Zw,Zx,Zy,Zz,YA,YB,YC,YD,YE,YF,YG,YH,YI,YJ,YK,YL,YM,YN,YO,YP,YQ,YR,Env.set,cond_true,cond_false,String.reduceBEq,YS,YT,YU,YV,YW,YX,YY,YZ,Ya,Yb,Yc,Yd,Ye,Yf] | simp only [Yg,Yh,true_and,Yi,Yj,Yk,Yl,Ym,Yn,Yo,Yp,Yq,Yr,Yt,Yu,Yv,Yw,Yx,Yy,Yz,XA,XB,XC,XD,XE,beq_self_eq_true,reduceIte,reduceCtorEq,↓reduceIte,XF,XG,XH, e1])), .inr ⟨a', A', by (repeat (first | dsimp only [XI, XJ] | dsimp only [ZA,ZB,ZC,ZD,ZE,ZF,ZG,ZH,ZI,ZJ,ZK,ZL,ZM,ZN,ZO,ZP,ZQ,ZR,ZS,ZT,ZU,ZV,ZW,ZX,ZY,ZZ,Za,Zb,Zc,Zd,Ze,Zf,Zg,Zh,Zi,Zj,Zk,Zl,Zm,Zn,Zo,Zp,Zq,Zr,Zs,Zt,Zu,Zv,Zw,Zx,Zy,Zz,YA,YB,YC,YD,YE,YF,YG,YH,YI,YJ,YK,YL,YM,YN,YO,YP,YQ,YR,Env.set,cond_true,cond_false,String.reduceBEq,YS,YT,YU,YV,YW,YX,YY,YZ,Ya,Yb,Yc,Yd,Ye,Yf] | simp only [Yg,Yh,true_and,Yi,Yj,Yk,Yl,Ym,Yn,Yo,Yp,Yq,Yr,Yt,Yu,Yv,Yw,Yx,Yy,Yz,XA,XB,XC,XD,XE,beq_self_eq_true,reduceIte,reduceCtorEq,↓reduceIte,XF,XG,XH, e2])), hA', hm', hh', ho'⟩⟩
    · obtain ⟨hp, e1, e2⟩ := hI
      refine hn _ _ ?_
      rcases e2 with ⟨e2, hno⟩ | ⟨a, A, e2, hA, hm, hh, ho⟩
      · exfalso
        obtain ⟨A, aok, al, hh, ho⟩ := party_ex ok hnil
        have hm := ord_mem aok
        rw [al] at hm
        obtain ⟨j, hj, e⟩ := List.mem_iff_getElem.mp hm
        exact hno j A (by rw [g2]; exact hj) (by rw [List.getElem?_eq_getElem hj, e]) ⟨hh, ho⟩
      · obtain ⟨aok, al⟩ := ord_ok ok.pos ok.le hm
        (repeat (first | dsimp only [XI, XJ] | dsimp only [ZA,ZB,ZC,ZD,ZE,ZF,ZG,ZH,ZI,ZJ,ZK,ZL,ZM,ZN,ZO,ZP,ZQ,ZR,ZS,ZT,ZU,ZV,ZW,ZX,ZY,ZZ,Za,Zb,Zc,Zd,Ze,Zf,Zg,Zh,Zi,Zj,Zk,Zl,Zm,Zn,Zo,Zp,Zq,Zr,Zs,Zt,Zu,Zv,Zw,Zx,Zy,Zz,YA,YB,YC,YD,YE,YF,YG,YH,YI,YJ,YK,YL,YM,YN,YO,YP,YQ,YR,Env.set,cond_true,cond_false,String.reduceBEq,YS,YT,YU,YV,YW,YX,YY,YZ,Ya,Yb,Yc,Yd,Ye,Yf] | simp only [Yg,Yh,true_and,Yi,Yj,Yk,Yl,Ym,Yn,Yo,Yp,Yq,Yr,Yt,Yu,Yv,Yw,Yx,Yy,Yz,XA,XB,XC,XD,XE,beq_self_eq_true,reduceIte,reduceCtorEq,↓reduceIte,XF,XG,XH, e2]))
        refine h2 _ _ a A (hp1.trans (hp2.trans (hp.trans (pre_new _ _)))) ?_ hnil (get_new _ _) (hA.pre (hp.trans (pre_new _ _))) aok al hh ho
        exact Nat.le_trans hp1.length_le (hp2.trans hp).length_le
end
end Mine

namespace Mine
open PySem

noncomputable def base1 (A : List Nat) (g : Nat) : List Nat := if nx A g = g then [] else [nx A g]
noncomputable def base2 (A : List Nat) (g : Nat) : List Nat := if nx A g = g then [] else if A.idxOf g = nx A g then [nx A g] else [nx A g, A.idxOf g]

structure MadeRow (A : List Nat) (g : Nat) (l : List Int) : Prop where
  row : RowOk l g A.length
  base : ∃ rest, l = ci (base2 A g) ++ rest
  alone : nx A g = g → ∀ j, j < A.length → (j : Int) ∈ l → nx A j ≠ j

theorem made_mem {A : List Nat} {g : Nat} {l : List Int} (h : MadeRow A g l) (hn : nx A g ≠ g) : ((nx A g : Nat) : Int) ∈ l ∧ ((A.idxOf g : Nat) : Int) ∈ l ∧ l.idxOf ((nx A g : Nat) : Int) = 0 ∧ (A.idxOf g ≠ nx A g → l.idxOf ((A.idxOf g : Nat) : Int) = 1) := by
  obtain ⟨rest, e⟩ := h.base
  unfold base2 at e
  rw [if_neg hn] at e
  by_cases q : A.idxOf g = nx A g
  · rw [if_pos q] at e
    subst e
    rw [q]
    simp [ci]
  · rw [if_neg q] at e
    subst e
    have : ((nx A g : Nat) : Int) ≠ ((A.idxOf g : Nat) : Int) := fun z => q (by omega)
    refine ⟨by simp [ci], by simp [ci], by simp [ci], fun _ => ?_⟩
    simp only [ci, List.map_cons, List.map_nil, List.cons_append, List.nil_append, List.idxOf_cons]
    rw [beq_eq_false_iff_ne.mpr this]; simp

theorem made_hold {W : List (List Int)} {A : List Nat} (ok : AOk A) (hl : W.length = A.length) (h : ∀ g, g < A.length → MadeRow A g (row W g)) : LawHold W A := by
  have nn : ∀ g, g < A.length → nx A g ≠ g → A.idxOf g ≠ g ∧ nx A (A.idxOf g) ≠ A.idxOf g := fun g hg hn => by
    have e := (nx_idx ok hg).1
    refine ⟨fun q => hn ?_, fun q => hn ?_⟩
    · rw [q] at e; exact e
    · rw [q] at e; rw [e] at q; exact q
  have b1 : ∀ g, g < A.length → nx A g ≠ g → both W g (nx A g) = true := fun g hg hn => by
    have h1 := (made_mem (h g hg) hn).1
    have hx := ok.nx hg
    have hn' : nx A (nx A g) ≠ nx A g := fun q => by
      have := (nx_idx ok hx).2
      rw [q, (nx_idx ok hg).2] at this; exact hn this.symm
    have h2 := (made_mem (h _ hx) hn').2.1
    rw [(nx_idx ok hg).2] at h2
    unfold both; simp [h1, h2]
  have b2 : ∀ g, g < A.length → nx A g ≠ g → both W g (A.idxOf g) = true := fun g hg hn => by
    have := b1 _ (idx_lt ok hg) (nn g hg hn).2
    rw [(nx_idx ok hg).1, both_comm] at this; exact this
  -- one that g would rather have than the one ahead of it is its next
  have key : ∀ g j, g < A.length → nx A g ≠ g → soonerP W g (some j) (ah A g) = true → j = nx A g := fun g j hg hn s => by
    unfold ah at s
    rw [if_neg hn] at s
    obtain ⟨s1, s2, s3⟩ := soon_some.mp s
    have s3 := s3.resolve_left (by rw [b2 g hg hn]; exact fun q => by cases q)
    obtain ⟨m1, m2, m3, m4⟩ := made_mem (h g hg) hn
    have : rkW W g j = rkW W g (nx A g) := by
      unfold rkW at s3 ⊢
      by_cases q : A.idxOf g = nx A g
      · rw [q, m3] at s3; omega
      · rw [m4 q] at s3; omega
    exact rk_inj s2 (b1 g hg hn) this
  intro g hg
  refine ⟨b1 g hg, fun hn h2 => ?_, fun j hj hne ⟨s1, s2⟩ => ?_⟩
  · unfold ah
    rw [if_neg hn]
    obtain ⟨m1, m2, m3, m4⟩ := made_mem (h g hg) hn
    have q : A.idxOf g ≠ nx A g := fun q => h2 (by rw [← q]; exact (nx_idx ok hg).1)
    refine soon_some.mpr ⟨Ne.symm q, b1 g hg hn, .inr ?_⟩
    unfold rkW
    rw [m3, m4 q]; exact Nat.one_pos
  · by_cases hn : nx A g = g
    · by_cases hn' : nx A j = j
      · unfold ah at s1
        rw [if_pos hn] at s1
        have := both_mem (soon_none.mp s1)
        exact (h g hg).alone hn j hj this hn'
      · have := key j g hj hn' s2
        -- g is the next of j, so not alone
        have e := (nx_idx ok hj).2
        rw [← this] at e
        have e2 := (nx_idx ok hg).2
        rw [hn] at e2
        exact hne (e.symm.trans e2)
    · have := key g j hg hn s1
      subst this
      have hn' : nx A (nx A g) ≠ nx A g := fun q => by
        have := (nx_idx ok hj).2
        rw [q, (nx_idx ok hg).2] at this; exact hn this.symm
      unfold ah at s2
      rw [if_neg hn', (nx_idx ok hg).2] at s2
      exact (soon_some.mp s2).1 rfl

theorem rowOk_add {l : List Int} {g : Int} {m : Nat} (hm : m ≤ 6) (h : RowOk l g m) {x : Int} (h0 : 0 ≤ x) (h1 : x < (m : Int)) (hne : x ≠ g) (hnm : x ∉ l) : RowOk (l ++ [x]) g m := by
  refine rowOk_mk hm (fun y hy => ?_) (fun hy => ?_) ?_
  · rcases List.mem_append.mp hy with hy | hy
    · exact h.low y hy
    · simp at hy; subst hy; exact ⟨h0, h1⟩
  · rcases List.mem_append.mp hy with hy | hy
    · exact h.ne hy
    · simp at hy; exact hne hy.symm
  · rw [List.nodup_append]
    refine ⟨h.nodup, by simp, fun y hy z hz e => ?_⟩
    simp at hz; subst hz; subst e; exact hnm hy

theorem LI.add {H : Hp} {d : Nat} {l : List Int} (h : LI H d l) (hl : l.length < lim) (x : Int) : methV .append [.ref d, .int x] H = some (.none, H.set d (.list ((l ++ [x]).map .int))) ∧ LI (H.set d (.list ((l ++ [x]).map .int))) d (l ++ [x]) := by
  refine ⟨?_, get_set_eq h _⟩
  rw [append_at h (by rw [List.length_map]; exact hl)]; simp

noncomputable def madeBody : List S := [.assign "_law_row" (.op .mkList []),
    .ite (.op (.cmp .ne) [.op .item [.var "_law_after", .var "_law_guest"], .var "_law_guest"])
      [.assign "_law_row" (.op .mkList [.op .item [.var "_law_after", .var "_law_guest"]])]
      [],
    .forR "_law_one" [.var "_law_many"]
      [.ite (.and_ [.op (.cmp .eq) [.op .item [.var "_law_after", .var "_law_one"], .var "_law_guest"], .op (.cmp .notIn) [.var "_law_one", .var "_law_row"], .op (.cmp .ne) [.var "_law_one", .var "_law_guest"]])
        [.expr (.mcall .append (.var "_law_row") [.var "_law_one"])]
        []],
    .forS "_law_one" (.call "_law_row_by" [.call "_law_cell_at" [.var "_law_script", .op (.bin .add) [.int 3, .var "_law_guest"]], .var "_law_guest", .var "_law_many", .bool false])
      [.assign "_law_alone" (.and_ [.op (.cmp .eq) [.op .item [.var "_law_after", .var "_law_guest"], .var "_law_guest"], .op (.cmp .eq) [.op .item [.var "_law_after", .var "_law_one"], .var "_law_one"]]),
      .ite (.and_ [.op (.cmp .notIn) [.var "_law_one", .var "_law_row"], .not_ (.var "_law_alone")])
        [.expr (.mcall .append (.var "_law_row") [.var "_law_one"])]
        []],
    .expr (.mcall .append (.var "_law_wishes") [.var "_law_row"])]

theorem beqn (x y : Nat) : ((x : Int) == (y : Int)) = decide (x = y) := by
  by_cases e : x = y
  · subst e; simp
  · rw [decide_eq_false e]; exact beq_eq_false_iff_ne.mpr (by omega)

section
variable {P : Prog} {b : Bool} {n : Nat} {H : Hp} {Q : Post} {X : XP}

theorem wS_forS_src {C : Ctx} {x : String} {src : E} {body : List S} {ρ : Env} {k : SPost} {X : SXP} (h : ∀ K : Post, (∀ a items H1, seqOf H1 a = some items → wFor (fun H' => H'[a]? = H1[a]?) (fun v ρ' H' k' => wSs C body (ρ'.set x v) H' k' X) items ρ H1 k → K (.ref a) H1) → wE C src ρ H K X) : wS C (.forS x src body) ρ H k X := by
  rw [s_forS]
  exact h _ fun a items H1 hs hw => by
    show oE (oSeq (.ref a) H1) _
    rw [os_ref, hs]; exact hw

/-- a guest's row, made -/
theorem w_made_row {N : Nat} {ρ : Env} {k : SPost} {X : SXP} (hP2 : P.fn "_law_cell_at" = some f__law_cell_at) (hP3 : P.fn "_law_row_by" = some f__law_row_by) {s a i w : Nat} {is : List Int} {A : List Nat} (hs : H[s]? = some (.frozen (is.map .int))) (hA : LN H a A) (ok : AOk A) (hi : i < A.length) {W : List (List Int)} (fl : FL H H.length w W) (hW : W.length < 10) (haw : a ≠ w) (hsw : s ≠ w)
    (e1 : ρ "_law_script" = some (.ref s)) (e2 : ρ "_law_after" = some (.ref a)) (e3 : ρ "_law_guest" = some (.int (i : Int))) (e4 : ρ "_law_many" = some (.int (A.length : Int))) (e5 : ρ "_law_wishes" = some (.ref w))
    (h : ∀ ρ' H' l, (∀ c, c < H.length → c ≠ w → H'[c]? = H[c]?) → H.length ≤ H'.length → FL H' H'.length w (W ++ [l]) → MadeRow A i l → ρ' "_law_script" = some (.ref s) → ρ' "_law_after" = some (.ref a) → ρ' "_law_many" = some (.int (A.length : Int)) → ρ' "_law_wishes" = some (.ref w) → k none ρ' H') :
    wSs ⟨b, callN P b (N + 1), P.glob⟩ madeBody ρ H k X := by
  have h6 := ok.le
  have hlim : A.length ≤ lim := Nat.le_trans h6 (by decide)
  have hal : a < H.length := (List.getElem?_eq_some_iff.mp hA).1
  have hsl : s < H.length := (List.getElem?_eq_some_iff.mp hs).1
  have hwl := fl.1
  have hidx := idx_lt ok hi
  unfold madeBody
  refine wSs_step fun K1 k1 k2 => ?_
  (repeat (first | dsimp only [XI, XJ] | dsimp only [ZA,ZB,ZC,ZD,ZE,ZF,ZG,ZH,ZI,ZJ,ZK,ZL,ZM,ZN,ZO,ZP,ZQ,ZR,ZS,ZT,ZU,ZV,ZW,ZX,ZY,ZZ,Za,Zb,Zc,Zd,Ze,Zf,Zg,Zh,Zi,Zj,Zk,Zl,Zm,Zn,Zo,Zp,Zq,Zr,Zs,Zt,Zu,Zv,Zw,Zx,Zy,Zz,YA,YB,YC,YD,YE,YF,YG,YH,YI,YJ,YK,YL,YM,YN,YO,YP,YQ,YR,Env.set,cond_true,cond_false,String.reduceBEq,YS,YT,YU,YV,YW,YX,YY,YZ,Ya,Yb,Yc,Yd,Ye,Yf] | simp only [Yg,Yh,true_and,Yi,Yj,Yk,Yl,Ym,Yn,Yo,Yp,Yq,Yr,Yt,Yu,Yv,Yw,Yx,Yy,Yz,XA,XB,XC,XD,XE,beq_self_eq_true,reduceIte,reduceCtorEq,↓reduceIte,XF,XG,XH]))
  refine k1 _ _ (wSs_step fun K2 k3 k4 => ?_)
  clear k1 k2 K1
  have rest : ∀ (ρ' : Env) (H' : Hp) (d : Nat), (∀ c, c < H.length → H'[c]? = H[c]?) → H.length ≤ d → d < H'.length → LI H' d (ci (base1 A i)) → ρ' "_law_script" = some (.ref s) → ρ' "_law_after" = some (.ref a) → ρ' "_law_guest" = some (.int (i : Int)) → ρ' "_law_many" = some (.int (A.length : Int)) → ρ' "_law_wishes" = some (.ref w) → ρ' "_law_row" = some (.ref d) → K2 none ρ' H' := by
    intro ρ' H2 d hk2 hd hd2 hrow f1 f2 f3 f4 f5 f6
    refine k3 _ _ (wSs_step fun K3 k5 k6 => ?_)
    clear k3 k4 K2
    refine wS_forR_var (m := A.length) f4 hlim ?_
    refine wFor_idx (fun j ρ' H' => (∀ c, c ≠ d → H'[c]? = H2[c]?) ∧ H'.length = H2.length ∧ LI H' d (ci (if A.idxOf i < j then base2 A i else base1 A i)) ∧
      ρ' "_law_script" = some (.ref s) ∧ ρ' "_law_after" = some (.ref a) ∧ ρ' "_law_guest" = some (.int (i : Int)) ∧ ρ' "_law_many" = some (.int (A.length : Int)) ∧ ρ' "_law_wishes" = some (.ref w) ∧ ρ' "_law_row" = some (.ref d))
      ⟨(fun _ _ => rfl), rfl, by rw [if_neg (by omega)]; exact hrow, f1, f2, f3, f4, f5, f6⟩ (fun j v ρ' H' hv hI => ⟨trivial, fun k' h1 h2 => ?_⟩) fun ρ' H' hI => ⟨trivial, ?_⟩
    · obtain ⟨hj, rfl⟩ := rng_get hv
      obtain ⟨hk, hlen, hr, g1, g2, g3, g4, g5, g6⟩ := hI
      have hA' : LN H' a A := by unfold LN; rw [hk a (by omega), hk2 a hal]; exact hA
      have ej : j = A.idxOf i ↔ nx A j = i := by
        constructor
        · rintro rfl; exact (nx_idx ok hi).1
        · rintro rfl; exact (nx_idx ok hj).2.symm
      (repeat (first | dsimp only [XI, XJ] | dsimp only [ZA,ZB,ZC,ZD,ZE,ZF,ZG,ZH,ZI,ZJ,ZK,ZL,ZM,ZN,ZO,ZP,ZQ,ZR,ZS,ZT,ZU,ZV,ZW,ZX,ZY,ZZ,Za,Zb,Zc,Zd,Ze,Zf,Zg,Zh,Zi,Zj,Zk,Zl,Zm,Zn,Zo,Zp,Zq,Zr,Zs,Zt,Zu,Zv,Zw,Zx,Zy,Zz,YA,YB,YC,YD,YE,YF,YG,YH,YI,YJ,YK,YL,YM,YN,YO,YP,YQ,YR,Env.set,cond_true,cond_false,String.reduceBEq,YS,YT,YU,YV,YW,YX,YY,YZ,Ya,Yb,Yc,Yd,Ye,Yf] | simp only [Yg,Yh,true_and,Yi,Yj,Yk,Yl,Ym,Yn,Yo,Yp,Yq,Yr,Yt,Yu,Yv,Yw,Yx,Yy,Yz,XA,XB,XC,XD,XE,beq_self_eq_true,reduceIte,reduceCtorEq,↓reduceIte,XF,XG,XH, g2, g3, hA'.nx hj, beqn]))
      by_cases hji : nx A j = i
      · have hjx := ej.mpr hji
        have e0 : (if A.idxOf i < j then base2 A i else base1 A i) = base1 A i := if_neg (by omega)
        have e9 : (if A.idxOf i < j + 1 then base2 A i else base1 A i) = base2 A i := if_pos (by omega)
        rw [e0] at hr
        (repeat (first | dsimp only [XI, XJ] | dsimp only [ZA,ZB,ZC,ZD,ZE,ZF,ZG,ZH,ZI,ZJ,ZK,ZL,ZM,ZN,ZO,ZP,ZQ,ZR,ZS,ZT,ZU,ZV,ZW,ZX,ZY,ZZ,Za,Zb,Zc,Zd,Ze,Zf,Zg,Zh,Zi,Zj,Zk,Zl,Zm,Zn,Zo,Zp,Zq,Zr,Zs,Zt,Zu,Zv,Zw,Zx,Zy,Zz,YA,YB,YC,YD,YE,YF,YG,YH,YI,YJ,YK,YL,YM,YN,YO,YP,YQ,YR,Env.set,cond_true,cond_false,String.reduceBEq,YS,YT,YU,YV,YW,YX,YY,YZ,Ya,Yb,Yc,Yd,Ye,Yf] | simp only [Yg,Yh,true_and,Yi,Yj,Yk,Yl,Ym,Yn,Yo,Yp,Yq,Yr,Yt,Yu,Yv,Yw,Yx,Yy,Yz,XA,XB,XC,XD,XE,beq_self_eq_true,reduceIte,reduceCtorEq,↓reduceIte,XF,XG,XH, decide_eq_true hji, g6, g3, hr.ln.mem j]))
        by_cases hn : nx A i = i
        · have eb : base1 A i = [] := if_pos hn
          have eb2 : base2 A i = [] := if_pos hn
          have : j = i := by rw [hjx]; exact idx_self ok hi hn
          have d1 : decide (j ∈ base1 A i) = false := by rw [eb]; simp
          (repeat (first | dsimp only [XI, XJ] | dsimp only [ZA,ZB,ZC,ZD,ZE,ZF,ZG,ZH,ZI,ZJ,ZK,ZL,ZM,ZN,ZO,ZP,ZQ,ZR,ZS,ZT,ZU,ZV,ZW,ZX,ZY,ZZ,Za,Zb,Zc,Zd,Ze,Zf,Zg,Zh,Zi,Zj,Zk,Zl,Zm,Zn,Zo,Zp,Zq,Zr,Zs,Zt,Zu,Zv,Zw,Zx,Zy,Zz,YA,YB,YC,YD,YE,YF,YG,YH,YI,YJ,YK,YL,YM,YN,YO,YP,YQ,YR,Env.set,cond_true,cond_false,String.reduceBEq,YS,YT,YU,YV,YW,YX,YY,YZ,Ya,Yb,Yc,Yd,Ye,Yf] | simp only [Yg,Yh,true_and,Yi,Yj,Yk,Yl,Ym,Yn,Yo,Yp,Yq,Yr,Yt,Yu,Yv,Yw,Yx,Yy,Yz,XA,XB,XC,XD,XE,beq_self_eq_true,reduceIte,reduceCtorEq,↓reduceIte,XF,XG,XH, d1, beqn, decide_eq_true this]))
          exact h1 _ _ ⟨hk, hlen, by rw [e9, eb2, ← eb]; exact hr, by (repeat (first | dsimp only [XI, XJ] | dsimp only [ZA,ZB,ZC,ZD,ZE,ZF,ZG,ZH,ZI,ZJ,ZK,ZL,ZM,ZN,ZO,ZP,ZQ,ZR,ZS,ZT,ZU,ZV,ZW,ZX,ZY,ZZ,Za,Zb,Zc,Zd,Ze,Zf,Zg,Zh,Zi,Zj,Zk,Zl,Zm,Zn,Zo,Zp,Zq,Zr,Zs,Zt,Zu,Zv,Zw,Zx,Zy,Zz,YA,YB,YC,YD,YE,YF,YG,YH,YI,YJ,YK,YL,YM,YN,YO,YP,YQ,YR,Env.set,cond_true,cond_false,String.reduceBEq,YS,YT,YU,YV,YW,YX,YY,YZ,Ya,Yb,Yc,Yd,Ye,Yf] | simp only [Yg,Yh,true_and,Yi,Yj,Yk,Yl,Ym,Yn,Yo,Yp,Yq,Yr,Yt,Yu,Yv,Yw,Yx,Yy,Yz,XA,XB,XC,XD,XE,beq_self_eq_true,reduceIte,reduceCtorEq,↓reduceIte,XF,XG,XH, g1])), by (repeat (first | dsimp only [XI, XJ] | dsimp only [ZA,ZB,ZC,ZD,ZE,ZF,ZG,ZH,ZI,ZJ,ZK,ZL,ZM,ZN,ZO,ZP,ZQ,ZR,ZS,ZT,ZU,ZV,ZW,ZX,ZY,ZZ,Za,Zb,Zc,Zd,Ze,Zf,Zg,Zh,Zi,Zj,Zk,Zl,Zm,Zn,Zo,Zp,Zq,Zr,Zs,Zt,Zu,Zv,Zw,Zx,Zy,Zz,YA,YB,YC,YD,YE,YF,YG,YH,YI,YJ,YK,YL,YM,YN,YO,YP,YQ,YR,Env.set,cond_true,cond_false,String.reduceBEq,YS,YT,YU,YV,YW,YX,YY,YZ,Ya,Yb,Yc,Yd,Ye,Yf] | simp only [Yg,Yh,true_and,Yi,Yj,Yk,Yl,Ym,Yn,Yo,Yp,Yq,Yr,Yt,Yu,Yv,Yw,Yx,Yy,Yz,XA,XB,XC,XD,XE,beq_self_eq_true,reduceIte,reduceCtorEq,↓reduceIte,XF,XG,XH, g2])), by (repeat (first | dsimp only [XI, XJ] | dsimp only [ZA,ZB,ZC,ZD,ZE,ZF,ZG,ZH,ZI,ZJ,ZK,ZL,ZM,ZN,ZO,ZP,ZQ,ZR,ZS,ZT,ZU,ZV,ZW,ZX,ZY,ZZ,Za,Zb,Zc,Zd,Ze,Zf,Zg,Zh,Zi,Zj,Zk,Zl,Zm,Zn,Zo,Zp,Zq,Zr,Zs,Zt,Zu,Zv,Zw,Zx,Zy,Zz,YA,YB,YC,YD,YE,YF,YG,YH,YI,YJ,YK,YL,YM,YN,YO,YP,YQ,YR,Env.set,cond_true,cond_false,String.reduceBEq,YS,YT,YU,YV,YW,YX,YY,YZ,Ya,Yb,Yc,Yd,Ye,Yf] | simp only [Yg,Yh,true_and,Yi,Yj,Yk,Yl,Ym,Yn,Yo,Yp,Yq,Yr,Yt,Yu,Yv,Yw,Yx,Yy,Yz,XA,XB,XC,XD,XE,beq_self_eq_true,reduceIte,reduceCtorEq,↓reduceIte,XF,XG,XH, g3])), by (repeat (first | dsimp only [XI, XJ] | dsimp only [ZA,ZB,ZC,ZD,ZE,ZF,ZG,ZH,ZI,ZJ,ZK,ZL,ZM,ZN,ZO,ZP,ZQ,ZR,ZS,ZT,ZU,ZV,ZW,ZX,ZY,ZZ,Za,Zb,Zc,Zd,Ze,Zf,Zg,Zh,Zi,Zj,Zk,Zl,Zm,Zn,Zo,Zp,Zq,Zr,Zs,Zt,Zu,Zv,Zw,Zx,Zy,Zz,YA,YB,YC,YD,YE,YF,YG,YH,YI,YJ,YK,YL,YM,YN,YO,YP,YQ,YR,Env.set,cond_true,cond_false,String.reduceBEq,YS,YT,YU,YV,YW,YX,YY,YZ,Ya,Yb,Yc,Yd,Ye,Yf] | simp only [Yg,Yh,true_and,Yi,Yj,Yk,Yl,Ym,Yn,Yo,Yp,Yq,Yr,Yt,Yu,Yv,Yw,Yx,Yy,Yz,XA,XB,XC,XD,XE,beq_self_eq_true,reduceIte,reduceCtorEq,↓reduceIte,XF,XG,XH, g4])), by (repeat (first | dsimp only [XI, XJ] | dsimp only [ZA,ZB,ZC,ZD,ZE,ZF,ZG,ZH,ZI,ZJ,ZK,ZL,ZM,ZN,ZO,ZP,ZQ,ZR,ZS,ZT,ZU,ZV,ZW,ZX,ZY,ZZ,Za,Zb,Zc,Zd,Ze,Zf,Zg,Zh,Zi,Zj,Zk,Zl,Zm,Zn,Zo,Zp,Zq,Zr,Zs,Zt,Zu,Zv,Zw,Zx,Zy,Zz,YA,YB,YC,YD,YE,YF,YG,YH,YI,YJ,YK,YL,YM,YN,YO,YP,YQ,YR,Env.set,cond_true,cond_false,String.reduceBEq,YS,YT,YU,YV,YW,YX,YY,YZ,Ya,Yb,Yc,Yd,Ye,Yf] | simp only [Yg,Yh,true_and,Yi,Yj,Yk,Yl,Ym,Yn,Yo,Yp,Yq,Yr,Yt,Yu,Yv,Yw,Yx,Yy,Yz,XA,XB,XC,XD,XE,beq_self_eq_true,reduceIte,reduceCtorEq,↓reduceIte,XF,XG,XH, g5])), by (repeat (first | dsimp only [XI, XJ] | dsimp only [ZA,ZB,ZC,ZD,ZE,ZF,ZG,ZH,ZI,ZJ,ZK,ZL,ZM,ZN,ZO,ZP,ZQ,ZR,ZS,ZT,ZU,ZV,ZW,ZX,ZY,ZZ,Za,Zb,Zc,Zd,Ze,Zf,Zg,Zh,Zi,Zj,Zk,Zl,Zm,Zn,Zo,Zp,Zq,Zr,Zs,Zt,Zu,Zv,Zw,Zx,Zy,Zz,YA,YB,YC,YD,YE,YF,YG,YH,YI,YJ,YK,YL,YM,YN,YO,YP,YQ,YR,Env.set,cond_true,cond_false,String.reduceBEq,YS,YT,YU,YV,YW,YX,YY,YZ,Ya,Yb,Yc,Yd,Ye,Yf] | simp only [Yg,Yh,true_and,Yi,Yj,Yk,Yl,Ym,Yn,Yo,Yp,Yq,Yr,Yt,Yu,Yv,Yw,Yx,Yy,Yz,XA,XB,XC,XD,XE,beq_self_eq_true,reduceIte,reduceCtorEq,↓reduceIte,XF,XG,XH, g6]))⟩
        · have eb : base1 A i = [nx A i] := if_neg hn
          have hjn : j ≠ i := fun q => by rw [q] at hji; exact hn hji
          by_cases hjm : j = nx A i
          · have d1 : decide (j ∈ base1 A i) = true := by rw [eb]; simpa using hjm
            have eb2 : base2 A i = [nx A i] := by unfold base2; rw [if_neg hn, if_pos (by rw [← hjx]; exact hjm)]
            (repeat (first | dsimp only [XI, XJ] | dsimp only [ZA,ZB,ZC,ZD,ZE,ZF,ZG,ZH,ZI,ZJ,ZK,ZL,ZM,ZN,ZO,ZP,ZQ,ZR,ZS,ZT,ZU,ZV,ZW,ZX,ZY,ZZ,Za,Zb,Zc,Zd,Ze,Zf,Zg,Zh,Zi,Zj,Zk,Zl,Zm,Zn,Zo,Zp,Zq,Zr,Zs,Zt,Zu,Zv,Zw,Zx,Zy,Zz,YA,YB,YC,YD,YE,YF,YG,YH,YI,YJ,YK,YL,YM,YN,YO,YP,YQ,YR,Env.set,cond_true,cond_false,String.reduceBEq,YS,YT,YU,YV,YW,YX,YY,YZ,Ya,Yb,Yc,Yd,Ye,Yf] | simp only [Yg,Yh,true_and,Yi,Yj,Yk,Yl,Ym,Yn,Yo,Yp,Yq,Yr,Yt,Yu,Yv,Yw,Yx,Yy,Yz,XA,XB,XC,XD,XE,beq_self_eq_true,reduceIte,reduceCtorEq,↓reduceIte,XF,XG,XH, d1]))
            exact h1 _ _ ⟨hk, hlen, by rw [e9, eb2, ← eb]; exact hr, by (repeat (first | dsimp only [XI, XJ] | dsimp only [ZA,ZB,ZC,ZD,ZE,ZF,ZG,ZH,ZI,ZJ,ZK,ZL,ZM,ZN,ZO,ZP,ZQ,ZR,ZS,ZT,ZU,ZV,ZW,ZX,ZY,ZZ,Za,Zb,Zc,Zd,Ze,Zf,Zg,Zh,Zi,Zj,Zk,Zl,Zm,Zn,Zo,Zp,Zq,Zr,Zs,Zt,Zu,Zv,Zw,Zx,Zy,Zz,YA,YB,YC,YD,YE,YF,YG,YH,YI,YJ,YK,YL,YM,YN,YO,YP,YQ,YR,Env.set,cond_true,cond_false,String.reduceBEq,YS,YT,YU,YV,YW,YX,YY,YZ,Ya,Yb,Yc,Yd,Ye,Yf] | simp only [Yg,Yh,true_and,Yi,Yj,Yk,Yl,Ym,Yn,Yo,Yp,Yq,Yr,Yt,Yu,Yv,Yw,Yx,Yy,Yz,XA,XB,XC,XD,XE,beq_self_eq_true,reduceIte,reduceCtorEq,↓reduceIte,XF,XG,XH, g1])), by (repeat (first | dsimp only [XI, XJ] | dsimp only [ZA,ZB,ZC,ZD,ZE,ZF,ZG,ZH,ZI,ZJ,ZK,ZL,ZM,ZN,ZO,ZP,ZQ,ZR,ZS,ZT,ZU,ZV,ZW,ZX,ZY,ZZ,Za,Zb,Zc,Zd,Ze,Zf,Zg,Zh,Zi,Zj,Zk,Zl,Zm,Zn,Zo,Zp,Zq,Zr,Zs,Zt,Zu,Zv,Zw,Zx,Zy,Zz,YA,YB,YC,YD,YE,YF,YG,YH,YI,YJ,YK,YL,YM,YN,YO,YP,YQ,YR,Env.set,cond_true,cond_false,String.reduceBEq,YS,YT,YU,YV,YW,YX,YY,YZ,Ya,Yb,Yc,Yd,Ye,Yf] | simp only [Yg,Yh,true_and,Yi,Yj,Yk,Yl,Ym,Yn,Yo,Yp,Yq,Yr,Yt,Yu,Yv,Yw,Yx,Yy,Yz,XA,XB,XC,XD,XE,beq_self_eq_true,reduceIte,reduceCtorEq,↓reduceIte,XF,XG,XH, g2])), by (repeat (first | dsimp only [XI, XJ] | dsimp only [ZA,ZB,ZC,ZD,ZE,ZF,ZG,ZH,ZI,ZJ,ZK,ZL,ZM,ZN,ZO,ZP,ZQ,ZR,ZS,ZT,ZU,ZV,ZW,ZX,ZY,ZZ,Za,Zb,Zc,Zd,Ze,Zf,Zg,Zh,Zi,Zj,Zk,Zl,Zm,Zn,Zo,Zp,Zq,Zr,Zs,Zt,Zu,Zv,Zw,Zx,Zy,Zz,YA,YB,YC,YD,YE,YF,YG,YH,YI,YJ,YK,YL,YM,YN,YO,YP,YQ,YR,Env.set,cond_true,cond_false,String.reduceBEq,YS,YT,YU,YV,YW,YX,YY,YZ,Ya,Yb,Yc,Yd,Ye,Yf] | simp only [Yg,Yh,true_and,Yi,Yj,Yk,Yl,Ym,Yn,Yo,Yp,Yq,Yr,Yt,Yu,Yv,Yw,Yx,Yy,Yz,XA,XB,XC,XD,XE,beq_self_eq_true,reduceIte,reduceCtorEq,↓reduceIte,XF,XG,XH, g3])), by (repeat (first | dsimp only [XI, XJ] | dsimp only [ZA,ZB,ZC,ZD,ZE,ZF,ZG,ZH,ZI,ZJ,ZK,ZL,ZM,ZN,ZO,ZP,ZQ,ZR,ZS,ZT,ZU,ZV,ZW,ZX,ZY,ZZ,Za,Zb,Zc,Zd,Ze,Zf,Zg,Zh,Zi,Zj,Zk,Zl,Zm,Zn,Zo,Zp,Zq,Zr,Zs,Zt,Zu,Zv,Zw,Zx,Zy,Zz,YA,YB,YC,YD,YE,YF,YG,YH,YI,YJ,YK,YL,YM,YN,YO,YP,YQ,YR,Env.set,cond_true,cond_false,String.reduceBEq,YS,YT,YU,YV,YW,YX,YY,YZ,Ya,Yb,Yc,Yd,Ye,Yf] | simp only [Yg,Yh,true_and,Yi,Yj,Yk,Yl,Ym,Yn,Yo,Yp,Yq,Yr,Yt,Yu,Yv,Yw,Yx,Yy,Yz,XA,XB,XC,XD,XE,beq_self_eq_true,reduceIte,reduceCtorEq,↓reduceIte,XF,XG,XH, g4])), by (repeat (first | dsimp only [XI, XJ] | dsimp only [ZA,ZB,ZC,ZD,ZE,ZF,ZG,ZH,ZI,ZJ,ZK,ZL,ZM,ZN,ZO,ZP,ZQ,ZR,ZS,ZT,ZU,ZV,ZW,ZX,ZY,ZZ,Za,Zb,Zc,Zd,Ze,Zf,Zg,Zh,Zi,Zj,Zk,Zl,Zm,Zn,Zo,Zp,Zq,Zr,Zs,Zt,Zu,Zv,Zw,Zx,Zy,Zz,YA,YB,YC,YD,YE,YF,YG,YH,YI,YJ,YK,YL,YM,YN,YO,YP,YQ,YR,Env.set,cond_true,cond_false,String.reduceBEq,YS,YT,YU,YV,YW,YX,YY,YZ,Ya,Yb,Yc,Yd,Ye,Yf] | simp only [Yg,Yh,true_and,Yi,Yj,Yk,Yl,Ym,Yn,Yo,Yp,Yq,Yr,Yt,Yu,Yv,Yw,Yx,Yy,Yz,XA,XB,XC,XD,XE,beq_self_eq_true,reduceIte,reduceCtorEq,↓reduceIte,XF,XG,XH, g5])), by (repeat (first | dsimp only [XI, XJ] | dsimp only [ZA,ZB,ZC,ZD,ZE,ZF,ZG,ZH,ZI,ZJ,ZK,ZL,ZM,ZN,ZO,ZP,ZQ,ZR,ZS,ZT,ZU,ZV,ZW,ZX,ZY,ZZ,Za,Zb,Zc,Zd,Ze,Zf,Zg,Zh,Zi,Zj,Zk,Zl,Zm,Zn,Zo,Zp,Zq,Zr,Zs,Zt,Zu,Zv,Zw,Zx,Zy,Zz,YA,YB,YC,YD,YE,YF,YG,YH,YI,YJ,YK,YL,YM,YN,YO,YP,YQ,YR,Env.set,cond_true,cond_false,String.reduceBEq,YS,YT,YU,YV,YW,YX,YY,YZ,Ya,Yb,Yc,Yd,Ye,Yf] | simp only [Yg,Yh,true_and,Yi,Yj,Yk,Yl,Ym,Yn,Yo,Yp,Yq,Yr,Yt,Yu,Yv,Yw,Yx,Yy,Yz,XA,XB,XC,XD,XE,beq_self_eq_true,reduceIte,reduceCtorEq,↓reduceIte,XF,XG,XH, g6]))⟩
          · have d1 : decide (j ∈ base1 A i) = false := by rw [eb]; simpa using hjm
            have eb2 : base2 A i = [nx A i] ++ [j] := by unfold base2; rw [if_neg hn, if_neg (by rw [← hjx]; exact hjm), hjx]; rfl
            obtain ⟨p1, p2⟩ := hr.add (by simp [ci, eb, lim]) (j : Int)
            (repeat (first | dsimp only [XI, XJ] | dsimp only [ZA,ZB,ZC,ZD,ZE,ZF,ZG,ZH,ZI,ZJ,ZK,ZL,ZM,ZN,ZO,ZP,ZQ,ZR,ZS,ZT,ZU,ZV,ZW,ZX,ZY,ZZ,Za,Zb,Zc,Zd,Ze,Zf,Zg,Zh,Zi,Zj,Zk,Zl,Zm,Zn,Zo,Zp,Zq,Zr,Zs,Zt,Zu,Zv,Zw,Zx,Zy,Zz,YA,YB,YC,YD,YE,YF,YG,YH,YI,YJ,YK,YL,YM,YN,YO,YP,YQ,YR,Env.set,cond_true,cond_false,String.reduceBEq,YS,YT,YU,YV,YW,YX,YY,YZ,Ya,Yb,Yc,Yd,Ye,Yf] | simp only [Yg,Yh,true_and,Yi,Yj,Yk,Yl,Ym,Yn,Yo,Yp,Yq,Yr,Yt,Yu,Yv,Yw,Yx,Yy,Yz,XA,XB,XC,XD,XE,beq_self_eq_true,reduceIte,reduceCtorEq,↓reduceIte,XF,XG,XH, d1, decide_eq_false hjn, g6, (recvL hr).1, p1]))
            refine h1 _ _ ⟨fun c hc => by rw [get_set_ne hc, hk c hc], by rw [List.length_set, hlen], ?_, by (repeat (first | dsimp only [XI, XJ] | dsimp only [ZA,ZB,ZC,ZD,ZE,ZF,ZG,ZH,ZI,ZJ,ZK,ZL,ZM,ZN,ZO,ZP,ZQ,ZR,ZS,ZT,ZU,ZV,ZW,ZX,ZY,ZZ,Za,Zb,Zc,Zd,Ze,Zf,Zg,Zh,Zi,Zj,Zk,Zl,Zm,Zn,Zo,Zp,Zq,Zr,Zs,Zt,Zu,Zv,Zw,Zx,Zy,Zz,YA,YB,YC,YD,YE,YF,YG,YH,YI,YJ,YK,YL,YM,YN,YO,YP,YQ,YR,Env.set,cond_true,cond_false,String.reduceBEq,YS,YT,YU,YV,YW,YX,YY,YZ,Ya,Yb,Yc,Yd,Ye,Yf] | simp only [Yg,Yh,true_and,Yi,Yj,Yk,Yl,Ym,Yn,Yo,Yp,Yq,Yr,Yt,Yu,Yv,Yw,Yx,Yy,Yz,XA,XB,XC,XD,XE,beq_self_eq_true,reduceIte,reduceCtorEq,↓reduceIte,XF,XG,XH, g1])), by (repeat (first | dsimp only [XI, XJ] | dsimp only [ZA,ZB,ZC,ZD,ZE,ZF,ZG,ZH,ZI,ZJ,ZK,ZL,ZM,ZN,ZO,ZP,ZQ,ZR,ZS,ZT,ZU,ZV,ZW,ZX,ZY,ZZ,Za,Zb,Zc,Zd,Ze,Zf,Zg,Zh,Zi,Zj,Zk,Zl,Zm,Zn,Zo,Zp,Zq,Zr,Zs,Zt,Zu,Zv,Zw,Zx,Zy,Zz,YA,YB,YC,YD,YE,YF,YG,YH,YI,YJ,YK,YL,YM,YN,YO,YP,YQ,YR,Env.set,cond_true,cond_false,String.reduceBEq,YS,YT,YU,YV,YW,YX,YY,YZ,Ya,Yb,Yc,Yd,Ye,Yf] | simp only [Yg,Yh,true_and,Yi,Yj,Yk,Yl,Ym,Yn,Yo,Yp,Yq,Yr,Yt,Yu,Yv,Yw,Yx,Yy,Yz,XA,XB,XC,XD,XE,beq_self_eq_true,reduceIte,reduceCtorEq,↓reduceIte,XF,XG,XH, g2])), by (repeat (first | dsimp only [XI, XJ] | dsimp only [ZA,ZB,ZC,ZD,ZE,ZF,ZG,ZH,ZI,ZJ,ZK,ZL,ZM,ZN,ZO,ZP,ZQ,ZR,ZS,ZT,ZU,ZV,ZW,ZX,ZY,ZZ,Za,Zb,Zc,Zd,Ze,Zf,Zg,Zh,Zi,Zj,Zk,Zl,Zm,Zn,Zo,Zp,Zq,Zr,Zs,Zt,Zu,Zv,Zw,Zx,Zy,Zz,YA,YB,YC,YD,YE,YF,YG,YH,YI,YJ,YK,YL,YM,YN,YO,YP,YQ,YR,Env.set,cond_true,cond_false,String.reduceBEq,YS,YT,YU,YV,YW,YX,YY,YZ,Ya,Yb,Yc,Yd,Ye,Yf] | simp only [Yg,Yh,true_and,Yi,Yj,Yk,Yl,Ym,Yn,Yo,Yp,Yq,Yr,Yt,Yu,Yv,Yw,Yx,Yy,Yz,XA,XB,XC,XD,XE,beq_self_eq_true,reduceIte,reduceCtorEq,↓reduceIte,XF,XG,XH, g3])), by (repeat (first | dsimp only [XI, XJ] | dsimp only [ZA,ZB,ZC,ZD,ZE,ZF,ZG,ZH,ZI,ZJ,ZK,ZL,ZM,ZN,ZO,ZP,ZQ,ZR,ZS,ZT,ZU,ZV,ZW,ZX,ZY,ZZ,Za,Zb,Zc,Zd,Ze,Zf,Zg,Zh,Zi,Zj,Zk,Zl,Zm,Zn,Zo,Zp,Zq,Zr,Zs,Zt,Zu,Zv,Zw,Zx,Zy,Zz,YA,YB,YC,YD,YE,YF,YG,YH,YI,YJ,YK,YL,YM,YN,YO,YP,YQ,YR,Env.set,cond_true,cond_false,String.reduceBEq,YS,YT,YU,YV,YW,YX,YY,YZ,Ya,Yb,Yc,Yd,Ye,Yf] | simp only [Yg,Yh,true_and,Yi,Yj,Yk,Yl,Ym,Yn,Yo,Yp,Yq,Yr,Yt,Yu,Yv,Yw,Yx,Yy,Yz,XA,XB,XC,XD,XE,beq_self_eq_true,reduceIte,reduceCtorEq,↓reduceIte,XF,XG,XH, g4])), by (repeat (first | dsimp only [XI, XJ] | dsimp only [ZA,ZB,ZC,ZD,ZE,ZF,ZG,ZH,ZI,ZJ,ZK,ZL,ZM,ZN,ZO,ZP,ZQ,ZR,ZS,ZT,ZU,ZV,ZW,ZX,ZY,ZZ,Za,Zb,Zc,Zd,Ze,Zf,Zg,Zh,Zi,Zj,Zk,Zl,Zm,Zn,Zo,Zp,Zq,Zr,Zs,Zt,Zu,Zv,Zw,Zx,Zy,Zz,YA,YB,YC,YD,YE,YF,YG,YH,YI,YJ,YK,YL,YM,YN,YO,YP,YQ,YR,Env.set,cond_true,cond_false,String.reduceBEq,YS,YT,YU,YV,YW,YX,YY,YZ,Ya,Yb,Yc,Yd,Ye,Yf] | simp only [Yg,Yh,true_and,Yi,Yj,Yk,Yl,Ym,Yn,Yo,Yp,Yq,Yr,Yt,Yu,Yv,Yw,Yx,Yy,Yz,XA,XB,XC,XD,XE,beq_self_eq_true,reduceIte,reduceCtorEq,↓reduceIte,XF,XG,XH, g5])), by (repeat (first | dsimp only [XI, XJ] | dsimp only [ZA,ZB,ZC,ZD,ZE,ZF,ZG,ZH,ZI,ZJ,ZK,ZL,ZM,ZN,ZO,ZP,ZQ,ZR,ZS,ZT,ZU,ZV,ZW,ZX,ZY,ZZ,Za,Zb,Zc,Zd,Ze,Zf,Zg,Zh,Zi,Zj,Zk,Zl,Zm,Zn,Zo,Zp,Zq,Zr,Zs,Zt,Zu,Zv,Zw,Zx,Zy,Zz,YA,YB,YC,YD,YE,YF,YG,YH,YI,YJ,YK,YL,YM,YN,YO,YP,YQ,YR,Env.set,cond_true,cond_false,String.reduceBEq,YS,YT,YU,YV,YW,YX,YY,YZ,Ya,Yb,Yc,Yd,Ye,Yf] | simp only [Yg,Yh,true_and,Yi,Yj,Yk,Yl,Ym,Yn,Yo,Yp,Yq,Yr,Yt,Yu,Yv,Yw,Yx,Yy,Yz,XA,XB,XC,XD,XE,beq_self_eq_true,reduceIte,reduceCtorEq,↓reduceIte,XF,XG,XH, g6]))⟩
            rw [e9, eb2, ← eb]
            have : ci (base1 A i ++ [j]) = ci (base1 A i) ++ [(j : Int)] := by simp [ci]
            rw [this]; exact p2
      · have hjx : j ≠ A.idxOf i := fun q => hji (ej.mp q)
        have e9 : (if A.idxOf i < j + 1 then base2 A i else base1 A i) = (if A.idxOf i < j then base2 A i else base1 A i) := by
          by_cases q : A.idxOf i < j
          · rw [if_pos q, if_pos (by omega)]
          · rw [if_neg q, if_neg (by omega)]
        (repeat (first | dsimp only [XI, XJ] | dsimp only [ZA,ZB,ZC,ZD,ZE,ZF,ZG,ZH,ZI,ZJ,ZK,ZL,ZM,ZN,ZO,ZP,ZQ,ZR,ZS,ZT,ZU,ZV,ZW,ZX,ZY,ZZ,Za,Zb,Zc,Zd,Ze,Zf,Zg,Zh,Zi,Zj,Zk,Zl,Zm,Zn,Zo,Zp,Zq,Zr,Zs,Zt,Zu,Zv,Zw,Zx,Zy,Zz,YA,YB,YC,YD,YE,YF,YG,YH,YI,YJ,YK,YL,YM,YN,YO,YP,YQ,YR,Env.set,cond_true,cond_false,String.reduceBEq,YS,YT,YU,YV,YW,YX,YY,YZ,Ya,Yb,Yc,Yd,Ye,Yf] | simp only [Yg,Yh,true_and,Yi,Yj,Yk,Yl,Ym,Yn,Yo,Yp,Yq,Yr,Yt,Yu,Yv,Yw,Yx,Yy,Yz,XA,XB,XC,XD,XE,beq_self_eq_true,reduceIte,reduceCtorEq,↓reduceIte,XF,XG,XH, decide_eq_false hji]))
        exact h1 _ _ ⟨hk, hlen, by rw [e9]; exact hr, by (repeat (first | dsimp only [XI, XJ] | dsimp only [ZA,ZB,ZC,ZD,ZE,ZF,ZG,ZH,ZI,ZJ,ZK,ZL,ZM,ZN,ZO,ZP,ZQ,ZR,ZS,ZT,ZU,ZV,ZW,ZX,ZY,ZZ,Za,Zb,Zc,Zd,Ze,Zf,Zg,Zh,Zi,Zj,Zk,Zl,Zm,Zn,Zo,Zp,Zq,Zr,Zs,Zt,Zu,Zv,Zw,Zx,Zy,Zz,YA,YB,YC,YD,YE,YF,YG,YH,YI,YJ,YK,YL,YM,YN,YO,YP,YQ,YR,Env.set,cond_true,cond_false,String.reduceBEq,YS,YT,YU,YV,YW,YX,YY,YZ,Ya,Yb,Yc,Yd,Ye,Yf] | simp only [Yg,Yh,true_and,Yi,Yj,Yk,Yl,Ym,Yn,Yo,Yp,Yq,Yr,Yt,Yu,Yv,Yw,Yx,Yy,Yz,XA,XB,XC,XD,XE,beq_self_eq_true,reduceIte,reduceCtorEq,↓reduceIte,XF,XG,XH, g1])), by (repeat (first | dsimp only [XI, XJ] | dsimp only [ZA,ZB,ZC,ZD,ZE,ZF,ZG,ZH,ZI,ZJ,ZK,ZL,ZM,ZN,ZO,ZP,ZQ,ZR,ZS,ZT,ZU,ZV,ZW,ZX,ZY,ZZ,Za,Zb,Zc,Zd,Ze,Zf,Zg,Zh,Zi,Zj,Zk,Zl,Zm,Zn,Zo,Zp,Zq,Zr,Zs,Zt,Zu,Zv,Zw,Zx,Zy,Zz,YA,YB,YC,YD,YE,YF,YG,YH,YI,YJ,YK,YL,YM,YN,YO,YP,YQ,YR,Env.set,cond_true,cond_false,String.reduceBEq,YS,YT,YU,YV,YW,YX,YY,YZ,Ya,Yb,Yc,Yd,Ye,Yf] | simp only [Yg,Yh,true_and,Yi,Yj,Yk,Yl,Ym,Yn,Yo,Yp,Yq,Yr,Yt,Yu,Yv,Yw,Yx,Yy,Yz,XA,XB,XC,XD,XE,beq_self_eq_true,reduceIte,reduceCtorEq,↓reduceIte,XF,XG,XH, g2])), by (repeat (first | dsimp only [XI, XJ] | dsimp only [ZA,ZB,ZC,ZD,ZE,ZF,ZG,ZH,ZI,ZJ,ZK,ZL,ZM,ZN,ZO,ZP,ZQ,ZR,ZS,ZT,ZU,ZV,ZW,ZX,ZY,ZZ,Za,Zb,Zc,Zd,Ze,Zf,Zg,Zh,Zi,Zj,Zk,Zl,Zm,Zn,Zo,Zp,Zq,Zr,Zs,Zt,Zu,Zv,Zw,Zx,Zy,Zz,YA,YB,YC,YD,YE,YF,YG,YH,YI,YJ,YK,YL,YM,YN,YO,YP,YQ,YR,Env.set,cond_true,cond_false,String.reduceBEq,YS,YT,YU,YV,YW,YX,YY,YZ,Ya,Yb,Yc,Yd,Ye,Yf] | simp only [Yg,Yh,true_and,Yi,Yj,Yk,Yl,Ym,Yn,Yo,Yp,Yq,Yr,Yt,Yu,Yv,Yw,Yx,Yy,Yz,XA,XB,XC,XD,XE,beq_self_eq_true,reduceIte,reduceCtorEq,↓reduceIte,XF,XG,XH, g3])), by (repeat (first | dsimp only [XI, XJ] | dsimp only [ZA,ZB,ZC,ZD,ZE,ZF,ZG,ZH,ZI,ZJ,ZK,ZL,ZM,ZN,ZO,ZP,ZQ,ZR,ZS,ZT,ZU,ZV,ZW,ZX,ZY,ZZ,Za,Zb,Zc,Zd,Ze,Zf,Zg,Zh,Zi,Zj,Zk,Zl,Zm,Zn,Zo,Zp,Zq,Zr,Zs,Zt,Zu,Zv,Zw,Zx,Zy,Zz,YA,YB,YC,YD,YE,YF,YG,YH,YI,YJ,YK,YL,YM,YN,YO,YP,YQ,YR,Env.set,cond_true,cond_false,String.reduceBEq,YS,YT,YU,YV,YW,YX,YY,YZ,Ya,Yb,Yc,Yd,Ye,Yf] | simp only [Yg,Yh,true_and,Yi,Yj,Yk,Yl,Ym,Yn,Yo,Yp,Yq,Yr,Yt,Yu,Yv,Yw,Yx,Yy,Yz,XA,XB,XC,XD,XE,beq_self_eq_true,reduceIte,reduceCtorEq,↓reduceIte,XF,XG,XH, g4])), by (repeat (first | dsimp only [XI, XJ] | dsimp only [ZA,ZB,ZC,ZD,ZE,ZF,ZG,ZH,ZI,ZJ,ZK,ZL,ZM,ZN,ZO,ZP,ZQ,ZR,ZS,ZT,ZU,ZV,ZW,ZX,ZY,ZZ,Za,Zb,Zc,Zd,Ze,Zf,Zg,Zh,Zi,Zj,Zk,Zl,Zm,Zn,Zo,Zp,Zq,Zr,Zs,Zt,Zu,Zv,Zw,Zx,Zy,Zz,YA,YB,YC,YD,YE,YF,YG,YH,YI,YJ,YK,YL,YM,YN,YO,YP,YQ,YR,Env.set,cond_true,cond_false,String.reduceBEq,YS,YT,YU,YV,YW,YX,YY,YZ,Ya,Yb,Yc,Yd,Ye,Yf] | simp only [Yg,Yh,true_and,Yi,Yj,Yk,Yl,Ym,Yn,Yo,Yp,Yq,Yr,Yt,Yu,Yv,Yw,Yx,Yy,Yz,XA,XB,XC,XD,XE,beq_self_eq_true,reduceIte,reduceCtorEq,↓reduceIte,XF,XG,XH, g5])), by (repeat (first | dsimp only [XI, XJ] | dsimp only [ZA,ZB,ZC,ZD,ZE,ZF,ZG,ZH,ZI,ZJ,ZK,ZL,ZM,ZN,ZO,ZP,ZQ,ZR,ZS,ZT,ZU,ZV,ZW,ZX,ZY,ZZ,Za,Zb,Zc,Zd,Ze,Zf,Zg,Zh,Zi,Zj,Zk,Zl,Zm,Zn,Zo,Zp,Zq,Zr,Zs,Zt,Zu,Zv,Zw,Zx,Zy,Zz,YA,YB,YC,YD,YE,YF,YG,YH,YI,YJ,YK,YL,YM,YN,YO,YP,YQ,YR,Env.set,cond_true,cond_false,String.reduceBEq,YS,YT,YU,YV,YW,YX,YY,YZ,Ya,Yb,Yc,Yd,Ye,Yf] | simp only [Yg,Yh,true_and,Yi,Yj,Yk,Yl,Ym,Yn,Yo,Yp,Yq,Yr,Yt,Yu,Yv,Yw,Yx,Yy,Yz,XA,XB,XC,XD,XE,beq_self_eq_true,reduceIte,reduceCtorEq,↓reduceIte,XF,XG,XH, g6]))⟩
    · obtain ⟨hk, hlen, hr, g1, g2, g3, g4, g5, g6⟩ := hI
      rw [rng_len, if_pos hidx] at hr
      refine k5 _ _ (wSs_step fun K4 k7 k8 => ?_)
      clear k5 k6 K3
      have e3i : (3 : Int) + (i : Int) = ((3 + i : Nat) : Int) := by omega
      have hs' : H'[s]? = some (.frozen (is.map .int)) := by rw [hk s (by omega), hk2 s hsl]; exact hs
      refine wS_forS_src fun KS hKS => ?_
      (repeat (first | dsimp only [XI, XJ] | dsimp only [ZA,ZB,ZC,ZD,ZE,ZF,ZG,ZH,ZI,ZJ,ZK,ZL,ZM,ZN,ZO,ZP,ZQ,ZR,ZS,ZT,ZU,ZV,ZW,ZX,ZY,ZZ,Za,Zb,Zc,Zd,Ze,Zf,Zg,Zh,Zi,Zj,Zk,Zl,Zm,Zn,Zo,Zp,Zq,Zr,Zs,Zt,Zu,Zv,Zw,Zx,Zy,Zz,YA,YB,YC,YD,YE,YF,YG,YH,YI,YJ,YK,YL,YM,YN,YO,YP,YQ,YR,Env.set,cond_true,cond_false,String.reduceBEq,YS,YT,YU,YV,YW,YX,YY,YZ,Ya,Yb,Yc,Yd,Ye,Yf] | simp only [Yg,Yh,true_and,Yi,Yj,Yk,Yl,Ym,Yn,Yo,Yp,Yq,Yr,Yt,Yu,Yv,Yw,Yx,Yy,Yz,XA,XB,XC,XD,XE,beq_self_eq_true,reduceIte,reduceCtorEq,↓reduceIte,XF,XG,XH, g1, g2, g3, g4, e3i]))
      refine s_cell_at hP2 (by unfold seqOf; rw [hs']) ?_
      (repeat (first | dsimp only [XI, XJ] | dsimp only [ZA,ZB,ZC,ZD,ZE,ZF,ZG,ZH,ZI,ZJ,ZK,ZL,ZM,ZN,ZO,ZP,ZQ,ZR,ZS,ZT,ZU,ZV,ZW,ZX,ZY,ZZ,Za,Zb,Zc,Zd,Ze,Zf,Zg,Zh,Zi,Zj,Zk,Zl,Zm,Zn,Zo,Zp,Zq,Zr,Zs,Zt,Zu,Zv,Zw,Zx,Zy,Zz,YA,YB,YC,YD,YE,YF,YG,YH,YI,YJ,YK,YL,YM,YN,YO,YP,YQ,YR,Env.set,cond_true,cond_false,String.reduceBEq,YS,YT,YU,YV,YW,YX,YY,YZ,Ya,Yb,Yc,Yd,Ye,Yf] | simp only [Yg,Yh,true_and,Yi,Yj,Yk,Yl,Ym,Yn,Yo,Yp,Yq,Yr,Yt,Yu,Yv,Yw,Yx,Yy,Yz,XA,XB,XC,XD,XE,beq_self_eq_true,reduceIte,reduceCtorEq,↓reduceIte,XF,XG,XH, g3, g4]))
      refine s_row_by2 hP3 h6 fun H3 r l hp3 hr3 hl lok => ?_
      refine hKS _ _ _ hl.seq ?_
      have hrow3 : LI H3 d (ci (base2 A i)) := hr.pre hp3
      have hA3 : ∀ c, c < H2.length → c ≠ d → H3[c]? = H2[c]? := fun c hc hcd => by
        rw [← hk c hcd]
        obtain ⟨t, rfl⟩ := hp3
        exact List.getElem?_append_left (by omega)
      have rok2 : RowOk (ci (base2 A i)) i A.length := by
        unfold base2
        by_cases hn : nx A i = i
        · rw [if_pos hn]; exact rowOk_mk h6 (by simp [ci]) (by simp [ci]) (by simp [ci])
        · rw [if_neg hn]
          have h1 := ok.nx hi
          have h2 : A.idxOf i ≠ i := fun q => by have := (nx_idx ok hi).1; rw [q] at this; exact hn this
          by_cases q : A.idxOf i = nx A i
          · rw [if_pos q]
            exact rowOk_mk h6 (by simp [ci]; omega) (by simp [ci]; omega) (by simp [ci])
          · rw [if_neg q]
            exact rowOk_mk h6 (by simp [ci]; omega) (by simp [ci]; omega) (by simp [ci]; omega)
      have dl : d < H3.length := by have := hp3.length_le; omega
      have hrd : r ≠ d := by omega
      refine wFor_idx (fun j ρ' H' => (∀ c, c ≠ d → H'[c]? = H3[c]?) ∧ H'.length = H3.length ∧ (∃ l, LI H' d l ∧ MadeRow A i l) ∧
        ρ' "_law_script" = some (.ref s) ∧ ρ' "_law_after" = some (.ref a) ∧ ρ' "_law_guest" = some (.int (i : Int)) ∧ ρ' "_law_many" = some (.int (A.length : Int)) ∧ ρ' "_law_wishes" = some (.ref w) ∧ ρ' "_law_row" = some (.ref d))
        ⟨(fun _ _ => rfl), rfl, ⟨_, hrow3, rok2, ⟨[], by simp⟩, fun hn j hj hm => by unfold base2 at hm; rw [if_pos hn] at hm; cases hm⟩, g1, g2, g3, g4, g5, g6⟩ (fun j v ρ' H' hv hI => ?_) fun ρ' H' hI => ?_
      · obtain ⟨hk', hlen', ⟨l2, hl2, mk⟩, t1, t2, t3, t4, t5, t6⟩ := hI
        refine ⟨hk' r hrd, fun k' h1 h2 => ?_⟩
        rw [List.getElem?_map] at hv
        obtain ⟨x, hx, rfl⟩ := Option.map_eq_some_iff.mp hv
        have hxm := List.mem_of_getElem? hx
        obtain ⟨x0, x1⟩ := lok.low x hxm
        have hxi : x ≠ (i : Int) := fun q => lok.ne (q ▸ hxm)
        obtain ⟨y, rfl⟩ : ∃ y : Nat, x = (y : Int) := ⟨x.toNat, by omega⟩
        have hy : y < A.length := by omega
        have hA' : LN H' a A := by unfold LN; rw [hk' a (by omega), hA3 a (by have := hp3.length_le; omega) (by omega), hk2 a hal]; exact hA
        have fin : ∀ H'' ρ'', (∀ c, c ≠ d → H''[c]? = H3[c]?) → H''.length = H3.length → (∃ l, LI H'' d l ∧ MadeRow A i l) → ρ'' "_law_script" = some (.ref s) → ρ'' "_law_after" = some (.ref a) → ρ'' "_law_guest" = some (.int (i : Int)) → ρ'' "_law_many" = some (.int (A.length : Int)) → ρ'' "_law_wishes" = some (.ref w) → ρ'' "_law_row" = some (.ref d) → k' none ρ'' H'' := fun H'' ρ'' a1 a2 a3 a4 a5 a6 a7 a8 a9 => h1 _ _ ⟨a1, a2, a3, a4, a5, a6, a7, a8, a9⟩
        have ends : ∀ alone : Bool, (alone = true ↔ (nx A i = i ∧ nx A y = y)) → wSs ⟨b, callN P b (N + 1), P.glob⟩ [.ite (.and_ [.op (.cmp .notIn) [.var "_law_one", .var "_law_row"], .not_ (.var "_law_alone")])
            [.expr (.mcall .append (.var "_law_row") [.var "_law_one"])]
            []] ((ρ'.set "_law_one" (.int (y : Int))).set "_law_alone" (.bool alone)) H' k' X := by
          intro alone hal2
          (repeat (first | dsimp only [XI, XJ] | dsimp only [ZA,ZB,ZC,ZD,ZE,ZF,ZG,ZH,ZI,ZJ,ZK,ZL,ZM,ZN,ZO,ZP,ZQ,ZR,ZS,ZT,ZU,ZV,ZW,ZX,ZY,ZZ,Za,Zb,Zc,Zd,Ze,Zf,Zg,Zh,Zi,Zj,Zk,Zl,Zm,Zn,Zo,Zp,Zq,Zr,Zs,Zt,Zu,Zv,Zw,Zx,Zy,Zz,YA,YB,YC,YD,YE,YF,YG,YH,YI,YJ,YK,YL,YM,YN,YO,YP,YQ,YR,Env.set,cond_true,cond_false,String.reduceBEq,YS,YT,YU,YV,YW,YX,YY,YZ,Ya,Yb,Yc,Yd,Ye,Yf] | simp only [Yg,Yh,true_and,Yi,Yj,Yk,Yl,Ym,Yn,Yo,Yp,Yq,Yr,Yt,Yu,Yv,Yw,Yx,Yy,Yz,XA,XB,XC,XD,XE,beq_self_eq_true,reduceIte,reduceCtorEq,↓reduceIte,XF,XG,XH, t6, hl2.mem]))
          refine ⟨fun q1 => ⟨fun q2 => ?_, fun q2 => fin _ _ hk' hlen' ⟨l2, hl2, mk⟩ (by (repeat (first | dsimp only [XI, XJ] | dsimp only [ZA,ZB,ZC,ZD,ZE,ZF,ZG,ZH,ZI,ZJ,ZK,ZL,ZM,ZN,ZO,ZP,ZQ,ZR,ZS,ZT,ZU,ZV,ZW,ZX,ZY,ZZ,Za,Zb,Zc,Zd,Ze,Zf,Zg,Zh,Zi,Zj,Zk,Zl,Zm,Zn,Zo,Zp,Zq,Zr,Zs,Zt,Zu,Zv,Zw,Zx,Zy,Zz,YA,YB,YC,YD,YE,YF,YG,YH,YI,YJ,YK,YL,YM,YN,YO,YP,YQ,YR,Env.set,cond_true,cond_false,String.reduceBEq,YS,YT,YU,YV,YW,YX,YY,YZ,Ya,Yb,Yc,Yd,Ye,Yf] | simp only [Yg,Yh,true_and,Yi,Yj,Yk,Yl,Ym,Yn,Yo,Yp,Yq,Yr,Yt,Yu,Yv,Yw,Yx,Yy,Yz,XA,XB,XC,XD,XE,beq_self_eq_true,reduceIte,reduceCtorEq,↓reduceIte,XF,XG,XH, t1]))) (by (repeat (first | dsimp only [XI, XJ] | dsimp only [ZA,ZB,ZC,ZD,ZE,ZF,ZG,ZH,ZI,ZJ,ZK,ZL,ZM,ZN,ZO,ZP,ZQ,ZR,ZS,ZT,ZU,ZV,ZW,ZX,ZY,ZZ,Za,Zb,Zc,Zd,Ze,Zf,Zg,Zh,Zi,Zj,Zk,Zl,Zm,Zn,Zo,Zp,Zq,Zr,Zs,Zt,Zu,Zv,Zw,Zx,Zy,Zz,YA,YB,YC,YD,YE,YF,YG,YH,YI,YJ,YK,YL,YM,YN,YO,YP,YQ,YR,Env.set,cond_true,cond_false,String.reduceBEq,YS,YT,YU,YV,YW,YX,YY,YZ,Ya,Yb,Yc,Yd,Ye,Yf] | simp only [Yg,Yh,true_and,Yi,Yj,Yk,Yl,Ym,Yn,Yo,Yp,Yq,Yr,Yt,Yu,Yv,Yw,Yx,Yy,Yz,XA,XB,XC,XD,XE,beq_self_eq_true,reduceIte,reduceCtorEq,↓reduceIte,XF,XG,XH, t2]))) (by (repeat (first | dsimp only [XI, XJ] | dsimp only [ZA,ZB,ZC,ZD,ZE,ZF,ZG,ZH,ZI,ZJ,ZK,ZL,ZM,ZN,ZO,ZP,ZQ,ZR,ZS,ZT,ZU,ZV,ZW,ZX,ZY,ZZ,Za,Zb,Zc,Zd,Ze,Zf,Zg,Zh,Zi,Zj,Zk,Zl,Zm,Zn,Zo,Zp,Zq,Zr,Zs,Zt,Zu,Zv,Zw,Zx,Zy,Zz,YA,YB,YC,YD,YE,YF,YG,YH,YI,YJ,YK,YL,YM,YN,YO,YP,YQ,YR,Env.set,cond_true,cond_false,String.reduceBEq,YS,YT,YU,YV,YW,YX,YY,YZ,Ya,Yb,Yc,Yd,Ye,Yf] | simp only [Yg,Yh,true_and,Yi,Yj,Yk,Yl,Ym,Yn,Yo,Yp,Yq,Yr,Yt,Yu,Yv,Yw,Yx,Yy,Yz,XA,XB,XC,XD,XE,beq_self_eq_true,reduceIte,reduceCtorEq,↓reduceIte,XF,XG,XH, t3]))) (by (repeat (first | dsimp only [XI, XJ] | dsimp only [ZA,ZB,ZC,ZD,ZE,ZF,ZG,ZH,ZI,ZJ,ZK,ZL,ZM,ZN,ZO,ZP,ZQ,ZR,ZS,ZT,ZU,ZV,ZW,ZX,ZY,ZZ,Za,Zb,Zc,Zd,Ze,Zf,Zg,Zh,Zi,Zj,Zk,Zl,Zm,Zn,Zo,Zp,Zq,Zr,Zs,Zt,Zu,Zv,Zw,Zx,Zy,Zz,YA,YB,YC,YD,YE,YF,YG,YH,YI,YJ,YK,YL,YM,YN,YO,YP,YQ,YR,Env.set,cond_true,cond_false,String.reduceBEq,YS,YT,YU,YV,YW,YX,YY,YZ,Ya,Yb,Yc,Yd,Ye,Yf] | simp only [Yg,Yh,true_and,Yi,Yj,Yk,Yl,Ym,Yn,Yo,Yp,Yq,Yr,Yt,Yu,Yv,Yw,Yx,Yy,Yz,XA,XB,XC,XD,XE,beq_self_eq_true,reduceIte,reduceCtorEq,↓reduceIte,XF,XG,XH, t4]))) (by (repeat (first | dsimp only [XI, XJ] | dsimp only [ZA,ZB,ZC,ZD,ZE,ZF,ZG,ZH,ZI,ZJ,ZK,ZL,ZM,ZN,ZO,ZP,ZQ,ZR,ZS,ZT,ZU,ZV,ZW,ZX,ZY,ZZ,Za,Zb,Zc,Zd,Ze,Zf,Zg,Zh,Zi,Zj,Zk,Zl,Zm,Zn,Zo,Zp,Zq,Zr,Zs,Zt,Zu,Zv,Zw,Zx,Zy,Zz,YA,YB,YC,YD,YE,YF,YG,YH,YI,YJ,YK,YL,YM,YN,YO,YP,YQ,YR,Env.set,cond_true,cond_false,String.reduceBEq,YS,YT,YU,YV,YW,YX,YY,YZ,Ya,Yb,Yc,Yd,Ye,Yf] | simp only [Yg,Yh,true_and,Yi,Yj,Yk,Yl,Ym,Yn,Yo,Yp,Yq,Yr,Yt,Yu,Yv,Yw,Yx,Yy,Yz,XA,XB,XC,XD,XE,beq_self_eq_true,reduceIte,reduceCtorEq,↓reduceIte,XF,XG,XH, t5]))) (by (repeat (first | dsimp only [XI, XJ] | dsimp only [ZA,ZB,ZC,ZD,ZE,ZF,ZG,ZH,ZI,ZJ,ZK,ZL,ZM,ZN,ZO,ZP,ZQ,ZR,ZS,ZT,ZU,ZV,ZW,ZX,ZY,ZZ,Za,Zb,Zc,Zd,Ze,Zf,Zg,Zh,Zi,Zj,Zk,Zl,Zm,Zn,Zo,Zp,Zq,Zr,Zs,Zt,Zu,Zv,Zw,Zx,Zy,Zz,YA,YB,YC,YD,YE,YF,YG,YH,YI,YJ,YK,YL,YM,YN,YO,YP,YQ,YR,Env.set,cond_true,cond_false,String.reduceBEq,YS,YT,YU,YV,YW,YX,YY,YZ,Ya,Yb,Yc,Yd,Ye,Yf] | simp only [Yg,Yh,true_and,Yi,Yj,Yk,Yl,Ym,Yn,Yo,Yp,Yq,Yr,Yt,Yu,Yv,Yw,Yx,Yy,Yz,XA,XB,XC,XD,XE,beq_self_eq_true,reduceIte,reduceCtorEq,↓reduceIte,XF,XG,XH, t6])))⟩, fun q1 => fin _ _ hk' hlen' ⟨l2, hl2, mk⟩ (by (repeat (first | dsimp only [XI, XJ] | dsimp only [ZA,ZB,ZC,ZD,ZE,ZF,ZG,ZH,ZI,ZJ,ZK,ZL,ZM,ZN,ZO,ZP,ZQ,ZR,ZS,ZT,ZU,ZV,ZW,ZX,ZY,ZZ,Za,Zb,Zc,Zd,Ze,Zf,Zg,Zh,Zi,Zj,Zk,Zl,Zm,Zn,Zo,Zp,Zq,Zr,Zs,Zt,Zu,Zv,Zw,Zx,Zy,Zz,YA,YB,YC,YD,YE,YF,YG,YH,YI,YJ,YK,YL,YM,YN,YO,YP,YQ,YR,Env.set,cond_true,cond_false,String.reduceBEq,YS,YT,YU,YV,YW,YX,YY,YZ,Ya,Yb,Yc,Yd,Ye,Yf] | simp only [Yg,Yh,true_and,Yi,Yj,Yk,Yl,Ym,Yn,Yo,Yp,Yq,Yr,Yt,Yu,Yv,Yw,Yx,Yy,Yz,XA,XB,XC,XD,XE,beq_self_eq_true,reduceIte,reduceCtorEq,↓reduceIte,XF,XG,XH, t1]))) (by (repeat (first | dsimp only [XI, XJ] | dsimp only [ZA,ZB,ZC,ZD,ZE,ZF,ZG,ZH,ZI,ZJ,ZK,ZL,ZM,ZN,ZO,ZP,ZQ,ZR,ZS,ZT,ZU,ZV,ZW,ZX,ZY,ZZ,Za,Zb,Zc,Zd,Ze,Zf,Zg,Zh,Zi,Zj,Zk,Zl,Zm,Zn,Zo,Zp,Zq,Zr,Zs,Zt,Zu,Zv,Zw,Zx,Zy,Zz,YA,YB,YC,YD,YE,YF,YG,YH,YI,YJ,YK,YL,YM,YN,YO,YP,YQ,YR,Env.set,cond_true,cond_false,String.reduceBEq,YS,YT,YU,YV,YW,YX,YY,YZ,Ya,Yb,Yc,Yd,Ye,Yf] | simp only [Yg,Yh,true_and,Yi,Yj,Yk,Yl,Ym,Yn,Yo,Yp,Yq,Yr,Yt,Yu,Yv,Yw,Yx,Yy,Yz,XA,XB,XC,XD,XE,beq_self_eq_true,reduceIte,reduceCtorEq,↓reduceIte,XF,XG,XH, t2]))) (by (repeat (first | dsimp only [XI, XJ] | dsimp only [ZA,ZB,ZC,ZD,ZE,ZF,ZG,ZH,ZI,ZJ,ZK,ZL,ZM,ZN,ZO,ZP,ZQ,ZR,ZS,ZT,ZU,ZV,ZW,ZX,ZY,ZZ,Za,Zb,Zc,Zd,Ze,Zf,Zg,Zh,Zi,Zj,Zk,Zl,Zm,Zn,Zo,Zp,Zq,Zr,Zs,Zt,Zu,Zv,Zw,Zx,Zy,Zz,YA,YB,YC,YD,YE,YF,YG,YH,YI,YJ,YK,YL,YM,YN,YO,YP,YQ,YR,Env.set,cond_true,cond_false,String.reduceBEq,YS,YT,YU,YV,YW,YX,YY,YZ,Ya,Yb,Yc,Yd,Ye,Yf] | simp only [Yg,Yh,true_and,Yi,Yj,Yk,Yl,Ym,Yn,Yo,Yp,Yq,Yr,Yt,Yu,Yv,Yw,Yx,Yy,Yz,XA,XB,XC,XD,XE,beq_self_eq_true,reduceIte,reduceCtorEq,↓reduceIte,XF,XG,XH, t3]))) (by (repeat (first | dsimp only [XI, XJ] | dsimp only [ZA,ZB,ZC,ZD,ZE,ZF,ZG,ZH,ZI,ZJ,ZK,ZL,ZM,ZN,ZO,ZP,ZQ,ZR,ZS,ZT,ZU,ZV,ZW,ZX,ZY,ZZ,Za,Zb,Zc,Zd,Ze,Zf,Zg,Zh,Zi,Zj,Zk,Zl,Zm,Zn,Zo,Zp,Zq,Zr,Zs,Zt,Zu,Zv,Zw,Zx,Zy,Zz,YA,YB,YC,YD,YE,YF,YG,YH,YI,YJ,YK,YL,YM,YN,YO,YP,YQ,YR,Env.set,cond_true,cond_false,String.reduceBEq,YS,YT,YU,YV,YW,YX,YY,YZ,Ya,Yb,Yc,Yd,Ye,Yf] | simp only [Yg,Yh,true_and,Yi,Yj,Yk,Yl,Ym,Yn,Yo,Yp,Yq,Yr,Yt,Yu,Yv,Yw,Yx,Yy,Yz,XA,XB,XC,XD,XE,beq_self_eq_true,reduceIte,reduceCtorEq,↓reduceIte,XF,XG,XH, t4]))) (by (repeat (first | dsimp only [XI, XJ] | dsimp only [ZA,ZB,ZC,ZD,ZE,ZF,ZG,ZH,ZI,ZJ,ZK,ZL,ZM,ZN,ZO,ZP,ZQ,ZR,ZS,ZT,ZU,ZV,ZW,ZX,ZY,ZZ,Za,Zb,Zc,Zd,Ze,Zf,Zg,Zh,Zi,Zj,Zk,Zl,Zm,Zn,Zo,Zp,Zq,Zr,Zs,Zt,Zu,Zv,Zw,Zx,Zy,Zz,YA,YB,YC,YD,YE,YF,YG,YH,YI,YJ,YK,YL,YM,YN,YO,YP,YQ,YR,Env.set,cond_true,cond_false,String.reduceBEq,YS,YT,YU,YV,YW,YX,YY,YZ,Ya,Yb,Yc,Yd,Ye,Yf] | simp only [Yg,Yh,true_and,Yi,Yj,Yk,Yl,Ym,Yn,Yo,Yp,Yq,Yr,Yt,Yu,Yv,Yw,Yx,Yy,Yz,XA,XB,XC,XD,XE,beq_self_eq_true,reduceIte,reduceCtorEq,↓reduceIte,XF,XG,XH, t5]))) (by (repeat (first | dsimp only [XI, XJ] | dsimp only [ZA,ZB,ZC,ZD,ZE,ZF,ZG,ZH,ZI,ZJ,ZK,ZL,ZM,ZN,ZO,ZP,ZQ,ZR,ZS,ZT,ZU,ZV,ZW,ZX,ZY,ZZ,Za,Zb,Zc,Zd,Ze,Zf,Zg,Zh,Zi,Zj,Zk,Zl,Zm,Zn,Zo,Zp,Zq,Zr,Zs,Zt,Zu,Zv,Zw,Zx,Zy,Zz,YA,YB,YC,YD,YE,YF,YG,YH,YI,YJ,YK,YL,YM,YN,YO,YP,YQ,YR,Env.set,cond_true,cond_false,String.reduceBEq,YS,YT,YU,YV,YW,YX,YY,YZ,Ya,Yb,Yc,Yd,Ye,Yf] | simp only [Yg,Yh,true_and,Yi,Yj,Yk,Yl,Ym,Yn,Yo,Yp,Yq,Yr,Yt,Yu,Yv,Yw,Yx,Yy,Yz,XA,XB,XC,XD,XE,beq_self_eq_true,reduceIte,reduceCtorEq,↓reduceIte,XF,XG,XH, t6])))⟩
          have hnm : (y : Int) ∉ l2 := by simpa using q1
          have hna : ¬ (nx A i = i ∧ nx A y = y) := fun z => by rw [hal2.mpr z] at q2; cases q2
          obtain ⟨p1, p2⟩ := hl2.add (by have := mk.row.len; unfold lim; omega) (y : Int)
          (repeat (first | dsimp only [XI, XJ] | dsimp only [ZA,ZB,ZC,ZD,ZE,ZF,ZG,ZH,ZI,ZJ,ZK,ZL,ZM,ZN,ZO,ZP,ZQ,ZR,ZS,ZT,ZU,ZV,ZW,ZX,ZY,ZZ,Za,Zb,Zc,Zd,Ze,Zf,Zg,Zh,Zi,Zj,Zk,Zl,Zm,Zn,Zo,Zp,Zq,Zr,Zs,Zt,Zu,Zv,Zw,Zx,Zy,Zz,YA,YB,YC,YD,YE,YF,YG,YH,YI,YJ,YK,YL,YM,YN,YO,YP,YQ,YR,Env.set,cond_true,cond_false,String.reduceBEq,YS,YT,YU,YV,YW,YX,YY,YZ,Ya,Yb,Yc,Yd,Ye,Yf] | simp only [Yg,Yh,true_and,Yi,Yj,Yk,Yl,Ym,Yn,Yo,Yp,Yq,Yr,Yt,Yu,Yv,Yw,Yx,Yy,Yz,XA,XB,XC,XD,XE,beq_self_eq_true,reduceIte,reduceCtorEq,↓reduceIte,XF,XG,XH, t6, (recvL hl2).1, p1]))
          refine fin _ _ (fun c hc => by rw [get_set_ne hc, hk' c hc]) (by rw [List.length_set, hlen']) ⟨_, p2, rowOk_add h6 mk.row x0 x1 hxi hnm, ?_, fun hn z hz hm => ?_⟩ (by (repeat (first | dsimp only [XI, XJ] | dsimp only [ZA,ZB,ZC,ZD,ZE,ZF,ZG,ZH,ZI,ZJ,ZK,ZL,ZM,ZN,ZO,ZP,ZQ,ZR,ZS,ZT,ZU,ZV,ZW,ZX,ZY,ZZ,Za,Zb,Zc,Zd,Ze,Zf,Zg,Zh,Zi,Zj,Zk,Zl,Zm,Zn,Zo,Zp,Zq,Zr,Zs,Zt,Zu,Zv,Zw,Zx,Zy,Zz,YA,YB,YC,YD,YE,YF,YG,YH,YI,YJ,YK,YL,YM,YN,YO,YP,YQ,YR,Env.set,cond_true,cond_false,String.reduceBEq,YS,YT,YU,YV,YW,YX,YY,YZ,Ya,Yb,Yc,Yd,Ye,Yf] | simp only [Yg,Yh,true_and,Yi,Yj,Yk,Yl,Ym,Yn,Yo,Yp,Yq,Yr,Yt,Yu,Yv,Yw,Yx,Yy,Yz,XA,XB,XC,XD,XE,beq_self_eq_true,reduceIte,reduceCtorEq,↓reduceIte,XF,XG,XH, t1]))) (by (repeat (first | dsimp only [XI, XJ] | dsimp only [ZA,ZB,ZC,ZD,ZE,ZF,ZG,ZH,ZI,ZJ,ZK,ZL,ZM,ZN,ZO,ZP,ZQ,ZR,ZS,ZT,ZU,ZV,ZW,ZX,ZY,ZZ,Za,Zb,Zc,Zd,Ze,Zf,Zg,Zh,Zi,Zj,Zk,Zl,Zm,Zn,Zo,Zp,Zq,Zr,Zs,Zt,Zu,Zv,Zw,Zx,Zy,Zz,YA,YB,YC,YD,YE,YF,YG,YH,YI,YJ,YK,YL,YM,YN,YO,YP,YQ,YR,Env.set,cond_true,cond_false,String.reduceBEq,YS,YT,YU,YV,YW,YX,YY,YZ,Ya,Yb,Yc,Yd,Ye,Yf] | simp only [Yg,Yh,true_and,Yi,Yj,Yk,Yl,Ym,Yn,Yo,Yp,Yq,Yr,Yt,Yu,Yv,Yw,Yx,Yy,Yz,XA,XB,XC,XD,XE,beq_self_eq_true,reduceIte,reduceCtorEq,↓reduceIte,XF,XG,XH, t2]))) (by (repeat (first | dsimp only [XI, XJ] | dsimp only [ZA,ZB,ZC,ZD,ZE,ZF,ZG,ZH,ZI,ZJ,ZK,ZL,ZM,ZN,ZO,ZP,ZQ,ZR,ZS,ZT,ZU,ZV,ZW,ZX,ZY,ZZ,Za,Zb,Zc,Zd,Ze,Zf,Zg,Zh,Zi,Zj,Zk,Zl,Zm,Zn,Zo,Zp,Zq,Zr,Zs,Zt,Zu,Zv,Zw,Zx,Zy,Zz,YA,YB,YC,YD,YE,YF,YG,YH,YI,YJ,YK,YL,YM,YN,YO,YP,YQ,YR,Env.set,cond_true,cond_false,String.reduceBEq,YS,YT,YU,YV,YW,YX,YY,YZ,Ya,Yb,Yc,Yd,Ye,Yf] | simp only [Yg,Yh,true_and,Yi,Yj,Yk,Yl,Ym,Yn,Yo,Yp,Yq,Yr,Yt,Yu,Yv,Yw,Yx,Yy,Yz,XA,XB,XC,XD,XE,beq_self_eq_true,reduceIte,reduceCtorEq,↓reduceIte,XF,XG,XH, t3]))) (by (repeat (first | dsimp only [XI, XJ] | dsimp only [ZA,ZB,ZC,ZD,ZE,ZF,ZG,ZH,ZI,ZJ,ZK,ZL,ZM,ZN,ZO,ZP,ZQ,ZR,ZS,ZT,ZU,ZV,ZW,ZX,ZY,ZZ,Za,Zb,Zc,Zd,Ze,Zf,Zg,Zh,Zi,Zj,Zk,Zl,Zm,Zn,Zo,Zp,Zq,Zr,Zs,Zt,Zu,Zv,Zw,Zx,Zy,Zz,YA,YB,YC,YD,YE,YF,YG,YH,YI,YJ,YK,YL,YM,YN,YO,YP,YQ,YR,Env.set,cond_true,cond_false,String.reduceBEq,YS,YT,YU,YV,YW,YX,YY,YZ,Ya,Yb,Yc,Yd,Ye,Yf] | simp only [Yg,Yh,true_and,Yi,Yj,Yk,Yl,Ym,Yn,Yo,Yp,Yq,Yr,Yt,Yu,Yv,Yw,Yx,Yy,Yz,XA,XB,XC,XD,XE,beq_self_eq_true,reduceIte,reduceCtorEq,↓reduceIte,XF,XG,XH, t4]))) (by (repeat (first | dsimp only [XI, XJ] | dsimp only [ZA,ZB,ZC,ZD,ZE,ZF,ZG,ZH,ZI,ZJ,ZK,ZL,ZM,ZN,ZO,ZP,ZQ,ZR,ZS,ZT,ZU,ZV,ZW,ZX,ZY,ZZ,Za,Zb,Zc,Zd,Ze,Zf,Zg,Zh,Zi,Zj,Zk,Zl,Zm,Zn,Zo,Zp,Zq,Zr,Zs,Zt,Zu,Zv,Zw,Zx,Zy,Zz,YA,YB,YC,YD,YE,YF,YG,YH,YI,YJ,YK,YL,YM,YN,YO,YP,YQ,YR,Env.set,cond_true,cond_false,String.reduceBEq,YS,YT,YU,YV,YW,YX,YY,YZ,Ya,Yb,Yc,Yd,Ye,Yf] | simp only [Yg,Yh,true_and,Yi,Yj,Yk,Yl,Ym,Yn,Yo,Yp,Yq,Yr,Yt,Yu,Yv,Yw,Yx,Yy,Yz,XA,XB,XC,XD,XE,beq_self_eq_true,reduceIte,reduceCtorEq,↓reduceIte,XF,XG,XH, t5]))) (by (repeat (first | dsimp only [XI, XJ] | dsimp only [ZA,ZB,ZC,ZD,ZE,ZF,ZG,ZH,ZI,ZJ,ZK,ZL,ZM,ZN,ZO,ZP,ZQ,ZR,ZS,ZT,ZU,ZV,ZW,ZX,ZY,ZZ,Za,Zb,Zc,Zd,Ze,Zf,Zg,Zh,Zi,Zj,Zk,Zl,Zm,Zn,Zo,Zp,Zq,Zr,Zs,Zt,Zu,Zv,Zw,Zx,Zy,Zz,YA,YB,YC,YD,YE,YF,YG,YH,YI,YJ,YK,YL,YM,YN,YO,YP,YQ,YR,Env.set,cond_true,cond_false,String.reduceBEq,YS,YT,YU,YV,YW,YX,YY,YZ,Ya,Yb,Yc,Yd,Ye,Yf] | simp only [Yg,Yh,true_and,Yi,Yj,Yk,Yl,Ym,Yn,Yo,Yp,Yq,Yr,Yt,Yu,Yv,Yw,Yx,Yy,Yz,XA,XB,XC,XD,XE,beq_self_eq_true,reduceIte,reduceCtorEq,↓reduceIte,XF,XG,XH, t6])))
          · obtain ⟨rest, e⟩ := mk.base
            exact ⟨rest ++ [(y : Int)], by rw [e, List.append_assoc]⟩
          · rcases List.mem_append.mp hm with hm | hm
            · exact mk.alone hn z hz hm
            · simp at hm
              have : z = y := by omega
              subst this
              exact fun q => hna ⟨hn, q⟩
        refine wSs_step fun K5 m1 m2 => ?_
        (repeat (first | dsimp only [XI, XJ] | dsimp only [ZA,ZB,ZC,ZD,ZE,ZF,ZG,ZH,ZI,ZJ,ZK,ZL,ZM,ZN,ZO,ZP,ZQ,ZR,ZS,ZT,ZU,ZV,ZW,ZX,ZY,ZZ,Za,Zb,Zc,Zd,Ze,Zf,Zg,Zh,Zi,Zj,Zk,Zl,Zm,Zn,Zo,Zp,Zq,Zr,Zs,Zt,Zu,Zv,Zw,Zx,Zy,Zz,YA,YB,YC,YD,YE,YF,YG,YH,YI,YJ,YK,YL,YM,YN,YO,YP,YQ,YR,Env.set,cond_true,cond_false,String.reduceBEq,YS,YT,YU,YV,YW,YX,YY,YZ,Ya,Yb,Yc,Yd,Ye,Yf] | simp only [Yg,Yh,true_and,Yi,Yj,Yk,Yl,Ym,Yn,Yo,Yp,Yq,Yr,Yt,Yu,Yv,Yw,Yx,Yy,Yz,XA,XB,XC,XD,XE,beq_self_eq_true,reduceIte,reduceCtorEq,↓reduceIte,XF,XG,XH, t2, t3, hA'.nx hi, hA'.nx hy, beqn]))
        by_cases c1 : nx A i = i
        · (repeat (first | dsimp only [XI, XJ] | dsimp only [ZA,ZB,ZC,ZD,ZE,ZF,ZG,ZH,ZI,ZJ,ZK,ZL,ZM,ZN,ZO,ZP,ZQ,ZR,ZS,ZT,ZU,ZV,ZW,ZX,ZY,ZZ,Za,Zb,Zc,Zd,Ze,Zf,Zg,Zh,Zi,Zj,Zk,Zl,Zm,Zn,Zo,Zp,Zq,Zr,Zs,Zt,Zu,Zv,Zw,Zx,Zy,Zz,YA,YB,YC,YD,YE,YF,YG,YH,YI,YJ,YK,YL,YM,YN,YO,YP,YQ,YR,Env.set,cond_true,cond_false,String.reduceBEq,YS,YT,YU,YV,YW,YX,YY,YZ,Ya,Yb,Yc,Yd,Ye,Yf] | simp only [Yg,Yh,true_and,Yi,Yj,Yk,Yl,Ym,Yn,Yo,Yp,Yq,Yr,Yt,Yu,Yv,Yw,Yx,Yy,Yz,XA,XB,XC,XD,XE,beq_self_eq_true,reduceIte,reduceCtorEq,↓reduceIte,XF,XG,XH, decide_eq_true c1, t2, t3, hA'.nx hi, hA'.nx hy, beqn]))
          by_cases c2 : nx A y = y
          · (repeat (first | dsimp only [XI, XJ] | dsimp only [ZA,ZB,ZC,ZD,ZE,ZF,ZG,ZH,ZI,ZJ,ZK,ZL,ZM,ZN,ZO,ZP,ZQ,ZR,ZS,ZT,ZU,ZV,ZW,ZX,ZY,ZZ,Za,Zb,Zc,Zd,Ze,Zf,Zg,Zh,Zi,Zj,Zk,Zl,Zm,Zn,Zo,Zp,Zq,Zr,Zs,Zt,Zu,Zv,Zw,Zx,Zy,Zz,YA,YB,YC,YD,YE,YF,YG,YH,YI,YJ,YK,YL,YM,YN,YO,YP,YQ,YR,Env.set,cond_true,cond_false,String.reduceBEq,YS,YT,YU,YV,YW,YX,YY,YZ,Ya,Yb,Yc,Yd,Ye,Yf] | simp only [Yg,Yh,true_and,Yi,Yj,Yk,Yl,Ym,Yn,Yo,Yp,Yq,Yr,Yt,Yu,Yv,Yw,Yx,Yy,Yz,XA,XB,XC,XD,XE,beq_self_eq_true,reduceIte,reduceCtorEq,↓reduceIte,XF,XG,XH, decide_eq_true c2]))
            exact m1 _ _ (ends true (by simp [c1, c2]))
          · (repeat (first | dsimp only [XI, XJ] | dsimp only [ZA,ZB,ZC,ZD,ZE,ZF,ZG,ZH,ZI,ZJ,ZK,ZL,ZM,ZN,ZO,ZP,ZQ,ZR,ZS,ZT,ZU,ZV,ZW,ZX,ZY,ZZ,Za,Zb,Zc,Zd,Ze,Zf,Zg,Zh,Zi,Zj,Zk,Zl,Zm,Zn,Zo,Zp,Zq,Zr,Zs,Zt,Zu,Zv,Zw,Zx,Zy,Zz,YA,YB,YC,YD,YE,YF,YG,YH,YI,YJ,YK,YL,YM,YN,YO,YP,YQ,YR,Env.set,cond_true,cond_false,String.reduceBEq,YS,YT,YU,YV,YW,YX,YY,YZ,Ya,Yb,Yc,Yd,Ye,Yf] | simp only [Yg,Yh,true_and,Yi,Yj,Yk,Yl,Ym,Yn,Yo,Yp,Yq,Yr,Yt,Yu,Yv,Yw,Yx,Yy,Yz,XA,XB,XC,XD,XE,beq_self_eq_true,reduceIte,reduceCtorEq,↓reduceIte,XF,XG,XH, decide_eq_false c2]))
            exact m1 _ _ (ends false (by simp [c2]))
        · (repeat (first | dsimp only [XI, XJ] | dsimp only [ZA,ZB,ZC,ZD,ZE,ZF,ZG,ZH,ZI,ZJ,ZK,ZL,ZM,ZN,ZO,ZP,ZQ,ZR,ZS,ZT,ZU,ZV,ZW,ZX,ZY,ZZ,Za,Zb,Zc,Zd,Ze,Zf,Zg,Zh,Zi,Zj,Zk,Zl,Zm,Zn,Zo,Zp,Zq,Zr,Zs,Zt,Zu,Zv,Zw,Zx,Zy,Zz,YA,YB,YC,YD,YE,YF,YG,YH,YI,YJ,YK,YL,YM,YN,YO,YP,YQ,YR,Env.set,cond_true,cond_false,String.reduceBEq,YS,YT,YU,YV,YW,YX,YY,YZ,Ya,Yb,Yc,Yd,Ye,Yf] | simp only [Yg,Yh,true_and,Yi,Yj,Yk,Yl,Ym,Yn,Yo,Yp,Yq,Yr,Yt,Yu,Yv,Yw,Yx,Yy,Yz,XA,XB,XC,XD,XE,beq_self_eq_true,reduceIte,reduceCtorEq,↓reduceIte,XF,XG,XH, decide_eq_false c1]))
          exact m1 _ _ (ends false (by simp [c1]))
      · obtain ⟨hk', hlen', ⟨l2, hl2, mk⟩, t1, t2, t3, t4, t5, t6⟩ := hI
        refine ⟨hk' r hrd, k7 _ _ ?_⟩
        have keep : ∀ c, c < H.length → H'[c]? = H[c]? := fun c hc => by
          rw [hk' c (by omega), hA3 c (by omega) (by omega), hk2 c hc]
        have fl' := (fl.keep keep).up (a' := d) (by omega)
        obtain ⟨H4, p1, p2, p3, p4⟩ := fl'.push hl2 (by unfold lim; omega)
        (repeat (first | dsimp only [XI, XJ] | dsimp only [ZA,ZB,ZC,ZD,ZE,ZF,ZG,ZH,ZI,ZJ,ZK,ZL,ZM,ZN,ZO,ZP,ZQ,ZR,ZS,ZT,ZU,ZV,ZW,ZX,ZY,ZZ,Za,Zb,Zc,Zd,Ze,Zf,Zg,Zh,Zi,Zj,Zk,Zl,Zm,Zn,Zo,Zp,Zq,Zr,Zs,Zt,Zu,Zv,Zw,Zx,Zy,Zz,YA,YB,YC,YD,YE,YF,YG,YH,YI,YJ,YK,YL,YM,YN,YO,YP,YQ,YR,Env.set,cond_true,cond_false,String.reduceBEq,YS,YT,YU,YV,YW,YX,YY,YZ,Ya,Yb,Yc,Yd,Ye,Yf] | simp only [Yg,Yh,true_and,Yi,Yj,Yk,Yl,Ym,Yn,Yo,Yp,Yq,Yr,Yt,Yu,Yv,Yw,Yx,Yy,Yz,XA,XB,XC,XD,XE,beq_self_eq_true,reduceIte,reduceCtorEq,↓reduceIte,XF,XG,XH, t5, t6, fl'.recv, p1]))
        exact h _ _ l2 (fun c hc hcw => by rw [p4 c hcw, keep c hc]) (by rw [p3, hlen']; have := hp3.length_le; omega) (p2.up (by rw [p3, hlen']; omega)) mk (by (repeat (first | dsimp only [XI, XJ] | dsimp only [ZA,ZB,ZC,ZD,ZE,ZF,ZG,ZH,ZI,ZJ,ZK,ZL,ZM,ZN,ZO,ZP,ZQ,ZR,ZS,ZT,ZU,ZV,ZW,ZX,ZY,ZZ,Za,Zb,Zc,Zd,Ze,Zf,Zg,Zh,Zi,Zj,Zk,Zl,Zm,Zn,Zo,Zp,Zq,Zr,Zs,Zt,Zu,Zv,Zw,Zx,Zy,Zz,YA,YB,YC,YD,YE,YF,YG,YH,YI,YJ,YK,YL,YM,YN,YO,YP,YQ,YR,Env.set,cond_true,cond_false,String.reduceBEq,YS,YT,YU,YV,YW,YX,YY,YZ,Ya,Yb,Yc,Yd,Ye,Yf] | simp only [Yg,Yh,true_and,Yi,Yj,Yk,Yl,Ym,Yn,Yo,Yp,Yq,Yr,Yt,Yu,Yv,Yw,Yx,Yy,Yz,XA,XB,XC,XD,XE,beq_self_eq_true,reduceIte,reduceCtorEq,↓reduceIte,XF,XG,XH, t1]))) (by (repeat (first | dsimp only [XI, XJ] | dsimp only [ZA,ZB,ZC,ZD,ZE,ZF,ZG,ZH,ZI,ZJ,ZK,ZL,ZM,ZN,ZO,ZP,ZQ,ZR,ZS,ZT,ZU,ZV,ZW,ZX,ZY,ZZ,Za,Zb,Zc,Zd,Ze,Zf,Zg,Zh,Zi,Zj,Zk,Zl,Zm,Zn,Zo,Zp,Zq,Zr,Zs,Zt,Zu,Zv,Zw,Zx,Zy,Zz,YA,YB,YC,YD,YE,YF,YG,YH,YI,YJ,YK,YL,YM,YN,YO,YP,YQ,YR,Env.set,cond_true,cond_false,String.reduceBEq,YS,YT,YU,YV,YW,YX,YY,YZ,Ya,Yb,Yc,Yd,Ye,Yf] | simp only [Yg,Yh,true_and,Yi,Yj,Yk,Yl,Ym,Yn,Yo,Yp,Yq,Yr,Yt,Yu,Yv,Yw,Yx,Yy,Yz,XA,XB,XC,XD,XE,beq_self_eq_true,reduceIte,reduceCtorEq,↓reduceIte,XF,XG,XH, t2]))) (by (repeat (first | dsimp only [XI, XJ] | dsimp only [ZA,ZB,ZC,ZD,ZE,ZF,ZG,ZH,ZI,ZJ,ZK,ZL,ZM,ZN,ZO,ZP,ZQ,ZR,ZS,ZT,ZU,ZV,ZW,ZX,ZY,ZZ,Za,Zb,Zc,Zd,Ze,Zf,Zg,Zh,Zi,Zj,Zk,Zl,Zm,Zn,Zo,Zp,Zq,Zr,Zs,Zt,Zu,Zv,Zw,Zx,Zy,Zz,YA,YB,YC,YD,YE,YF,YG,YH,YI,YJ,YK,YL,YM,YN,YO,YP,YQ,YR,Env.set,cond_true,cond_false,String.reduceBEq,YS,YT,YU,YV,YW,YX,YY,YZ,Ya,Yb,Yc,Yd,Ye,Yf] | simp only [Yg,Yh,true_and,Yi,Yj,Yk,Yl,Ym,Yn,Yo,Yp,Yq,Yr,Yt,Yu,Yv,Yw,Yx,Yy,Yz,XA,XB,XC,XD,XE,beq_self_eq_true,reduceIte,reduceCtorEq,↓reduceIte,XF,XG,XH, t4]))) (by (repeat (first | dsimp only [XI, XJ] | dsimp only [ZA,ZB,ZC,ZD,ZE,ZF,ZG,ZH,ZI,ZJ,ZK,ZL,ZM,ZN,ZO,ZP,ZQ,ZR,ZS,ZT,ZU,ZV,ZW,ZX,ZY,ZZ,Za,Zb,Zc,Zd,Ze,Zf,Zg,Zh,Zi,Zj,Zk,Zl,Zm,Zn,Zo,Zp,Zq,Zr,Zs,Zt,Zu,Zv,Zw,Zx,Zy,Zz,YA,YB,YC,YD,YE,YF,YG,YH,YI,YJ,YK,YL,YM,YN,YO,YP,YQ,YR,Env.set,cond_true,cond_false,String.reduceBEq,YS,YT,YU,YV,YW,YX,YY,YZ,Ya,Yb,Yc,Yd,Ye,Yf] | simp only [Yg,Yh,true_and,Yi,Yj,Yk,Yl,Ym,Yn,Yo,Yp,Yq,Yr,Yt,Yu,Yv,Yw,Yx,Yy,Yz,XA,XB,XC,XD,XE,beq_self_eq_true,reduceIte,reduceCtorEq,↓reduceIte,XF,XG,XH, t5])))
  have hA1 : LN (H ++ [.list []]) a A := hA.pre (pre_new _ _)
  (repeat (first | dsimp only [XI, XJ] | dsimp only [ZA,ZB,ZC,ZD,ZE,ZF,ZG,ZH,ZI,ZJ,ZK,ZL,ZM,ZN,ZO,ZP,ZQ,ZR,ZS,ZT,ZU,ZV,ZW,ZX,ZY,ZZ,Za,Zb,Zc,Zd,Ze,Zf,Zg,Zh,Zi,Zj,Zk,Zl,Zm,Zn,Zo,Zp,Zq,Zr,Zs,Zt,Zu,Zv,Zw,Zx,Zy,Zz,YA,YB,YC,YD,YE,YF,YG,YH,YI,YJ,YK,YL,YM,YN,YO,YP,YQ,YR,Env.set,cond_true,cond_false,String.reduceBEq,YS,YT,YU,YV,YW,YX,YY,YZ,Ya,Yb,Yc,Yd,Ye,Yf] | simp only [Yg,Yh,true_and,Yi,Yj,Yk,Yl,Ym,Yn,Yo,Yp,Yq,Yr,Yt,Yu,Yv,Yw,Yx,Yy,Yz,XA,XB,XC,XD,XE,beq_self_eq_true,reduceIte,reduceCtorEq,↓reduceIte,XF,XG,XH, e2, e3, hA1.nx hi, beqn]))
  by_cases hn : nx A i = i
  · (repeat (first | dsimp only [XI, XJ] | dsimp only [ZA,ZB,ZC,ZD,ZE,ZF,ZG,ZH,ZI,ZJ,ZK,ZL,ZM,ZN,ZO,ZP,ZQ,ZR,ZS,ZT,ZU,ZV,ZW,ZX,ZY,ZZ,Za,Zb,Zc,Zd,Ze,Zf,Zg,Zh,Zi,Zj,Zk,Zl,Zm,Zn,Zo,Zp,Zq,Zr,Zs,Zt,Zu,Zv,Zw,Zx,Zy,Zz,YA,YB,YC,YD,YE,YF,YG,YH,YI,YJ,YK,YL,YM,YN,YO,YP,YQ,YR,Env.set,cond_true,cond_false,String.reduceBEq,YS,YT,YU,YV,YW,YX,YY,YZ,Ya,Yb,Yc,Yd,Ye,Yf] | simp only [Yg,Yh,true_and,Yi,Yj,Yk,Yl,Ym,Yn,Yo,Yp,Yq,Yr,Yt,Yu,Yv,Yw,Yx,Yy,Yz,XA,XB,XC,XD,XE,beq_self_eq_true,reduceIte,reduceCtorEq,↓reduceIte,XF,XG,XH, decide_eq_true hn]))
    exact rest _ _ H.length (fun c hc => List.getElem?_append_left hc) (Nat.le_refl _) (by simp) (by unfold base1; rw [if_pos hn]; exact get_new _ _) (by (repeat (first | dsimp only [XI, XJ] | dsimp only [ZA,ZB,ZC,ZD,ZE,ZF,ZG,ZH,ZI,ZJ,ZK,ZL,ZM,ZN,ZO,ZP,ZQ,ZR,ZS,ZT,ZU,ZV,ZW,ZX,ZY,ZZ,Za,Zb,Zc,Zd,Ze,Zf,Zg,Zh,Zi,Zj,Zk,Zl,Zm,Zn,Zo,Zp,Zq,Zr,Zs,Zt,Zu,Zv,Zw,Zx,Zy,Zz,YA,YB,YC,YD,YE,YF,YG,YH,YI,YJ,YK,YL,YM,YN,YO,YP,YQ,YR,Env.set,cond_true,cond_false,String.reduceBEq,YS,YT,YU,YV,YW,YX,YY,YZ,Ya,Yb,Yc,Yd,Ye,Yf] | simp only [Yg,Yh,true_and,Yi,Yj,Yk,Yl,Ym,Yn,Yo,Yp,Yq,Yr,Yt,Yu,Yv,Yw,Yx,Yy,Yz,XA,XB,XC,XD,XE,beq_self_eq_true,reduceIte,reduceCtorEq,↓reduceIte,XF,XG,XH, e1]))) (by (repeat (first | dsimp only [XI, XJ] | dsimp only [ZA,ZB,ZC,ZD,ZE,ZF,ZG,ZH,ZI,ZJ,ZK,ZL,ZM,ZN,ZO,ZP,ZQ,ZR,ZS,ZT,ZU,ZV,ZW,ZX,ZY,ZZ,Za,Zb,Zc,Zd,Ze,Zf,Zg,Zh,Zi,Zj,Zk,Zl,Zm,Zn,Zo,Zp,Zq,Zr,Zs,Zt,Zu,Zv,Zw,Zx,Zy,Zz,YA,YB,YC,YD,YE,YF,YG,YH,YI,YJ,YK,YL,YM,YN,YO,YP,YQ,YR,Env.set,cond_true,cond_false,String.reduceBEq,YS,YT,YU,YV,YW,YX,YY,YZ,Ya,Yb,Yc,Yd,Ye,Yf] | simp only [Yg,Yh,true_and,Yi,Yj,Yk,Yl,Ym,Yn,Yo,Yp,Yq,Yr,Yt,Yu,Yv,Yw,Yx,Yy,Yz,XA,XB,XC,XD,XE,beq_self_eq_true,reduceIte,reduceCtorEq,↓reduceIte,XF,XG,XH, e2]))) (by (repeat (first | dsimp only [XI, XJ] | dsimp only [ZA,ZB,ZC,ZD,ZE,ZF,ZG,ZH,ZI,ZJ,ZK,ZL,ZM,ZN,ZO,ZP,ZQ,ZR,ZS,ZT,ZU,ZV,ZW,ZX,ZY,ZZ,Za,Zb,Zc,Zd,Ze,Zf,Zg,Zh,Zi,Zj,Zk,Zl,Zm,Zn,Zo,Zp,Zq,Zr,Zs,Zt,Zu,Zv,Zw,Zx,Zy,Zz,YA,YB,YC,YD,YE,YF,YG,YH,YI,YJ,YK,YL,YM,YN,YO,YP,YQ,YR,Env.set,cond_true,cond_false,String.reduceBEq,YS,YT,YU,YV,YW,YX,YY,YZ,Ya,Yb,Yc,Yd,Ye,Yf] | simp only [Yg,Yh,true_and,Yi,Yj,Yk,Yl,Ym,Yn,Yo,Yp,Yq,Yr,Yt,Yu,Yv,Yw,Yx,Yy,Yz,XA,XB,XC,XD,XE,beq_self_eq_true,reduceIte,reduceCtorEq,↓reduceIte,XF,XG,XH, e3]))) (by (repeat (first | dsimp only [XI, XJ] | dsimp only [ZA,ZB,ZC,ZD,ZE,ZF,ZG,ZH,ZI,ZJ,ZK,ZL,ZM,ZN,ZO,ZP,ZQ,ZR,ZS,ZT,ZU,ZV,ZW,ZX,ZY,ZZ,Za,Zb,Zc,Zd,Ze,Zf,Zg,Zh,Zi,Zj,Zk,Zl,Zm,Zn,Zo,Zp,Zq,Zr,Zs,Zt,Zu,Zv,Zw,Zx,Zy,Zz,YA,YB,YC,YD,YE,YF,YG,YH,YI,YJ,YK,YL,YM,YN,YO,YP,YQ,YR,Env.set,cond_true,cond_false,String.reduceBEq,YS,YT,YU,YV,YW,YX,YY,YZ,Ya,Yb,Yc,Yd,Ye,Yf] | simp only [Yg,Yh,true_and,Yi,Yj,Yk,Yl,Ym,Yn,Yo,Yp,Yq,Yr,Yt,Yu,Yv,Yw,Yx,Yy,Yz,XA,XB,XC,XD,XE,beq_self_eq_true,reduceIte,reduceCtorEq,↓reduceIte,XF,XG,XH, e4]))) (by (repeat (first | dsimp only [XI, XJ] | dsimp only [ZA,ZB,ZC,ZD,ZE,ZF,ZG,ZH,ZI,ZJ,ZK,ZL,ZM,ZN,ZO,ZP,ZQ,ZR,ZS,ZT,ZU,ZV,ZW,ZX,ZY,ZZ,Za,Zb,Zc,Zd,Ze,Zf,Zg,Zh,Zi,Zj,Zk,Zl,Zm,Zn,Zo,Zp,Zq,Zr,Zs,Zt,Zu,Zv,Zw,Zx,Zy,Zz,YA,YB,YC,YD,YE,YF,YG,YH,YI,YJ,YK,YL,YM,YN,YO,YP,YQ,YR,Env.set,cond_true,cond_false,String.reduceBEq,YS,YT,YU,YV,YW,YX,YY,YZ,Ya,Yb,Yc,Yd,Ye,Yf] | simp only [Yg,Yh,true_and,Yi,Yj,Yk,Yl,Ym,Yn,Yo,Yp,Yq,Yr,Yt,Yu,Yv,Yw,Yx,Yy,Yz,XA,XB,XC,XD,XE,beq_self_eq_true,reduceIte,reduceCtorEq,↓reduceIte,XF,XG,XH, e5]))) (by (repeat (first | dsimp only [XI, XJ] | dsimp only [ZA,ZB,ZC,ZD,ZE,ZF,ZG,ZH,ZI,ZJ,ZK,ZL,ZM,ZN,ZO,ZP,ZQ,ZR,ZS,ZT,ZU,ZV,ZW,ZX,ZY,ZZ,Za,Zb,Zc,Zd,Ze,Zf,Zg,Zh,Zi,Zj,Zk,Zl,Zm,Zn,Zo,Zp,Zq,Zr,Zs,Zt,Zu,Zv,Zw,Zx,Zy,Zz,YA,YB,YC,YD,YE,YF,YG,YH,YI,YJ,YK,YL,YM,YN,YO,YP,YQ,YR,Env.set,cond_true,cond_false,String.reduceBEq,YS,YT,YU,YV,YW,YX,YY,YZ,Ya,Yb,Yc,Yd,Ye,Yf] | simp only [Yg,Yh,true_and,Yi,Yj,Yk,Yl,Ym,Yn,Yo,Yp,Yq,Yr,Yt,Yu,Yv,Yw,Yx,Yy,Yz,XA,XB,XC,XD,XE,beq_self_eq_true,reduceIte,reduceCtorEq,↓reduceIte,XF,XG,XH])))
  · (repeat (first | dsimp only [XI, XJ] | dsimp only [ZA,ZB,ZC,ZD,ZE,ZF,ZG,ZH,ZI,ZJ,ZK,ZL,ZM,ZN,ZO,ZP,ZQ,ZR,ZS,ZT,ZU,ZV,ZW,ZX,ZY,ZZ,Za,Zb,Zc,Zd,Ze,Zf,Zg,Zh,Zi,Zj,Zk,Zl,Zm,Zn,Zo,Zp,Zq,Zr,Zs,Zt,Zu,Zv,Zw,Zx,Zy,Zz,YA,YB,YC,YD,YE,YF,YG,YH,YI,YJ,YK,YL,YM,YN,YO,YP,YQ,YR,Env.set,cond_true,cond_false,String.reduceBEq,YS,YT,YU,YV,YW,YX,YY,YZ,Ya,Yb,Yc,Yd,Ye,Yf] | simp only [Yg,Yh,true_and,Yi,Yj,Yk,Yl,Ym,Yn,Yo,Yp,Yq,Yr,Yt,Yu,Yv,Yw,Yx,Yy,Yz,XA,XB,XC,XD,XE,beq_self_eq_true,reduceIte,reduceCtorEq,↓reduceIte,XF,XG,XH, decide_eq_false hn, e2, e3, hA1.nx hi]))
    refine rest _ _ (H ++ [O.list []]).length (fun c hc => by rw [List.append_assoc, List.getElem?_append_left hc]) (by simp) (by simp) (by unfold base1; rw [if_neg hn]; exact get_new _ _) (by (repeat (first | dsimp only [XI, XJ] | dsimp only [ZA,ZB,ZC,ZD,ZE,ZF,ZG,ZH,ZI,ZJ,ZK,ZL,ZM,ZN,ZO,ZP,ZQ,ZR,ZS,ZT,ZU,ZV,ZW,ZX,ZY,ZZ,Za,Zb,Zc,Zd,Ze,Zf,Zg,Zh,Zi,Zj,Zk,Zl,Zm,Zn,Zo,Zp,Zq,Zr,Zs,Zt,Zu,Zv,Zw,Zx,Zy,Zz,YA,YB,YC,YD,YE,YF,YG,YH,YI,YJ,YK,YL,YM,YN,YO,YP,YQ,YR,Env.set,cond_true,cond_false,String.reduceBEq,YS,YT,YU,YV,YW,YX,YY,YZ,Ya,Yb,Yc,Yd,Ye,Yf] | simp only [Yg,Yh,true_and,Yi,Yj,Yk,Yl,Ym,Yn,Yo,Yp,Yq,Yr,Yt,Yu,Yv,Yw,Yx,Yy,Yz,XA,XB,XC,XD,XE,beq_self_eq_true,reduceIte,reduceCtorEq,↓reduceIte,XF,XG,XH, e1]))) (by (repeat (first | dsimp only [XI, XJ] | dsimp only [ZA,ZB,ZC,ZD,ZE,ZF,ZG,ZH,ZI,ZJ,ZK,ZL,ZM,ZN,ZO,ZP,ZQ,ZR,ZS,ZT,ZU,ZV,ZW,ZX,ZY,ZZ,Za,Zb,Zc,Zd,Ze,Zf,Zg,Zh,Zi,Zj,Zk,Zl,Zm,Zn,Zo,Zp,Zq,Zr,Zs,Zt,Zu,Zv,Zw,Zx,Zy,Zz,YA,YB,YC,YD,YE,YF,YG,YH,YI,YJ,YK,YL,YM,YN,YO,YP,YQ,YR,Env.set,cond_true,cond_false,String.reduceBEq,YS,YT,YU,YV,YW,YX,YY,YZ,Ya,Yb,Yc,Yd,Ye,Yf] | simp only [Yg,Yh,true_and,Yi,Yj,Yk,Yl,Ym,Yn,Yo,Yp,Yq,Yr,Yt,Yu,Yv,Yw,Yx,Yy,Yz,XA,XB,XC,XD,XE,beq_self_eq_true,reduceIte,reduceCtorEq,↓reduceIte,XF,XG,XH, e2]))) (by (repeat (first | dsimp only [XI, XJ] | dsimp only [ZA,ZB,ZC,ZD,ZE,ZF,ZG,ZH,ZI,ZJ,ZK,ZL,ZM,ZN,ZO,ZP,ZQ,ZR,ZS,ZT,ZU,ZV,ZW,ZX,ZY,ZZ,Za,Zb,Zc,Zd,Ze,Zf,Zg,Zh,Zi,Zj,Zk,Zl,Zm,Zn,Zo,Zp,Zq,Zr,Zs,Zt,Zu,Zv,Zw,Zx,Zy,Zz,YA,YB,YC,YD,YE,YF,YG,YH,YI,YJ,YK,YL,YM,YN,YO,YP,YQ,YR,Env.set,cond_true,cond_false,String.reduceBEq,YS,YT,YU,YV,YW,YX,YY,YZ,Ya,Yb,Yc,Yd,Ye,Yf] | simp only [Yg,Yh,true_and,Yi,Yj,Yk,Yl,Ym,Yn,Yo,Yp,Yq,Yr,Yt,Yu,Yv,Yw,Yx,Yy,Yz,XA,XB,XC,XD,XE,beq_self_eq_true,reduceIte,reduceCtorEq,↓reduceIte,XF,XG,XH, e3]))) (by (repeat (first | dsimp only [XI, XJ] | dsimp only [ZA,ZB,ZC,ZD,ZE,ZF,ZG,ZH,ZI,ZJ,ZK,ZL,ZM,ZN,ZO,ZP,ZQ,ZR,ZS,ZT,ZU,ZV,ZW,ZX,ZY,ZZ,Za,Zb,Zc,Zd,Ze,Zf,Zg,Zh,Zi,Zj,Zk,Zl,Zm,Zn,Zo,Zp,Zq,Zr,Zs,Zt,Zu,Zv,Zw,Zx,Zy,Zz,YA,YB,YC,YD,YE,YF,YG,YH,YI,YJ,YK,YL,YM,YN,YO,YP,YQ,YR,Env.set,cond_true,cond_false,String.reduceBEq,YS,YT,YU,YV,YW,YX,YY,YZ,Ya,Yb,Yc,Yd,Ye,Yf] | simp only [Yg,Yh,true_and,Yi,Yj,Yk,Yl,Ym,Yn,Yo,Yp,Yq,Yr,Yt,Yu,Yv,Yw,Yx,Yy,Yz,XA,XB,XC,XD,XE,beq_self_eq_true,reduceIte,reduceCtorEq,↓reduceIte,XF,XG,XH, e4]))) (by (repeat (first | dsimp only [XI, XJ] | dsimp only [ZA,ZB,ZC,ZD,ZE,ZF,ZG,ZH,ZI,ZJ,ZK,ZL,ZM,ZN,ZO,ZP,ZQ,ZR,ZS,ZT,ZU,ZV,ZW,ZX,ZY,ZZ,Za,Zb,Zc,Zd,Ze,Zf,Zg,Zh,Zi,Zj,Zk,Zl,Zm,Zn,Zo,Zp,Zq,Zr,Zs,Zt,Zu,Zv,Zw,Zx,Zy,Zz,YA,YB,YC,YD,YE,YF,YG,YH,YI,YJ,YK,YL,YM,YN,YO,YP,YQ,YR,Env.set,cond_true,cond_false,String.reduceBEq,YS,YT,YU,YV,YW,YX,YY,YZ,Ya,Yb,Yc,Yd,Ye,Yf] | simp only [Yg,Yh,true_and,Yi,Yj,Yk,Yl,Ym,Yn,Yo,Yp,Yq,Yr,Yt,Yu,Yv,Yw,Yx,Yy,Yz,XA,XB,XC,XD,XE,beq_self_eq_true,reduceIte,reduceCtorEq,↓reduceIte,XF,XG,XH, e5]))) (by (repeat (first | dsimp only [XI, XJ] | dsimp only [ZA,ZB,ZC,ZD,ZE,ZF,ZG,ZH,ZI,ZJ,ZK,ZL,ZM,ZN,ZO,ZP,ZQ,ZR,ZS,ZT,ZU,ZV,ZW,ZX,ZY,ZZ,Za,Zb,Zc,Zd,Ze,Zf,Zg,Zh,Zi,Zj,Zk,Zl,Zm,Zn,Zo,Zp,Zq,Zr,Zs,Zt,Zu,Zv,Zw,Zx,Zy,Zz,YA,YB,YC,YD,YE,YF,YG,YH,YI,YJ,YK,YL,YM,YN,YO,YP,YQ,YR,Env.set,cond_true,cond_false,String.reduceBEq,YS,YT,YU,YV,YW,YX,YY,YZ,Ya,Yb,Yc,Yd,Ye,Yf] | simp only [Yg,Yh,true_and,Yi,Yj,Yk,Yl,Ym,Yn,Yo,Yp,Yq,Yr,Yt,Yu,Yv,Yw,Yx,Yy,Yz,XA,XB,XC,XD,XE,beq_self_eq_true,reduceIte,reduceCtorEq,↓reduceIte,XF,XG,XH])))

theorem s_law_made8 (hP : P.fn "_law_made" = some f__law_made_08) (hP2 : P.fn "_law_cell_at" = some f__law_cell_at) (hP3 : P.fn "_law_row_by" = some f__law_row_by) {s a : Nat} {is : List Int} {A : List Nat} (hs : H[s]? = some (.frozen (is.map .int))) (hA : LN H a A) (ok : AOk A)
    (h : ∀ H' r W, H <+: H' → WH H' r W → WOk W → W.length = A.length → LawHold W A → Q (.ref r) H') : callN P b (n + 2) "_law_made" [.ref s, .ref a] H Q X := by
  have hlim : A.length ≤ lim := Nat.le_trans ok.le (by decide)
  have hle := ok.le
  have hal : a < H.length := (List.getElem?_eq_some_iff.mp hA).1
  have hsl : s < H.length := (List.getElem?_eq_some_iff.mp hs).1
  (refine callN_in hP rfl ?_; unfold f__law_made_08)
  refine wSs_step fun K1 k1 k2 => ?_
  (repeat (first | dsimp only [XI, XJ] | dsimp only [ZA,ZB,ZC,ZD,ZE,ZF,ZG,ZH,ZI,ZJ,ZK,ZL,ZM,ZN,ZO,ZP,ZQ,ZR,ZS,ZT,ZU,ZV,ZW,ZX,ZY,ZZ,Za,Zb,Zc,Zd,Ze,Zf,Zg,Zh,Zi,Zj,Zk,Zl,Zm,Zn,Zo,Zp,Zq,Zr,Zs,Zt,Zu,Zv,Zw,Zx,Zy,Zz,YA,YB,YC,YD,YE,YF,YG,YH,YI,YJ,YK,YL,YM,YN,YO,YP,YQ,YR,Env.set,cond_true,cond_false,String.reduceBEq,YS,YT,YU,YV,YW,YX,YY,YZ,Ya,Yb,Yc,Yd,Ye,Yf] | simp only [Yg,Yh,true_and,Yi,Yj,Yk,Yl,Ym,Yn,Yo,Yp,Yq,Yr,Yt,Yu,Yv,Yw,Yx,Yy,Yz,XA,XB,XC,XD,XE,beq_self_eq_true,reduceIte,reduceCtorEq,↓reduceIte,XF,XG,XH, hA.len]))
  refine k1 _ _ (wSs_step fun K2 k3 k4 => ?_)
  clear k1 k2 K1
  (repeat (first | dsimp only [XI, XJ] | dsimp only [ZA,ZB,ZC,ZD,ZE,ZF,ZG,ZH,ZI,ZJ,ZK,ZL,ZM,ZN,ZO,ZP,ZQ,ZR,ZS,ZT,ZU,ZV,ZW,ZX,ZY,ZZ,Za,Zb,Zc,Zd,Ze,Zf,Zg,Zh,Zi,Zj,Zk,Zl,Zm,Zn,Zo,Zp,Zq,Zr,Zs,Zt,Zu,Zv,Zw,Zx,Zy,Zz,YA,YB,YC,YD,YE,YF,YG,YH,YI,YJ,YK,YL,YM,YN,YO,YP,YQ,YR,Env.set,cond_true,cond_false,String.reduceBEq,YS,YT,YU,YV,YW,YX,YY,YZ,Ya,Yb,Yc,Yd,Ye,Yf] | simp only [Yg,Yh,true_and,Yi,Yj,Yk,Yl,Ym,Yn,Yo,Yp,Yq,Yr,Yt,Yu,Yv,Yw,Yx,Yy,Yz,XA,XB,XC,XD,XE,beq_self_eq_true,reduceIte,reduceCtorEq,↓reduceIte,XF,XG,XH]))
  refine k3 _ _ (wSs_step fun K3 k5 k6 => ?_)
  clear k3 k4 K2
  refine wS_forR_var (m := A.length) (by (repeat (first | dsimp only [XI, XJ] | dsimp only [ZA,ZB,ZC,ZD,ZE,ZF,ZG,ZH,ZI,ZJ,ZK,ZL,ZM,ZN,ZO,ZP,ZQ,ZR,ZS,ZT,ZU,ZV,ZW,ZX,ZY,ZZ,Za,Zb,Zc,Zd,Ze,Zf,Zg,Zh,Zi,Zj,Zk,Zl,Zm,Zn,Zo,Zp,Zq,Zr,Zs,Zt,Zu,Zv,Zw,Zx,Zy,Zz,YA,YB,YC,YD,YE,YF,YG,YH,YI,YJ,YK,YL,YM,YN,YO,YP,YQ,YR,Env.set,cond_true,cond_false,String.reduceBEq,YS,YT,YU,YV,YW,YX,YY,YZ,Ya,Yb,Yc,Yd,Ye,Yf] | simp only [Yg,Yh,true_and,Yi,Yj,Yk,Yl,Ym,Yn,Yo,Yp,Yq,Yr,Yt,Yu,Yv,Yw,Yx,Yy,Yz,XA,XB,XC,XD,XE,beq_self_eq_true,reduceIte,reduceCtorEq,↓reduceIte,XF,XG,XH]))) hlim ?_
  refine wFor_idx (fun i ρ H' => ∃ W, FL H' H'.length H.length W ∧ (∀ i, i < H.length → H'[i]? = H[i]?) ∧ W.length = i ∧ (∀ j, j < i → MadeRow A j (row W j)) ∧
    ρ "_law_script" = some (.ref s) ∧ ρ "_law_after" = some (.ref a) ∧ ρ "_law_many" = some (.int (A.length : Int)) ∧ ρ "_law_wishes" = some (.ref H.length)) ⟨[], ⟨by simp, [], by simp, .nil⟩, (fun i hi => by rw [List.getElem?_append_left hi]), rfl, (fun j hj => by omega), by (repeat (first | dsimp only [XI, XJ] | dsimp only [ZA,ZB,ZC,ZD,ZE,ZF,ZG,ZH,ZI,ZJ,ZK,ZL,ZM,ZN,ZO,ZP,ZQ,ZR,ZS,ZT,ZU,ZV,ZW,ZX,ZY,ZZ,Za,Zb,Zc,Zd,Ze,Zf,Zg,Zh,Zi,Zj,Zk,Zl,Zm,Zn,Zo,Zp,Zq,Zr,Zs,Zt,Zu,Zv,Zw,Zx,Zy,Zz,YA,YB,YC,YD,YE,YF,YG,YH,YI,YJ,YK,YL,YM,YN,YO,YP,YQ,YR,Env.set,cond_true,cond_false,String.reduceBEq,YS,YT,YU,YV,YW,YX,YY,YZ,Ya,Yb,Yc,Yd,Ye,Yf] | simp only [Yg,Yh,true_and,Yi,Yj,Yk,Yl,Ym,Yn,Yo,Yp,Yq,Yr,Yt,Yu,Yv,Yw,Yx,Yy,Yz,XA,XB,XC,XD,XE,beq_self_eq_true,reduceIte,reduceCtorEq,↓reduceIte,XF,XG,XH])), by (repeat (first | dsimp only [XI, XJ] | dsimp only [ZA,ZB,ZC,ZD,ZE,ZF,ZG,ZH,ZI,ZJ,ZK,ZL,ZM,ZN,ZO,ZP,ZQ,ZR,ZS,ZT,ZU,ZV,ZW,ZX,ZY,ZZ,Za,Zb,Zc,Zd,Ze,Zf,Zg,Zh,Zi,Zj,Zk,Zl,Zm,Zn,Zo,Zp,Zq,Zr,Zs,Zt,Zu,Zv,Zw,Zx,Zy,Zz,YA,YB,YC,YD,YE,YF,YG,YH,YI,YJ,YK,YL,YM,YN,YO,YP,YQ,YR,Env.set,cond_true,cond_false,String.reduceBEq,YS,YT,YU,YV,YW,YX,YY,YZ,Ya,Yb,Yc,Yd,Ye,Yf] | simp only [Yg,Yh,true_and,Yi,Yj,Yk,Yl,Ym,Yn,Yo,Yp,Yq,Yr,Yt,Yu,Yv,Yw,Yx,Yy,Yz,XA,XB,XC,XD,XE,beq_self_eq_true,reduceIte,reduceCtorEq,↓reduceIte,XF,XG,XH])), by (repeat (first | dsimp only [XI, XJ] | dsimp only [ZA,ZB,ZC,ZD,ZE,ZF,ZG,ZH,ZI,ZJ,ZK,ZL,ZM,ZN,ZO,ZP,ZQ,ZR,ZS,ZT,ZU,ZV,ZW,ZX,ZY,ZZ,Za,Zb,Zc,Zd,Ze,Zf,Zg,Zh,Zi,Zj,Zk,Zl,Zm,Zn,Zo,Zp,Zq,Zr,Zs,Zt,Zu,Zv,Zw,Zx,Zy,Zz,YA,YB,YC,YD,YE,YF,YG,YH,YI,YJ,YK,YL,YM,YN,YO,YP,YQ,YR,Env.set,cond_true,cond_false,String.reduceBEq,YS,YT,YU,YV,YW,YX,YY,YZ,Ya,Yb,Yc,Yd,Ye,Yf] | simp only [Yg,Yh,true_and,Yi,Yj,Yk,Yl,Ym,Yn,Yo,Yp,Yq,Yr,Yt,Yu,Yv,Yw,Yx,Yy,Yz,XA,XB,XC,XD,XE,beq_self_eq_true,reduceIte,reduceCtorEq,↓reduceIte,XF,XG,XH])), by (repeat (first | dsimp only [XI, XJ] | dsimp only [ZA,ZB,ZC,ZD,ZE,ZF,ZG,ZH,ZI,ZJ,ZK,ZL,ZM,ZN,ZO,ZP,ZQ,ZR,ZS,ZT,ZU,ZV,ZW,ZX,ZY,ZZ,Za,Zb,Zc,Zd,Ze,Zf,Zg,Zh,Zi,Zj,Zk,Zl,Zm,Zn,Zo,Zp,Zq,Zr,Zs,Zt,Zu,Zv,Zw,Zx,Zy,Zz,YA,YB,YC,YD,YE,YF,YG,YH,YI,YJ,YK,YL,YM,YN,YO,YP,YQ,YR,Env.set,cond_true,cond_false,String.reduceBEq,YS,YT,YU,YV,YW,YX,YY,YZ,Ya,Yb,Yc,Yd,Ye,Yf] | simp only [Yg,Yh,true_and,Yi,Yj,Yk,Yl,Ym,Yn,Yo,Yp,Yq,Yr,Yt,Yu,Yv,Yw,Yx,Yy,Yz,XA,XB,XC,XD,XE,beq_self_eq_true,reduceIte,reduceCtorEq,↓reduceIte,XF,XG,XH]))⟩ (fun i v ρ H1 hv hI => ⟨trivial, fun k' h1 h2 => ?_⟩) fun ρ H' hI => ⟨trivial, ?_⟩
  · obtain ⟨hi, rfl⟩ := rng_get hv
    obtain ⟨W, fl, hpre, hWl, hrows, e1, e2, e3, e4⟩ := hI
    have hp : H <+: H1 := pre_of hpre
    refine w_made_row (b := b) (w := H.length) hP2 hP3 (pre_get hp hs) (hA.pre hp) ok hi fl (by omega) (by omega) (by omega) (by (repeat (first | dsimp only [XI, XJ] | dsimp only [ZA,ZB,ZC,ZD,ZE,ZF,ZG,ZH,ZI,ZJ,ZK,ZL,ZM,ZN,ZO,ZP,ZQ,ZR,ZS,ZT,ZU,ZV,ZW,ZX,ZY,ZZ,Za,Zb,Zc,Zd,Ze,Zf,Zg,Zh,Zi,Zj,Zk,Zl,Zm,Zn,Zo,Zp,Zq,Zr,Zs,Zt,Zu,Zv,Zw,Zx,Zy,Zz,YA,YB,YC,YD,YE,YF,YG,YH,YI,YJ,YK,YL,YM,YN,YO,YP,YQ,YR,Env.set,cond_true,cond_false,String.reduceBEq,YS,YT,YU,YV,YW,YX,YY,YZ,Ya,Yb,Yc,Yd,Ye,Yf] | simp only [Yg,Yh,true_and,Yi,Yj,Yk,Yl,Ym,Yn,Yo,Yp,Yq,Yr,Yt,Yu,Yv,Yw,Yx,Yy,Yz,XA,XB,XC,XD,XE,beq_self_eq_true,reduceIte,reduceCtorEq,↓reduceIte,XF,XG,XH, e1]))) (by (repeat (first | dsimp only [XI, XJ] | dsimp only [ZA,ZB,ZC,ZD,ZE,ZF,ZG,ZH,ZI,ZJ,ZK,ZL,ZM,ZN,ZO,ZP,ZQ,ZR,ZS,ZT,ZU,ZV,ZW,ZX,ZY,ZZ,Za,Zb,Zc,Zd,Ze,Zf,Zg,Zh,Zi,Zj,Zk,Zl,Zm,Zn,Zo,Zp,Zq,Zr,Zs,Zt,Zu,Zv,Zw,Zx,Zy,Zz,YA,YB,YC,YD,YE,YF,YG,YH,YI,YJ,YK,YL,YM,YN,YO,YP,YQ,YR,Env.set,cond_true,cond_false,String.reduceBEq,YS,YT,YU,YV,YW,YX,YY,YZ,Ya,Yb,Yc,Yd,Ye,Yf] | simp only [Yg,Yh,true_and,Yi,Yj,Yk,Yl,Ym,Yn,Yo,Yp,Yq,Yr,Yt,Yu,Yv,Yw,Yx,Yy,Yz,XA,XB,XC,XD,XE,beq_self_eq_true,reduceIte,reduceCtorEq,↓reduceIte,XF,XG,XH, e2]))) (by (repeat (first | dsimp only [XI, XJ] | dsimp only [ZA,ZB,ZC,ZD,ZE,ZF,ZG,ZH,ZI,ZJ,ZK,ZL,ZM,ZN,ZO,ZP,ZQ,ZR,ZS,ZT,ZU,ZV,ZW,ZX,ZY,ZZ,Za,Zb,Zc,Zd,Ze,Zf,Zg,Zh,Zi,Zj,Zk,Zl,Zm,Zn,Zo,Zp,Zq,Zr,Zs,Zt,Zu,Zv,Zw,Zx,Zy,Zz,YA,YB,YC,YD,YE,YF,YG,YH,YI,YJ,YK,YL,YM,YN,YO,YP,YQ,YR,Env.set,cond_true,cond_false,String.reduceBEq,YS,YT,YU,YV,YW,YX,YY,YZ,Ya,Yb,Yc,Yd,Ye,Yf] | simp only [Yg,Yh,true_and,Yi,Yj,Yk,Yl,Ym,Yn,Yo,Yp,Yq,Yr,Yt,Yu,Yv,Yw,Yx,Yy,Yz,XA,XB,XC,XD,XE,beq_self_eq_true,reduceIte,reduceCtorEq,↓reduceIte,XF,XG,XH]))) (by (repeat (first | dsimp only [XI, XJ] | dsimp only [ZA,ZB,ZC,ZD,ZE,ZF,ZG,ZH,ZI,ZJ,ZK,ZL,ZM,ZN,ZO,ZP,ZQ,ZR,ZS,ZT,ZU,ZV,ZW,ZX,ZY,ZZ,Za,Zb,Zc,Zd,Ze,Zf,Zg,Zh,Zi,Zj,Zk,Zl,Zm,Zn,Zo,Zp,Zq,Zr,Zs,Zt,Zu,Zv,Zw,Zx,Zy,Zz,YA,YB,YC,YD,YE,YF,YG,YH,YI,YJ,YK,YL,YM,YN,YO,YP,YQ,YR,Env.set,cond_true,cond_false,String.reduceBEq,YS,YT,YU,YV,YW,YX,YY,YZ,Ya,Yb,Yc,Yd,Ye,Yf] | simp only [Yg,Yh,true_and,Yi,Yj,Yk,Yl,Ym,Yn,Yo,Yp,Yq,Yr,Yt,Yu,Yv,Yw,Yx,Yy,Yz,XA,XB,XC,XD,XE,beq_self_eq_true,reduceIte,reduceCtorEq,↓reduceIte,XF,XG,XH, e3]))) (by (repeat (first | dsimp only [XI, XJ] | dsimp only [ZA,ZB,ZC,ZD,ZE,ZF,ZG,ZH,ZI,ZJ,ZK,ZL,ZM,ZN,ZO,ZP,ZQ,ZR,ZS,ZT,ZU,ZV,ZW,ZX,ZY,ZZ,Za,Zb,Zc,Zd,Ze,Zf,Zg,Zh,Zi,Zj,Zk,Zl,Zm,Zn,Zo,Zp,Zq,Zr,Zs,Zt,Zu,Zv,Zw,Zx,Zy,Zz,YA,YB,YC,YD,YE,YF,YG,YH,YI,YJ,YK,YL,YM,YN,YO,YP,YQ,YR,Env.set,cond_true,cond_false,String.reduceBEq,YS,YT,YU,YV,YW,YX,YY,YZ,Ya,Yb,Yc,Yd,Ye,Yf] | simp only [Yg,Yh,true_and,Yi,Yj,Yk,Yl,Ym,Yn,Yo,Yp,Yq,Yr,Yt,Yu,Yv,Yw,Yx,Yy,Yz,XA,XB,XC,XD,XE,beq_self_eq_true,reduceIte,reduceCtorEq,↓reduceIte,XF,XG,XH, e4]))) fun ρ' H' l hk hlen fl' mk t1 t2 t3 t4 => ?_
    refine h1 _ _ ⟨W ++ [l], fl', fun c hc => ?_, by simp [hWl], fun j hj => ?_, t1, t2, t3, t4⟩
    · rw [hk c (by have := hp.length_le; omega) (by omega), hpre c hc]
    · by_cases hji : j < i
      · have : row (W ++ [l]) j = row W j := by unfold row; rw [List.getD_eq_getElem?_getD, List.getD_eq_getElem?_getD, List.getElem?_append_left (by omega)]
        rw [this]; exact hrows j hji
      · have : j = i := by omega
        subst this
        have : row (W ++ [l]) j = l := by unfold row; rw [List.getD_eq_getElem?_getD, ← hWl]; simp
        rw [this]; exact mk
  · obtain ⟨W, fl, hpre, hWl, hrows, e1, e2, e3, e4⟩ := hI
    rw [rng_len] at hWl hrows
    refine k5 _ _ ?_
    (repeat (first | dsimp only [XI, XJ] | dsimp only [ZA,ZB,ZC,ZD,ZE,ZF,ZG,ZH,ZI,ZJ,ZK,ZL,ZM,ZN,ZO,ZP,ZQ,ZR,ZS,ZT,ZU,ZV,ZW,ZX,ZY,ZZ,Za,Zb,Zc,Zd,Ze,Zf,Zg,Zh,Zi,Zj,Zk,Zl,Zm,Zn,Zo,Zp,Zq,Zr,Zs,Zt,Zu,Zv,Zw,Zx,Zy,Zz,YA,YB,YC,YD,YE,YF,YG,YH,YI,YJ,YK,YL,YM,YN,YO,YP,YQ,YR,Env.set,cond_true,cond_false,String.reduceBEq,YS,YT,YU,YV,YW,YX,YY,YZ,Ya,Yb,Yc,Yd,Ye,Yf] | simp only [Yg,Yh,true_and,Yi,Yj,Yk,Yl,Ym,Yn,Yo,Yp,Yq,Yr,Yt,Yu,Yv,Yw,Yx,Yy,Yz,XA,XB,XC,XD,XE,beq_self_eq_true,reduceIte,reduceCtorEq,↓reduceIte,XF,XG,XH, e4]))
    exact h _ _ W (pre_of hpre) fl.wh ⟨by have := ok.pos; omega, by omega, fun i hi => by rw [hWl]; exact (hrows i (by omega)).row⟩ hWl (made_hold ok hWl fun g hg => hrows g hg)

theorem s_law_odd (hP : P.fn "_law_odd" = some f__law_odd) {a : Nat} {Rs : List (List Nat)} (hR : WN H a Rs) (h : ∀ H', H <+: H' → Q (.bool (Rs.any oddR)) H') : callN P b (n + 1) "_law_odd" [.ref a] H Q X := by
  have z2 : ((2 : Int) = 0) = False := by simp
  obtain ⟨fs, d1, d2, d3⟩ := hR.at
  (refine callN_in hP rfl ?_; unfold f__law_odd)
  (repeat (first | dsimp only [XI, XJ] | dsimp only [ZA,ZB,ZC,ZD,ZE,ZF,ZG,ZH,ZI,ZJ,ZK,ZL,ZM,ZN,ZO,ZP,ZQ,ZR,ZS,ZT,ZU,ZV,ZW,ZX,ZY,ZZ,Za,Zb,Zc,Zd,Ze,Zf,Zg,Zh,Zi,Zj,Zk,Zl,Zm,Zn,Zo,Zp,Zq,Zr,Zs,Zt,Zu,Zv,Zw,Zx,Zy,Zz,YA,YB,YC,YD,YE,YF,YG,YH,YI,YJ,YK,YL,YM,YN,YO,YP,YQ,YR,Env.set,cond_true,cond_false,String.reduceBEq,YS,YT,YU,YV,YW,YX,YY,YZ,Ya,Yb,Yc,Yd,Ye,Yf] | simp only [Yg,Yh,true_and,Yi,Yj,Yk,Yl,Ym,Yn,Yo,Yp,Yq,Yr,Yt,Yu,Yv,Yw,Yx,Yy,Yz,XA,XB,XC,XD,XE,beq_self_eq_true,reduceIte,reduceCtorEq,↓reduceIte,XF,XG,XH, seqOf_list d1]))
  refine wLoop_idx (fun i acc H' => H' = H ∧ acc.length = (Rs.take i).countP oddR) ⟨rfl, rfl⟩ (fun j v acc Hx hv hI => ?_) fun acc Hx hI => ?_
  · obtain ⟨rfl, hac⟩ := hI
    refine ⟨rfl, fun k'' h1' h2' => ?_⟩
    obtain ⟨c, R, rfl, hRi, hRc⟩ := d3 j v hv
    have ef : ((R.length : Int)).fmod 2 = ((R.length % 2 : Nat) : Int) := by rw [← fmod_nn]; rfl
    (repeat (first | dsimp only [XI, XJ] | dsimp only [ZA,ZB,ZC,ZD,ZE,ZF,ZG,ZH,ZI,ZJ,ZK,ZL,ZM,ZN,ZO,ZP,ZQ,ZR,ZS,ZT,ZU,ZV,ZW,ZX,ZY,ZZ,Za,Zb,Zc,Zd,Ze,Zf,Zg,Zh,Zi,Zj,Zk,Zl,Zm,Zn,Zo,Zp,Zq,Zr,Zs,Zt,Zu,Zv,Zw,Zx,Zy,Zz,YA,YB,YC,YD,YE,YF,YG,YH,YI,YJ,YK,YL,YM,YN,YO,YP,YQ,YR,Env.set,cond_true,cond_false,String.reduceBEq,YS,YT,YU,YV,YW,YX,YY,YZ,Ya,Yb,Yc,Yd,Ye,Yf] | simp only [Yg,Yh,true_and,Yi,Yj,Yk,Yl,Ym,Yn,Yo,Yp,Yq,Yr,Yt,Yu,Yv,Yw,Yx,Yy,Yz,XA,XB,XC,XD,XE,beq_self_eq_true,reduceIte,reduceCtorEq,↓reduceIte,XF,XG,XH, hRc.len, z2, ef]))
    have yes : oddR R = true → k'' (some (.ref c)) Hx := fun q => h1' _ _ ⟨rfl, by rw [take_snoc hRi, List.countP_append, List.countP_singleton, q]; simp [hac]⟩
    have no : oddR R = false → k'' none Hx := fun q => h2' _ ⟨rfl, by rw [take_snoc hRi, List.countP_append, List.countP_singleton, q]; simp [hac]⟩
    rw [oddR_eq] at yes no
    by_cases c1 : 1 < R.length
    · have t1 : decide ((1 : Int) < (R.length : Int)) = true := decide_eq_true (by omega)
      (repeat (first | dsimp only [XI, XJ] | dsimp only [ZA,ZB,ZC,ZD,ZE,ZF,ZG,ZH,ZI,ZJ,ZK,ZL,ZM,ZN,ZO,ZP,ZQ,ZR,ZS,ZT,ZU,ZV,ZW,ZX,ZY,ZZ,Za,Zb,Zc,Zd,Ze,Zf,Zg,Zh,Zi,Zj,Zk,Zl,Zm,Zn,Zo,Zp,Zq,Zr,Zs,Zt,Zu,Zv,Zw,Zx,Zy,Zz,YA,YB,YC,YD,YE,YF,YG,YH,YI,YJ,YK,YL,YM,YN,YO,YP,YQ,YR,Env.set,cond_true,cond_false,String.reduceBEq,YS,YT,YU,YV,YW,YX,YY,YZ,Ya,Yb,Yc,Yd,Ye,Yf] | simp only [Yg,Yh,true_and,Yi,Yj,Yk,Yl,Ym,Yn,Yo,Yp,Yq,Yr,Yt,Yu,Yv,Yw,Yx,Yy,Yz,XA,XB,XC,XD,XE,beq_self_eq_true,reduceIte,reduceCtorEq,↓reduceIte,XF,XG,XH, t1]))
      rw [decide_eq_true c1, Bool.true_and] at yes no
      refine ⟨fun q => yes ?_, fun q => no ?_⟩
      · have : R.length % 2 = 1 := by simp at q; omega
        simp [this]
      · have : ¬ R.length % 2 = 1 := by simp at q; omega
        simp [this]
    · have t1 : decide ((1 : Int) < (R.length : Int)) = false := decide_eq_false (by omega)
      (repeat (first | dsimp only [XI, XJ] | dsimp only [ZA,ZB,ZC,ZD,ZE,ZF,ZG,ZH,ZI,ZJ,ZK,ZL,ZM,ZN,ZO,ZP,ZQ,ZR,ZS,ZT,ZU,ZV,ZW,ZX,ZY,ZZ,Za,Zb,Zc,Zd,Ze,Zf,Zg,Zh,Zi,Zj,Zk,Zl,Zm,Zn,Zo,Zp,Zq,Zr,Zs,Zt,Zu,Zv,Zw,Zx,Zy,Zz,YA,YB,YC,YD,YE,YF,YG,YH,YI,YJ,YK,YL,YM,YN,YO,YP,YQ,YR,Env.set,cond_true,cond_false,String.reduceBEq,YS,YT,YU,YV,YW,YX,YY,YZ,Ya,Yb,Yc,Yd,Ye,Yf] | simp only [Yg,Yh,true_and,Yi,Yj,Yk,Yl,Ym,Yn,Yo,Yp,Yq,Yr,Yt,Yu,Yv,Yw,Yx,Yy,Yz,XA,XB,XC,XD,XE,beq_self_eq_true,reduceIte,reduceCtorEq,↓reduceIte,XF,XG,XH, t1]))
      rw [decide_eq_false c1, Bool.false_and] at no
      exact no rfl
  · obtain ⟨rfl, hac⟩ := hI
    refine ⟨rfl, ?_⟩
    rw [d2, List.take_length] at hac
    have hlo : lenV (.ref Hx.length) (Hx ++ [.list acc]) = some ((Rs.countP oddR : Nat) : Int) := by unfold lenV; simp [seqOf_list (get_new Hx (.list acc)), hac]
    (repeat (first | dsimp only [XI, XJ] | dsimp only [ZA,ZB,ZC,ZD,ZE,ZF,ZG,ZH,ZI,ZJ,ZK,ZL,ZM,ZN,ZO,ZP,ZQ,ZR,ZS,ZT,ZU,ZV,ZW,ZX,ZY,ZZ,Za,Zb,Zc,Zd,Ze,Zf,Zg,Zh,Zi,Zj,Zk,Zl,Zm,Zn,Zo,Zp,Zq,Zr,Zs,Zt,Zu,Zv,Zw,Zx,Zy,Zz,YA,YB,YC,YD,YE,YF,YG,YH,YI,YJ,YK,YL,YM,YN,YO,YP,YQ,YR,Env.set,cond_true,cond_false,String.reduceBEq,YS,YT,YU,YV,YW,YX,YY,YZ,Ya,Yb,Yc,Yd,Ye,Yf] | simp only [Yg,Yh,true_and,Yi,Yj,Yk,Yl,Ym,Yn,Yo,Yp,Yq,Yr,Yt,Yu,Yv,Yw,Yx,Yy,Yz,XA,XB,XC,XD,XE,beq_self_eq_true,reduceIte,reduceCtorEq,↓reduceIte,XF,XG,XH, hlo]))
    have : decide ((0 : Int) < ((Rs.countP oddR : Nat) : Int)) = Rs.any oddR := by
      cases e : Rs.any oddR with
      | true =>
        obtain ⟨R, q1, q2⟩ := List.any_eq_true.mp e
        have := List.countP_pos_iff.mpr ⟨R, q1, q2⟩
        exact decide_eq_true (by omega)
      | false =>
        have : Rs.countP oddR = 0 := List.countP_eq_zero.mpr (List.any_eq_false.mp e)
        exact decide_eq_false (by omega)
    rw [this]
    exact h _ (pre_new _ _)

theorem ML.mem {c : Nat} {H : Hp} {w a : Nat} {Xs : List Mt} {M : Mt} (h : ML c H w Xs) (hM : MT H a M) (hm : M ∈ Xs) : Mine.mem H (.ref a) (.ref w) = some true := by
  obtain ⟨_, rs, h1, h2⟩ := h
  have : rs.mapM (readD 8 H) = some (Xs.map fun M => PyData.list (M.map od)) := by
    clear h1 hm
    induction h2 with
    | nil => rfl
    | cons hr _ ih =>
      obtain ⟨b, rfl, _, _, _, hb⟩ := hr
      rw [List.mapM_cons, ih, hb.readN 7]; rfl
  rw [mem_ref h1]
  simp only [memO, inD, hM.readN 7, this, cl_n, cl_b, cl_i, cl_s, cl_l, cl_t, canLay_od, canLay_ods, Bool.and_self, if_true]
  congr 1
  rw [List.any_map, List.any_eq_true]
  exact ⟨M, hm, by simp [Function.comp, dq_ii, dq_nn, dq_in, dq_ni, dq_bb, dq_ss, dq_ll, dq_tt, eqv_od]⟩

theorem s_law_calm (hP : P.fn "_law_calm" = some f__law_calm) (hP0 : P.fn "_law_mates" = some f__law_mates) (hP1 : P.fn "_law_suits" = some f__law_suits) (hP2 : P.fn "_law_whole" = some f__law_whole) (hP3 : P.fn "_law_restless" = some f__law_restless_05) (hP4 : P.fn "_law_rather" = some f__law_rather)
    {w a c s : Nat} {W : List (List Int)} {M : Mt} (hw : WH H w W) (ok : WOk W) (hm : MT H a M) (hs : ML c H s (calmW W)) (hM : M ∈ calmW W) (h : ∀ H', H <+: H' → Q (.bool true) H') : callN P b (n + 4) "_law_calm" [.ref w, .ref a, .ref s] H Q X := by
  obtain ⟨mok, hrs⟩ := calmW_mem hM
  (refine callN_in hP rfl ?_; unfold f__law_calm)
  (repeat (first | dsimp only [XI, XJ] | dsimp only [ZA,ZB,ZC,ZD,ZE,ZF,ZG,ZH,ZI,ZJ,ZK,ZL,ZM,ZN,ZO,ZP,ZQ,ZR,ZS,ZT,ZU,ZV,ZW,ZX,ZY,ZZ,Za,Zb,Zc,Zd,Ze,Zf,Zg,Zh,Zi,Zj,Zk,Zl,Zm,Zn,Zo,Zp,Zq,Zr,Zs,Zt,Zu,Zv,Zw,Zx,Zy,Zz,YA,YB,YC,YD,YE,YF,YG,YH,YI,YJ,YK,YL,YM,YN,YO,YP,YQ,YR,Env.set,cond_true,cond_false,String.reduceBEq,YS,YT,YU,YV,YW,YX,YY,YZ,Ya,Yb,Yc,Yd,Ye,Yf] | simp only [Yg,Yh,true_and,Yi,Yj,Yk,Yl,Ym,Yn,Yo,Yp,Yq,Yr,Yt,Yu,Yv,Yw,Yx,Yy,Yz,XA,XB,XC,XD,XE,beq_self_eq_true,reduceIte,reduceCtorEq,↓reduceIte,XF,XG,XH]))
  refine s_law_mates hP0 hP1 hP2 hw ok hm mok ?_
  (repeat (first | dsimp only [XI, XJ] | dsimp only [ZA,ZB,ZC,ZD,ZE,ZF,ZG,ZH,ZI,ZJ,ZK,ZL,ZM,ZN,ZO,ZP,ZQ,ZR,ZS,ZT,ZU,ZV,ZW,ZX,ZY,ZZ,Za,Zb,Zc,Zd,Ze,Zf,Zg,Zh,Zi,Zj,Zk,Zl,Zm,Zn,Zo,Zp,Zq,Zr,Zs,Zt,Zu,Zv,Zw,Zx,Zy,Zz,YA,YB,YC,YD,YE,YF,YG,YH,YI,YJ,YK,YL,YM,YN,YO,YP,YQ,YR,Env.set,cond_true,cond_false,String.reduceBEq,YS,YT,YU,YV,YW,YX,YY,YZ,Ya,Yb,Yc,Yd,Ye,Yf] | simp only [Yg,Yh,true_and,Yi,Yj,Yk,Yl,Ym,Yn,Yo,Yp,Yq,Yr,Yt,Yu,Yv,Yw,Yx,Yy,Yz,XA,XB,XC,XD,XE,beq_self_eq_true,reduceIte,reduceCtorEq,↓reduceIte,XF,XG,XH]))
  refine s_law_restless5 hP3 hP4 hP1 hw ok hm mok fun H1 r hp1 _ hpr => ?_
  rw [hrs] at hpr
  have pn := pre_new H1 (.list [])
  have e : eqD (H1 ++ [.list []]) (.ref r) (.ref H1.length) = some true := by
    rw [(hpr.pre pn).eq (qs := []) ⟨[], get_new _ _, .nil⟩]; rfl
  (repeat (first | dsimp only [XI, XJ] | dsimp only [ZA,ZB,ZC,ZD,ZE,ZF,ZG,ZH,ZI,ZJ,ZK,ZL,ZM,ZN,ZO,ZP,ZQ,ZR,ZS,ZT,ZU,ZV,ZW,ZX,ZY,ZZ,Za,Zb,Zc,Zd,Ze,Zf,Zg,Zh,Zi,Zj,Zk,Zl,Zm,Zn,Zo,Zp,Zq,Zr,Zs,Zt,Zu,Zv,Zw,Zx,Zy,Zz,YA,YB,YC,YD,YE,YF,YG,YH,YI,YJ,YK,YL,YM,YN,YO,YP,YQ,YR,Env.set,cond_true,cond_false,String.reduceBEq,YS,YT,YU,YV,YW,YX,YY,YZ,Ya,Yb,Yc,Yd,Ye,Yf] | simp only [Yg,Yh,true_and,Yi,Yj,Yk,Yl,Ym,Yn,Yo,Yp,Yq,Yr,Yt,Yu,Yv,Yw,Yx,Yy,Yz,XA,XB,XC,XD,XE,beq_self_eq_true,reduceIte,reduceCtorEq,↓reduceIte,XF,XG,XH, e, (hs.pre (hp1.trans pn)).mem (hm.pre (hp1.trans pn)) hM]))
  exact h _ (hp1.trans pn)
end
end Mine

namespace Mine
open PySem

theorem isT (b : Bool) : isSame (.bool b) (.bool true) = some (decide (b = true)) := by cases b <;> simp [isSame]
theorem tup_item0 {H : Hp} {r : Nat} {x y : V} (e : H[r]? = some (.tuple [x, y])) : itemV (.ref r) (.int 0) H = some x := item_seq (i := 0) (by unfold seqOf; rw [e]) rfl
theorem tup_item1 {H : Hp} {r : Nat} {x y : V} (e : H[r]? = some (.tuple [x, y])) : itemV (.ref r) (.int 1) H = some y := item_seq (i := 1) (by unfold seqOf; rw [e]) rfl
theorem tup_len {H : Hp} {r : Nat} {x y : V} (e : H[r]? = some (.tuple [x, y])) : lenV (.ref r) H = some 2 := by unfold lenV seqOf; simp [e]
theorem tup_inst {H : Hp} {r : Nat} {xs : List V} (e : H[r]? = some (.tuple xs)) : isInst (.ref r) ["tuple"] H = true := by simp [isInst, typesOf, e]
theorem eq_words (H : Hp) : eqD H (.str (Str.ofString "twos")) (.str (Str.ofString "twos")) = some true ∧ eqD H (.str (Str.ofString "parties")) (.str (Str.ofString "parties")) = some true ∧ eqD H (.str (Str.ofString "parties")) (.str (Str.ofString "twos")) = some false :=
  ⟨by rw [eqD_ss H (by decide +kernel) (by decide +kernel)]; rw [show (Str.ofString "twos" == Str.ofString "twos") = true from by decide +kernel],
   by rw [eqD_ss H (by decide +kernel) (by decide +kernel)]; rw [show (Str.ofString "parties" == Str.ofString "parties") = true from by decide +kernel],
   by rw [eqD_ss H (by decide +kernel) (by decide +kernel)]; rw [show (Str.ofString "parties" == Str.ofString "twos") = false from by decide +kernel]⟩

set_option maxRecDepth 10000 in
theorem main08 (is : List Int) : callN prog08 false 200 "law" [.ref 0] [.frozen (is.map .int)] (fun v _ => v = .bool true) (fun _ _ => False) := by
  have hs : ∀ {H : Hp}, [O.frozen (is.map .int)] <+: H → H[0]? = some (.frozen (is.map .int)) := fun hp => pre_get hp rfl
  have hq : ∀ {H : Hp}, [O.frozen (is.map .int)] <+: H → seqOf H 0 = some (is.map .int) := fun hp => by unfold seqOf; rw [hs hp]
  have p0 : [O.frozen (is.map .int)] <+: [O.frozen (is.map .int)] := List.prefix_refl _
  (refine callN_in (show prog08.fn "law" = some f_law_08 from rfl) rfl ?_; unfold f_law_08)
  rw [show E.compS (.op .list [.var "_law_row"]) (.one "_law_row") (.var "_law_wishes") [] = copyE "_law_wishes" "_law_row" from rfl]
  refine wSs_step fun K hn hr => ?_
  (repeat (first | dsimp only [XI, XJ] | dsimp only [ZA,ZB,ZC,ZD,ZE,ZF,ZG,ZH,ZI,ZJ,ZK,ZL,ZM,ZN,ZO,ZP,ZQ,ZR,ZS,ZT,ZU,ZV,ZW,ZX,ZY,ZZ,Za,Zb,Zc,Zd,Ze,Zf,Zg,Zh,Zi,Zj,Zk,Zl,Zm,Zn,Zo,Zp,Zq,Zr,Zs,Zt,Zu,Zv,Zw,Zx,Zy,Zz,YA,YB,YC,YD,YE,YF,YG,YH,YI,YJ,YK,YL,YM,YN,YO,YP,YQ,YR,Env.set,cond_true,cond_false,String.reduceBEq,YS,YT,YU,YV,YW,YX,YY,YZ,Ya,Yb,Yc,Yd,Ye,Yf] | simp only [Yg,Yh,true_and,Yi,Yj,Yk,Yl,Ym,Yn,Yo,Yp,Yq,Yr,Yt,Yu,Yv,Yw,Yx,Yy,Yz,XA,XB,XC,XD,XE,beq_self_eq_true,reduceIte,reduceCtorEq,↓reduceIte,XF,XG,XH]))
  refine s_cell_at (k := 0) rfl (hq p0) ?_
  obtain ⟨m, hm, em⟩ := fmod_nat (is.getD 0 0) (m := 6) (by omega)
  have em' : (is.getD 0 0).fmod 6 = (m : Int) := em
  have em2 : (1 : Int) + (m : Int) = ((m + 1 : Nat) : Int) := by omega
  have z6 : ((6 : Int) = 0) = False := by simp
  have z3 : ((3 : Int) = 0) = False := by simp
  have z6' : ((6 : Int) = 0 ∨ 2 ^ 30 ≤ (6 : Int).natAbs) = False := by simp
  (repeat (first | dsimp only [XI, XJ] | dsimp only [ZA,ZB,ZC,ZD,ZE,ZF,ZG,ZH,ZI,ZJ,ZK,ZL,ZM,ZN,ZO,ZP,ZQ,ZR,ZS,ZT,ZU,ZV,ZW,ZX,ZY,ZZ,Za,Zb,Zc,Zd,Ze,Zf,Zg,Zh,Zi,Zj,Zk,Zl,Zm,Zn,Zo,Zp,Zq,Zr,Zs,Zt,Zu,Zv,Zw,Zx,Zy,Zz,YA,YB,YC,YD,YE,YF,YG,YH,YI,YJ,YK,YL,YM,YN,YO,YP,YQ,YR,Env.set,cond_true,cond_false,String.reduceBEq,YS,YT,YU,YV,YW,YX,YY,YZ,Ya,Yb,Yc,Yd,Ye,Yf] | simp only [Yg,Yh,true_and,Yi,Yj,Yk,Yl,Ym,Yn,Yo,Yp,Yq,Yr,Yt,Yu,Yv,Yw,Yx,Yy,Yz,XA,XB,XC,XD,XE,beq_self_eq_true,reduceIte,reduceCtorEq,↓reduceIte,XF,XG,XH, em', em2, z6]))
  refine hn _ _ ?_
  clear hn hr K
  refine wSs_step fun K hn hr => ?_
  have rest : ∀ (ρ : Env) (m : Nat), 1 ≤ m → m ≤ 6 → ρ "_law_script" = some (.ref 0) → ρ "_law_many" = some (.int (m : Int)) → K none ρ [O.frozen (is.map .int)] := by
    intro ρ m m1 m6 e1 e2
    refine hn _ _ ?_
    clear hn hr K
    have hml : m ≤ lim := Nat.le_trans m6 (by decide)
    -- after
    refine wSs_step fun K hn hr => ?_
    (repeat (first | dsimp only [XI, XJ] | dsimp only [ZA,ZB,ZC,ZD,ZE,ZF,ZG,ZH,ZI,ZJ,ZK,ZL,ZM,ZN,ZO,ZP,ZQ,ZR,ZS,ZT,ZU,ZV,ZW,ZX,ZY,ZZ,Za,Zb,Zc,Zd,Ze,Zf,Zg,Zh,Zi,Zj,Zk,Zl,Zm,Zn,Zo,Zp,Zq,Zr,Zs,Zt,Zu,Zv,Zw,Zx,Zy,Zz,YA,YB,YC,YD,YE,YF,YG,YH,YI,YJ,YK,YL,YM,YN,YO,YP,YQ,YR,Env.set,cond_true,cond_false,String.reduceBEq,YS,YT,YU,YV,YW,YX,YY,YZ,Ya,Yb,Yc,Yd,Ye,Yf] | simp only [Yg,Yh,true_and,Yi,Yj,Yk,Yl,Ym,Yn,Yo,Yp,Yq,Yr,Yt,Yu,Yv,Yw,Yx,Yy,Yz,XA,XB,XC,XD,XE,beq_self_eq_true,reduceIte,reduceCtorEq,↓reduceIte,XF,XG,XH, e1, e2]))
    refine s_cell_at (k := 2) rfl (hq p0) ?_
    (repeat (first | dsimp only [XI, XJ] | dsimp only [ZA,ZB,ZC,ZD,ZE,ZF,ZG,ZH,ZI,ZJ,ZK,ZL,ZM,ZN,ZO,ZP,ZQ,ZR,ZS,ZT,ZU,ZV,ZW,ZX,ZY,ZZ,Za,Zb,Zc,Zd,Ze,Zf,Zg,Zh,Zi,Zj,Zk,Zl,Zm,Zn,Zo,Zp,Zq,Zr,Zs,Zt,Zu,Zv,Zw,Zx,Zy,Zz,YA,YB,YC,YD,YE,YF,YG,YH,YI,YJ,YK,YL,YM,YN,YO,YP,YQ,YR,Env.set,cond_true,cond_false,String.reduceBEq,YS,YT,YU,YV,YW,YX,YY,YZ,Ya,Yb,Yc,Yd,Ye,Yf] | simp only [Yg,Yh,true_and,Yi,Yj,Yk,Yl,Ym,Yn,Yo,Yp,Yq,Yr,Yt,Yu,Yv,Yw,Yx,Yy,Yz,XA,XB,XC,XD,XE,beq_self_eq_true,reduceIte,reduceCtorEq,↓reduceIte,XF,XG,XH, e1, e2]))
    refine s_afters rfl m6 m1 fun H1 a A hp1 hA aok hAl => ?_
    refine hn _ _ ?_
    clear hn hr K
    -- wishes
    refine wSs_step fun K hn hr => ?_
    (repeat (first | dsimp only [XI, XJ] | dsimp only [ZA,ZB,ZC,ZD,ZE,ZF,ZG,ZH,ZI,ZJ,ZK,ZL,ZM,ZN,ZO,ZP,ZQ,ZR,ZS,ZT,ZU,ZV,ZW,ZX,ZY,ZZ,Za,Zb,Zc,Zd,Ze,Zf,Zg,Zh,Zi,Zj,Zk,Zl,Zm,Zn,Zo,Zp,Zq,Zr,Zs,Zt,Zu,Zv,Zw,Zx,Zy,Zz,YA,YB,YC,YD,YE,YF,YG,YH,YI,YJ,YK,YL,YM,YN,YO,YP,YQ,YR,Env.set,cond_true,cond_false,String.reduceBEq,YS,YT,YU,YV,YW,YX,YY,YZ,Ya,Yb,Yc,Yd,Ye,Yf] | simp only [Yg,Yh,true_and,Yi,Yj,Yk,Yl,Ym,Yn,Yo,Yp,Yq,Yr,Yt,Yu,Yv,Yw,Yx,Yy,Yz,XA,XB,XC,XD,XE,beq_self_eq_true,reduceIte,reduceCtorEq,↓reduceIte,XF,XG,XH, e1]))
    refine s_law_made8 rfl rfl rfl (hs hp1) hA aok fun H2 w W hp2 hW wok hWl hold => ?_
    refine hn _ _ ?_
    clear hn hr K
    have hA2 := hA.pre hp2
    -- parties
    refine wSs_step fun K hn hr => ?_
    (repeat (first | dsimp only [XI, XJ] | dsimp only [ZA,ZB,ZC,ZD,ZE,ZF,ZG,ZH,ZI,ZJ,ZK,ZL,ZM,ZN,ZO,ZP,ZQ,ZR,ZS,ZT,ZU,ZV,ZW,ZX,ZY,ZZ,Za,Zb,Zc,Zd,Ze,Zf,Zg,Zh,Zi,Zj,Zk,Zl,Zm,Zn,Zo,Zp,Zq,Zr,Zs,Zt,Zu,Zv,Zw,Zx,Zy,Zz,YA,YB,YC,YD,YE,YF,YG,YH,YI,YJ,YK,YL,YM,YN,YO,YP,YQ,YR,Env.set,cond_true,cond_false,String.reduceBEq,YS,YT,YU,YV,YW,YX,YY,YZ,Ya,Yb,Yc,Yd,Ye,Yf] | simp only [Yg,Yh,true_and,Yi,Yj,Yk,Yl,Ym,Yn,Yo,Yp,Yq,Yr,Yt,Yu,Yv,Yw,Yx,Yy,Yz,XA,XB,XC,XD,XE,beq_self_eq_true,reduceIte,reduceCtorEq,↓reduceIte,XF,XG,XH]))
    refine s_law_rings rfl hA2 aok fun H3 p hp3 _ hR => ?_
    refine hn _ _ ?_
    clear hn hr K
    have hA3 := hA2.pre hp3
    have hW3 := hW.pre hp3
    -- holds
    refine wSs_step fun K hn hr => ?_
    (repeat (first | dsimp only [XI, XJ] | dsimp only [ZA,ZB,ZC,ZD,ZE,ZF,ZG,ZH,ZI,ZJ,ZK,ZL,ZM,ZN,ZO,ZP,ZQ,ZR,ZS,ZT,ZU,ZV,ZW,ZX,ZY,ZZ,Za,Zb,Zc,Zd,Ze,Zf,Zg,Zh,Zi,Zj,Zk,Zl,Zm,Zn,Zo,Zp,Zq,Zr,Zs,Zt,Zu,Zv,Zw,Zx,Zy,Zz,YA,YB,YC,YD,YE,YF,YG,YH,YI,YJ,YK,YL,YM,YN,YO,YP,YQ,YR,Env.set,cond_true,cond_false,String.reduceBEq,YS,YT,YU,YV,YW,YX,YY,YZ,Ya,Yb,Yc,Yd,Ye,Yf] | simp only [Yg,Yh,true_and,Yi,Yj,Yk,Yl,Ym,Yn,Yo,Yp,Yq,Yr,Yt,Yu,Yv,Yw,Yx,Yy,Yz,XA,XB,XC,XD,XE,beq_self_eq_true,reduceIte,reduceCtorEq,↓reduceIte,XF,XG,XH]))
    refine w_copy (w := w) (by (repeat (first | dsimp only [XI, XJ] | dsimp only [ZA,ZB,ZC,ZD,ZE,ZF,ZG,ZH,ZI,ZJ,ZK,ZL,ZM,ZN,ZO,ZP,ZQ,ZR,ZS,ZT,ZU,ZV,ZW,ZX,ZY,ZZ,Za,Zb,Zc,Zd,Ze,Zf,Zg,Zh,Zi,Zj,Zk,Zl,Zm,Zn,Zo,Zp,Zq,Zr,Zs,Zt,Zu,Zv,Zw,Zx,Zy,Zz,YA,YB,YC,YD,YE,YF,YG,YH,YI,YJ,YK,YL,YM,YN,YO,YP,YQ,YR,Env.set,cond_true,cond_false,String.reduceBEq,YS,YT,YU,YV,YW,YX,YY,YZ,Ya,Yb,Yc,Yd,Ye,Yf] | simp only [Yg,Yh,true_and,Yi,Yj,Yk,Yl,Ym,Yn,Yo,Yp,Yq,Yr,Yt,Yu,Yv,Yw,Yx,Yy,Yz,XA,XB,XC,XD,XE,beq_self_eq_true,reduceIte,reduceCtorEq,↓reduceIte,XF,XG,XH]))) hW3 fun H4 w4 hp4 hw4 => ?_
    have hA4 := hA3.pre hp4
    (repeat (first | dsimp only [XI, XJ] | dsimp only [ZA,ZB,ZC,ZD,ZE,ZF,ZG,ZH,ZI,ZJ,ZK,ZL,ZM,ZN,ZO,ZP,ZQ,ZR,ZS,ZT,ZU,ZV,ZW,ZX,ZY,ZZ,Za,Zb,Zc,Zd,Ze,Zf,Zg,Zh,Zi,Zj,Zk,Zl,Zm,Zn,Zo,Zp,Zq,Zr,Zs,Zt,Zu,Zv,Zw,Zx,Zy,Zz,YA,YB,YC,YD,YE,YF,YG,YH,YI,YJ,YK,YL,YM,YN,YO,YP,YQ,YR,Env.set,cond_true,cond_false,String.reduceBEq,YS,YT,YU,YV,YW,YX,YY,YZ,Ya,Yb,Yc,Yd,Ye,Yf] | simp only [Yg,Yh,true_and,Yi,Yj,Yk,Yl,Ym,Yn,Yo,Yp,Yq,Yr,Yt,Yu,Yv,Yw,Yx,Yy,Yz,XA,XB,XC,XD,XE,beq_self_eq_true,reduceIte,reduceCtorEq,↓reduceIte,XF,XG,XH, seqOf_ln hA4]))
    have hp5 := pre_new H4 (.list (A.map fun i : Nat => V.int (i : Int)))
    refine s_holds rfl rfl rfl rfl rfl rfl rfl rfl rfl rfl rfl (hw4.pre hp5) wok (LN.new H4 A) aok hWl fun H6 r hp6 hrr => ?_
    have hrt : r = true := hrr.mpr ((hold_iff wok aok hWl).mpr hold)
    subst hrt
    (repeat (first | dsimp only [XI, XJ] | dsimp only [ZA,ZB,ZC,ZD,ZE,ZF,ZG,ZH,ZI,ZJ,ZK,ZL,ZM,ZN,ZO,ZP,ZQ,ZR,ZS,ZT,ZU,ZV,ZW,ZX,ZY,ZZ,Za,Zb,Zc,Zd,Ze,Zf,Zg,Zh,Zi,Zj,Zk,Zl,Zm,Zn,Zo,Zp,Zq,Zr,Zs,Zt,Zu,Zv,Zw,Zx,Zy,Zz,YA,YB,YC,YD,YE,YF,YG,YH,YI,YJ,YK,YL,YM,YN,YO,YP,YQ,YR,Env.set,cond_true,cond_false,String.reduceBEq,YS,YT,YU,YV,YW,YX,YY,YZ,Ya,Yb,Yc,Yd,Ye,Yf] | simp only [Yg,Yh,true_and,Yi,Yj,Yk,Yl,Ym,Yn,Yo,Yp,Yq,Yr,Yt,Yu,Yv,Yw,Yx,Yy,Yz,XA,XB,XC,XD,XE,beq_self_eq_true,reduceIte,reduceCtorEq,↓reduceIte,XF,XG,XH, isT, decide_true]))
    refine hn _ _ ?_
    clear hn hr K
    have hp36 := hp4.trans (hp5.trans hp6)
    have hA6 := hA3.pre hp36
    have hW6 := hW3.pre hp36
    have hR6 := hR.pre hp36
    -- all calm
    refine wSs_step fun K hn hr => ?_
    (repeat (first | dsimp only [XI, XJ] | dsimp only [ZA,ZB,ZC,ZD,ZE,ZF,ZG,ZH,ZI,ZJ,ZK,ZL,ZM,ZN,ZO,ZP,ZQ,ZR,ZS,ZT,ZU,ZV,ZW,ZX,ZY,ZZ,Za,Zb,Zc,Zd,Ze,Zf,Zg,Zh,Zi,Zj,Zk,Zl,Zm,Zn,Zo,Zp,Zq,Zr,Zs,Zt,Zu,Zv,Zw,Zx,Zy,Zz,YA,YB,YC,YD,YE,YF,YG,YH,YI,YJ,YK,YL,YM,YN,YO,YP,YQ,YR,Env.set,cond_true,cond_false,String.reduceBEq,YS,YT,YU,YV,YW,YX,YY,YZ,Ya,Yb,Yc,Yd,Ye,Yf] | simp only [Yg,Yh,true_and,Yi,Yj,Yk,Yl,Ym,Yn,Yo,Yp,Yq,Yr,Yt,Yu,Yv,Yw,Yx,Yy,Yz,XA,XB,XC,XD,XE,beq_self_eq_true,reduceIte,reduceCtorEq,↓reduceIte,XF,XG,XH]))
    refine w_copy (w := w) (by (repeat (first | dsimp only [XI, XJ] | dsimp only [ZA,ZB,ZC,ZD,ZE,ZF,ZG,ZH,ZI,ZJ,ZK,ZL,ZM,ZN,ZO,ZP,ZQ,ZR,ZS,ZT,ZU,ZV,ZW,ZX,ZY,ZZ,Za,Zb,Zc,Zd,Ze,Zf,Zg,Zh,Zi,Zj,Zk,Zl,Zm,Zn,Zo,Zp,Zq,Zr,Zs,Zt,Zu,Zv,Zw,Zx,Zy,Zz,YA,YB,YC,YD,YE,YF,YG,YH,YI,YJ,YK,YL,YM,YN,YO,YP,YQ,YR,Env.set,cond_true,cond_false,String.reduceBEq,YS,YT,YU,YV,YW,YX,YY,YZ,Ya,Yb,Yc,Yd,Ye,Yf] | simp only [Yg,Yh,true_and,Yi,Yj,Yk,Yl,Ym,Yn,Yo,Yp,Yq,Yr,Yt,Yu,Yv,Yw,Yx,Yy,Yz,XA,XB,XC,XD,XE,beq_self_eq_true,reduceIte,reduceCtorEq,↓reduceIte,XF,XG,XH]))) hW6 fun H7 w7 hp7 hw7 => ?_
    (repeat (first | dsimp only [XI, XJ] | dsimp only [ZA,ZB,ZC,ZD,ZE,ZF,ZG,ZH,ZI,ZJ,ZK,ZL,ZM,ZN,ZO,ZP,ZQ,ZR,ZS,ZT,ZU,ZV,ZW,ZX,ZY,ZZ,Za,Zb,Zc,Zd,Ze,Zf,Zg,Zh,Zi,Zj,Zk,Zl,Zm,Zn,Zo,Zp,Zq,Zr,Zs,Zt,Zu,Zv,Zw,Zx,Zy,Zz,YA,YB,YC,YD,YE,YF,YG,YH,YI,YJ,YK,YL,YM,YN,YO,YP,YQ,YR,Env.set,cond_true,cond_false,String.reduceBEq,YS,YT,YU,YV,YW,YX,YY,YZ,Ya,Yb,Yc,Yd,Ye,Yf] | simp only [Yg,Yh,true_and,Yi,Yj,Yk,Yl,Ym,Yn,Yo,Yp,Yq,Yr,Yt,Yu,Yv,Yw,Yx,Yy,Yz,XA,XB,XC,XD,XE,beq_self_eq_true,reduceIte,reduceCtorEq,↓reduceIte,XF,XG,XH]))
    refine s_all_calm rfl rfl rfl rfl rfl rfl rfl rfl rfl rfl hw7 wok fun H8 s hp8 hS => ?_
    refine hn _ _ ?_
    clear hn hr K
    have hp68 := hp7.trans hp8
    have hW8 := hW6.pre hp68
    -- dealt
    refine wSs_step fun K hn hr => ?_
    (repeat (first | dsimp only [XI, XJ] | dsimp only [ZA,ZB,ZC,ZD,ZE,ZF,ZG,ZH,ZI,ZJ,ZK,ZL,ZM,ZN,ZO,ZP,ZQ,ZR,ZS,ZT,ZU,ZV,ZW,ZX,ZY,ZZ,Za,Zb,Zc,Zd,Ze,Zf,Zg,Zh,Zi,Zj,Zk,Zl,Zm,Zn,Zo,Zp,Zq,Zr,Zs,Zt,Zu,Zv,Zw,Zx,Zy,Zz,YA,YB,YC,YD,YE,YF,YG,YH,YI,YJ,YK,YL,YM,YN,YO,YP,YQ,YR,Env.set,cond_true,cond_false,String.reduceBEq,YS,YT,YU,YV,YW,YX,YY,YZ,Ya,Yb,Yc,Yd,Ye,Yf] | simp only [Yg,Yh,true_and,Yi,Yj,Yk,Yl,Ym,Yn,Yo,Yp,Yq,Yr,Yt,Yu,Yv,Yw,Yx,Yy,Yz,XA,XB,XC,XD,XE,beq_self_eq_true,reduceIte,reduceCtorEq,↓reduceIte,XF,XG,XH]))
    refine w_copy (w := w) (by (repeat (first | dsimp only [XI, XJ] | dsimp only [ZA,ZB,ZC,ZD,ZE,ZF,ZG,ZH,ZI,ZJ,ZK,ZL,ZM,ZN,ZO,ZP,ZQ,ZR,ZS,ZT,ZU,ZV,ZW,ZX,ZY,ZZ,Za,Zb,Zc,Zd,Ze,Zf,Zg,Zh,Zi,Zj,Zk,Zl,Zm,Zn,Zo,Zp,Zq,Zr,Zs,Zt,Zu,Zv,Zw,Zx,Zy,Zz,YA,YB,YC,YD,YE,YF,YG,YH,YI,YJ,YK,YL,YM,YN,YO,YP,YQ,YR,Env.set,cond_true,cond_false,String.reduceBEq,YS,YT,YU,YV,YW,YX,YY,YZ,Ya,Yb,Yc,Yd,Ye,Yf] | simp only [Yg,Yh,true_and,Yi,Yj,Yk,Yl,Ym,Yn,Yo,Yp,Yq,Yr,Yt,Yu,Yv,Yw,Yx,Yy,Yz,XA,XB,XC,XD,XE,beq_self_eq_true,reduceIte,reduceCtorEq,↓reduceIte,XF,XG,XH]))) hW8 fun H9 w9 hp9 hw9 => ?_
    (repeat (first | dsimp only [XI, XJ] | dsimp only [ZA,ZB,ZC,ZD,ZE,ZF,ZG,ZH,ZI,ZJ,ZK,ZL,ZM,ZN,ZO,ZP,ZQ,ZR,ZS,ZT,ZU,ZV,ZW,ZX,ZY,ZZ,Za,Zb,Zc,Zd,Ze,Zf,Zg,Zh,Zi,Zj,Zk,Zl,Zm,Zn,Zo,Zp,Zq,Zr,Zs,Zt,Zu,Zv,Zw,Zx,Zy,Zz,YA,YB,YC,YD,YE,YF,YG,YH,YI,YJ,YK,YL,YM,YN,YO,YP,YQ,YR,Env.set,cond_true,cond_false,String.reduceBEq,YS,YT,YU,YV,YW,YX,YY,YZ,Ya,Yb,Yc,Yd,Ye,Yf] | simp only [Yg,Yh,true_and,Yi,Yj,Yk,Yl,Ym,Yn,Yo,Yp,Yq,Yr,Yt,Yu,Yv,Yw,Yx,Yy,Yz,XA,XB,XC,XD,XE,beq_self_eq_true,reduceIte,reduceCtorEq,↓reduceIte,XF,XG,XH]))
    have hp69 := hp68.trans hp9
    have next : ∀ (H10 : Hp) (f : Nat) (u v : V), H9 <+: H10 → H10[f]? = some (.tuple [u, v]) → ((roundsF A).any oddR = true → u = .str (Str.ofString "parties") ∧ ∃ x B, v = .ref x ∧ LN H10 x B ∧ AOk B ∧ B.length = W.length ∧ LawHold W B ∧ (roundsF B).any oddR = true) →
        ((roundsF A).any oddR = false → u = .str (Str.ofString "twos") ∧ ∃ x M, v = .ref x ∧ MT H10 x M ∧ M ∈ calmW W) → ((roundsF A).any oddR = true → calmW W = []) → K none (((((ρ.set "_law_after" (.ref a)).set "_law_wishes" (.ref w)).set "_law_parties" (.ref p)).set "_law_some" (.ref s)).set "_law_found" (.ref f)) H10 := by
      intro H10 f u v hp10 hf hodd hev hnil
      refine hn _ _ ?_
      clear hn hr K
      have hp610 := hp69.trans hp10
      have hW10 := hW6.pre hp610
      have hA10 := hA6.pre hp610
      have hR10 := hR6.pre hp610
      have hS10 := hS.pre (hp9.trans hp10)
      refine wSs_step fun K hn hr => ?_
      (repeat (first | dsimp only [XI, XJ] | dsimp only [ZA,ZB,ZC,ZD,ZE,ZF,ZG,ZH,ZI,ZJ,ZK,ZL,ZM,ZN,ZO,ZP,ZQ,ZR,ZS,ZT,ZU,ZV,ZW,ZX,ZY,ZZ,Za,Zb,Zc,Zd,Ze,Zf,Zg,Zh,Zi,Zj,Zk,Zl,Zm,Zn,Zo,Zp,Zq,Zr,Zs,Zt,Zu,Zv,Zw,Zx,Zy,Zz,YA,YB,YC,YD,YE,YF,YG,YH,YI,YJ,YK,YL,YM,YN,YO,YP,YQ,YR,Env.set,cond_true,cond_false,String.reduceBEq,YS,YT,YU,YV,YW,YX,YY,YZ,Ya,Yb,Yc,Yd,Ye,Yf] | simp only [Yg,Yh,true_and,Yi,Yj,Yk,Yl,Ym,Yn,Yo,Yp,Yq,Yr,Yt,Yu,Yv,Yw,Yx,Yy,Yz,XA,XB,XC,XD,XE,beq_self_eq_true,reduceIte,reduceCtorEq,↓reduceIte,XF,XG,XH, hS10.isList, tup_inst hf, tup_len hf]))
      refine hn _ _ ?_
      clear hn hr K
      refine wSs_step fun K hn hr => ?_
      (repeat (first | dsimp only [XI, XJ] | dsimp only [ZA,ZB,ZC,ZD,ZE,ZF,ZG,ZH,ZI,ZJ,ZK,ZL,ZM,ZN,ZO,ZP,ZQ,ZR,ZS,ZT,ZU,ZV,ZW,ZX,ZY,ZZ,Za,Zb,Zc,Zd,Ze,Zf,Zg,Zh,Zi,Zj,Zk,Zl,Zm,Zn,Zo,Zp,Zq,Zr,Zs,Zt,Zu,Zv,Zw,Zx,Zy,Zz,YA,YB,YC,YD,YE,YF,YG,YH,YI,YJ,YK,YL,YM,YN,YO,YP,YQ,YR,Env.set,cond_true,cond_false,String.reduceBEq,YS,YT,YU,YV,YW,YX,YY,YZ,Ya,Yb,Yc,Yd,Ye,Yf] | simp only [Yg,Yh,true_and,Yi,Yj,Yk,Yl,Ym,Yn,Yo,Yp,Yq,Yr,Yt,Yu,Yv,Yw,Yx,Yy,Yz,XA,XB,XC,XD,XE,beq_self_eq_true,reduceIte,reduceCtorEq,↓reduceIte,XF,XG,XH]))
      refine s_law_odd rfl hR10 fun H11 hp11 => ?_
      have hf11 := pre_get hp11 hf
      have hW11 := hW10.pre hp11
      have hS11 := hS10.pre hp11
      (repeat (first | dsimp only [XI, XJ] | dsimp only [ZA,ZB,ZC,ZD,ZE,ZF,ZG,ZH,ZI,ZJ,ZK,ZL,ZM,ZN,ZO,ZP,ZQ,ZR,ZS,ZT,ZU,ZV,ZW,ZX,ZY,ZZ,Za,Zb,Zc,Zd,Ze,Zf,Zg,Zh,Zi,Zj,Zk,Zl,Zm,Zn,Zo,Zp,Zq,Zr,Zs,Zt,Zu,Zv,Zw,Zx,Zy,Zz,YA,YB,YC,YD,YE,YF,YG,YH,YI,YJ,YK,YL,YM,YN,YO,YP,YQ,YR,Env.set,cond_true,cond_false,String.reduceBEq,YS,YT,YU,YV,YW,YX,YY,YZ,Ya,Yb,Yc,Yd,Ye,Yf] | simp only [Yg,Yh,true_and,Yi,Yj,Yk,Yl,Ym,Yn,Yo,Yp,Yq,Yr,Yt,Yu,Yv,Yw,Yx,Yy,Yz,XA,XB,XC,XD,XE,beq_self_eq_true,reduceIte,reduceCtorEq,↓reduceIte,XF,XG,XH]))
      refine ⟨fun q => ?_, fun q => ?_⟩
      · obtain ⟨rfl, x, B, rfl, hB, bok, hBl, hh, ho⟩ := hodd q
        rw [hnil q] at hS11
        have pn := pre_new H11 (.list [])
        have e : eqD (H11 ++ [.list []]) (.ref s) (.ref H11.length) = some true := by
          rw [(hS11.pre pn).eq (c' := 0) (W' := []) ⟨Nat.zero_le _, [], get_new _ _, .nil⟩]; rfl
        have hf12 := pre_get pn hf11
        have hB12 := (hB.pre hp11).pre pn
        (repeat (first | dsimp only [XI, XJ] | dsimp only [ZA,ZB,ZC,ZD,ZE,ZF,ZG,ZH,ZI,ZJ,ZK,ZL,ZM,ZN,ZO,ZP,ZQ,ZR,ZS,ZT,ZU,ZV,ZW,ZX,ZY,ZZ,Za,Zb,Zc,Zd,Ze,Zf,Zg,Zh,Zi,Zj,Zk,Zl,Zm,Zn,Zo,Zp,Zq,Zr,Zs,Zt,Zu,Zv,Zw,Zx,Zy,Zz,YA,YB,YC,YD,YE,YF,YG,YH,YI,YJ,YK,YL,YM,YN,YO,YP,YQ,YR,Env.set,cond_true,cond_false,String.reduceBEq,YS,YT,YU,YV,YW,YX,YY,YZ,Ya,Yb,Yc,Yd,Ye,Yf] | simp only [Yg,Yh,true_and,Yi,Yj,Yk,Yl,Ym,Yn,Yo,Yp,Yq,Yr,Yt,Yu,Yv,Yw,Yx,Yy,Yz,XA,XB,XC,XD,XE,beq_self_eq_true,reduceIte,reduceCtorEq,↓reduceIte,XF,XG,XH, e, tup_item0 hf12, tup_item1 hf12, (eq_words (H11 ++ [.list []])).2.1, hB12.isList]))
        refine s_holds rfl rfl rfl rfl rfl rfl rfl rfl rfl rfl rfl (hW11.pre pn) wok hB12 bok hBl.symm fun H13 r hp13 hrr => ?_
        have hrt : r = true := hrr.mpr ((hold_iff wok bok hBl.symm).mpr hh)
        subst hrt
        have hf13 := pre_get hp13 hf12
        (repeat (first | dsimp only [XI, XJ] | dsimp only [ZA,ZB,ZC,ZD,ZE,ZF,ZG,ZH,ZI,ZJ,ZK,ZL,ZM,ZN,ZO,ZP,ZQ,ZR,ZS,ZT,ZU,ZV,ZW,ZX,ZY,ZZ,Za,Zb,Zc,Zd,Ze,Zf,Zg,Zh,Zi,Zj,Zk,Zl,Zm,Zn,Zo,Zp,Zq,Zr,Zs,Zt,Zu,Zv,Zw,Zx,Zy,Zz,YA,YB,YC,YD,YE,YF,YG,YH,YI,YJ,YK,YL,YM,YN,YO,YP,YQ,YR,Env.set,cond_true,cond_false,String.reduceBEq,YS,YT,YU,YV,YW,YX,YY,YZ,Ya,Yb,Yc,Yd,Ye,Yf] | simp only [Yg,Yh,true_and,Yi,Yj,Yk,Yl,Ym,Yn,Yo,Yp,Yq,Yr,Yt,Yu,Yv,Yw,Yx,Yy,Yz,XA,XB,XC,XD,XE,beq_self_eq_true,reduceIte,reduceCtorEq,↓reduceIte,XF,XG,XH, isT, decide_true, tup_item1 hf13]))
        refine s_rings rfl rfl rfl rfl rfl (hB12.pre hp13) bok fun H14 rr hp14 _ hRR => ?_
        refine s_law_odd rfl hRR fun H15 hp15 => ?_
        rw [ho]
        (repeat (first | dsimp only [XI, XJ] | dsimp only [ZA,ZB,ZC,ZD,ZE,ZF,ZG,ZH,ZI,ZJ,ZK,ZL,ZM,ZN,ZO,ZP,ZQ,ZR,ZS,ZT,ZU,ZV,ZW,ZX,ZY,ZZ,Za,Zb,Zc,Zd,Ze,Zf,Zg,Zh,Zi,Zj,Zk,Zl,Zm,Zn,Zo,Zp,Zq,Zr,Zs,Zt,Zu,Zv,Zw,Zx,Zy,Zz,YA,YB,YC,YD,YE,YF,YG,YH,YI,YJ,YK,YL,YM,YN,YO,YP,YQ,YR,Env.set,cond_true,cond_false,String.reduceBEq,YS,YT,YU,YV,YW,YX,YY,YZ,Ya,Yb,Yc,Yd,Ye,Yf] | simp only [Yg,Yh,true_and,Yi,Yj,Yk,Yl,Ym,Yn,Yo,Yp,Yq,Yr,Yt,Yu,Yv,Yw,Yx,Yy,Yz,XA,XB,XC,XD,XE,beq_self_eq_true,reduceIte,reduceCtorEq,↓reduceIte,XF,XG,XH]))
        exact hr _ _ _ rfl
      · obtain ⟨rfl, x, M, rfl, hM, hMc⟩ := hev q
        refine hn _ _ ?_
        clear hn hr K
        have hM11 := hM.pre hp11
        refine wSs_step fun K hn hr => ?_
        (repeat (first | dsimp only [XI, XJ] | dsimp only [ZA,ZB,ZC,ZD,ZE,ZF,ZG,ZH,ZI,ZJ,ZK,ZL,ZM,ZN,ZO,ZP,ZQ,ZR,ZS,ZT,ZU,ZV,ZW,ZX,ZY,ZZ,Za,Zb,Zc,Zd,Ze,Zf,Zg,Zh,Zi,Zj,Zk,Zl,Zm,Zn,Zo,Zp,Zq,Zr,Zs,Zt,Zu,Zv,Zw,Zx,Zy,Zz,YA,YB,YC,YD,YE,YF,YG,YH,YI,YJ,YK,YL,YM,YN,YO,YP,YQ,YR,Env.set,cond_true,cond_false,String.reduceBEq,YS,YT,YU,YV,YW,YX,YY,YZ,Ya,Yb,Yc,Yd,Ye,Yf] | simp only [Yg,Yh,true_and,Yi,Yj,Yk,Yl,Ym,Yn,Yo,Yp,Yq,Yr,Yt,Yu,Yv,Yw,Yx,Yy,Yz,XA,XB,XC,XD,XE,beq_self_eq_true,reduceIte,reduceCtorEq,↓reduceIte,XF,XG,XH, tup_item0 hf11, tup_item1 hf11, (eq_words H11).1]))
        refine s_law_calm rfl rfl rfl rfl rfl rfl hW11 wok hM11 hS11 hMc fun H12 hp12 => ?_
        (repeat (first | dsimp only [XI, XJ] | dsimp only [ZA,ZB,ZC,ZD,ZE,ZF,ZG,ZH,ZI,ZJ,ZK,ZL,ZM,ZN,ZO,ZP,ZQ,ZR,ZS,ZT,ZU,ZV,ZW,ZX,ZY,ZZ,Za,Zb,Zc,Zd,Ze,Zf,Zg,Zh,Zi,Zj,Zk,Zl,Zm,Zn,Zo,Zp,Zq,Zr,Zs,Zt,Zu,Zv,Zw,Zx,Zy,Zz,YA,YB,YC,YD,YE,YF,YG,YH,YI,YJ,YK,YL,YM,YN,YO,YP,YQ,YR,Env.set,cond_true,cond_false,String.reduceBEq,YS,YT,YU,YV,YW,YX,YY,YZ,Ya,Yb,Yc,Yd,Ye,Yf] | simp only [Yg,Yh,true_and,Yi,Yj,Yk,Yl,Ym,Yn,Yo,Yp,Yq,Yr,Yt,Yu,Yv,Yw,Yx,Yy,Yz,XA,XB,XC,XD,XE,beq_self_eq_true,reduceIte,reduceCtorEq,↓reduceIte,XF,XG,XH]))
        refine hn _ _ ?_
        clear hn hr K
        have hA12 := (hA10.pre hp11).pre hp12
        have hW12 := hW11.pre hp12
        have hS12 := hS11.pre hp12
        have hM12 := hM11.pre hp12
        have hf12 := pre_get hp12 hf11
        have mM := (calmW_mem hMc).1
        refine wSs_step fun K hn hr => ?_
        refine wS_forS_src fun KS hKS => ?_
        (repeat (first | dsimp only [XI, XJ] | dsimp only [ZA,ZB,ZC,ZD,ZE,ZF,ZG,ZH,ZI,ZJ,ZK,ZL,ZM,ZN,ZO,ZP,ZQ,ZR,ZS,ZT,ZU,ZV,ZW,ZX,ZY,ZZ,Za,Zb,Zc,Zd,Ze,Zf,Zg,Zh,Zi,Zj,Zk,Zl,Zm,Zn,Zo,Zp,Zq,Zr,Zs,Zt,Zu,Zv,Zw,Zx,Zy,Zz,YA,YB,YC,YD,YE,YF,YG,YH,YI,YJ,YK,YL,YM,YN,YO,YP,YQ,YR,Env.set,cond_true,cond_false,String.reduceBEq,YS,YT,YU,YV,YW,YX,YY,YZ,Ya,Yb,Yc,Yd,Ye,Yf] | simp only [Yg,Yh,true_and,Yi,Yj,Yk,Yl,Ym,Yn,Yo,Yp,Yq,Yr,Yt,Yu,Yv,Yw,Yx,Yy,Yz,XA,XB,XC,XD,XE,beq_self_eq_true,reduceIte,reduceCtorEq,↓reduceIte,XF,XG,XH]))
        refine hKS _ [.bool false, .bool true] _ (by unfold seqOf; rw [get_new]) ?_
        clear hKS KS
        have pt := pre_new H12 (.tuple [.bool false, .bool true])
        refine wFor_idx (fun i ρ' H' => H12 ++ [.tuple [.bool false, .bool true]] <+: H' ∧ ρ' "_law_after" = some (.ref a) ∧ ρ' "_law_wishes" = some (.ref w) ∧ ρ' "_law_some" = some (.ref s) ∧ ρ' "_law_found" = some (.ref f) ∧ ρ' "_law_many" = some (.int (m : Int))) ⟨List.prefix_refl _, by (repeat (first | dsimp only [XI, XJ] | dsimp only [ZA,ZB,ZC,ZD,ZE,ZF,ZG,ZH,ZI,ZJ,ZK,ZL,ZM,ZN,ZO,ZP,ZQ,ZR,ZS,ZT,ZU,ZV,ZW,ZX,ZY,ZZ,Za,Zb,Zc,Zd,Ze,Zf,Zg,Zh,Zi,Zj,Zk,Zl,Zm,Zn,Zo,Zp,Zq,Zr,Zs,Zt,Zu,Zv,Zw,Zx,Zy,Zz,YA,YB,YC,YD,YE,YF,YG,YH,YI,YJ,YK,YL,YM,YN,YO,YP,YQ,YR,Env.set,cond_true,cond_false,String.reduceBEq,YS,YT,YU,YV,YW,YX,YY,YZ,Ya,Yb,Yc,Yd,Ye,Yf] | simp only [Yg,Yh,true_and,Yi,Yj,Yk,Yl,Ym,Yn,Yo,Yp,Yq,Yr,Yt,Yu,Yv,Yw,Yx,Yy,Yz,XA,XB,XC,XD,XE,beq_self_eq_true,reduceIte,reduceCtorEq,↓reduceIte,XF,XG,XH])), by (repeat (first | dsimp only [XI, XJ] | dsimp only [ZA,ZB,ZC,ZD,ZE,ZF,ZG,ZH,ZI,ZJ,ZK,ZL,ZM,ZN,ZO,ZP,ZQ,ZR,ZS,ZT,ZU,ZV,ZW,ZX,ZY,ZZ,Za,Zb,Zc,Zd,Ze,Zf,Zg,Zh,Zi,Zj,Zk,Zl,Zm,Zn,Zo,Zp,Zq,Zr,Zs,Zt,Zu,Zv,Zw,Zx,Zy,Zz,YA,YB,YC,YD,YE,YF,YG,YH,YI,YJ,YK,YL,YM,YN,YO,YP,YQ,YR,Env.set,cond_true,cond_false,String.reduceBEq,YS,YT,YU,YV,YW,YX,YY,YZ,Ya,Yb,Yc,Yd,Ye,Yf] | simp only [Yg,Yh,true_and,Yi,Yj,Yk,Yl,Ym,Yn,Yo,Yp,Yq,Yr,Yt,Yu,Yv,Yw,Yx,Yy,Yz,XA,XB,XC,XD,XE,beq_self_eq_true,reduceIte,reduceCtorEq,↓reduceIte,XF,XG,XH])), by (repeat (first | dsimp only [XI, XJ] | dsimp only [ZA,ZB,ZC,ZD,ZE,ZF,ZG,ZH,ZI,ZJ,ZK,ZL,ZM,ZN,ZO,ZP,ZQ,ZR,ZS,ZT,ZU,ZV,ZW,ZX,ZY,ZZ,Za,Zb,Zc,Zd,Ze,Zf,Zg,Zh,Zi,Zj,Zk,Zl,Zm,Zn,Zo,Zp,Zq,Zr,Zs,Zt,Zu,Zv,Zw,Zx,Zy,Zz,YA,YB,YC,YD,YE,YF,YG,YH,YI,YJ,YK,YL,YM,YN,YO,YP,YQ,YR,Env.set,cond_true,cond_false,String.reduceBEq,YS,YT,YU,YV,YW,YX,YY,YZ,Ya,Yb,Yc,Yd,Ye,Yf] | simp only [Yg,Yh,true_and,Yi,Yj,Yk,Yl,Ym,Yn,Yo,Yp,Yq,Yr,Yt,Yu,Yv,Yw,Yx,Yy,Yz,XA,XB,XC,XD,XE,beq_self_eq_true,reduceIte,reduceCtorEq,↓reduceIte,XF,XG,XH])), by (repeat (first | dsimp only [XI, XJ] | dsimp only [ZA,ZB,ZC,ZD,ZE,ZF,ZG,ZH,ZI,ZJ,ZK,ZL,ZM,ZN,ZO,ZP,ZQ,ZR,ZS,ZT,ZU,ZV,ZW,ZX,ZY,ZZ,Za,Zb,Zc,Zd,Ze,Zf,Zg,Zh,Zi,Zj,Zk,Zl,Zm,Zn,Zo,Zp,Zq,Zr,Zs,Zt,Zu,Zv,Zw,Zx,Zy,Zz,YA,YB,YC,YD,YE,YF,YG,YH,YI,YJ,YK,YL,YM,YN,YO,YP,YQ,YR,Env.set,cond_true,cond_false,String.reduceBEq,YS,YT,YU,YV,YW,YX,YY,YZ,Ya,Yb,Yc,Yd,Ye,Yf] | simp only [Yg,Yh,true_and,Yi,Yj,Yk,Yl,Ym,Yn,Yo,Yp,Yq,Yr,Yt,Yu,Yv,Yw,Yx,Yy,Yz,XA,XB,XC,XD,XE,beq_self_eq_true,reduceIte,reduceCtorEq,↓reduceIte,XF,XG,XH])), by (repeat (first | dsimp only [XI, XJ] | dsimp only [ZA,ZB,ZC,ZD,ZE,ZF,ZG,ZH,ZI,ZJ,ZK,ZL,ZM,ZN,ZO,ZP,ZQ,ZR,ZS,ZT,ZU,ZV,ZW,ZX,ZY,ZZ,Za,Zb,Zc,Zd,Ze,Zf,Zg,Zh,Zi,Zj,Zk,Zl,Zm,Zn,Zo,Zp,Zq,Zr,Zs,Zt,Zu,Zv,Zw,Zx,Zy,Zz,YA,YB,YC,YD,YE,YF,YG,YH,YI,YJ,YK,YL,YM,YN,YO,YP,YQ,YR,Env.set,cond_true,cond_false,String.reduceBEq,YS,YT,YU,YV,YW,YX,YY,YZ,Ya,Yb,Yc,Yd,Ye,Yf] | simp only [Yg,Yh,true_and,Yi,Yj,Yk,Yl,Ym,Yn,Yo,Yp,Yq,Yr,Yt,Yu,Yv,Yw,Yx,Yy,Yz,XA,XB,XC,XD,XE,beq_self_eq_true,reduceIte,reduceCtorEq,↓reduceIte,XF,XG,XH, e2]))⟩ (fun i v ρ' H' hv hI => ⟨?_, fun k' h1 h2 => ?_⟩) fun ρ' H' hI => ⟨?_, ?_⟩
        · rw [pre_get hI.1 (get_new _ _), get_new]
        · obtain ⟨hp', t1, t2, t3, t4, t5⟩ := hI
          obtain ⟨ahead, rfl⟩ : ∃ ahead : Bool, v = .bool ahead := by
            have := List.mem_of_getElem? hv
            simp at this
            rcases this with rfl | rfl
            · exact ⟨false, rfl⟩
            · exact ⟨true, rfl⟩
          have hp12' := pt.trans hp'
          have hA' := hA12.pre hp12'
          refine wSs_step fun K1 k1 k2 => ?_
          (repeat (first | dsimp only [XI, XJ] | dsimp only [ZA,ZB,ZC,ZD,ZE,ZF,ZG,ZH,ZI,ZJ,ZK,ZL,ZM,ZN,ZO,ZP,ZQ,ZR,ZS,ZT,ZU,ZV,ZW,ZX,ZY,ZZ,Za,Zb,Zc,Zd,Ze,Zf,Zg,Zh,Zi,Zj,Zk,Zl,Zm,Zn,Zo,Zp,Zq,Zr,Zs,Zt,Zu,Zv,Zw,Zx,Zy,Zz,YA,YB,YC,YD,YE,YF,YG,YH,YI,YJ,YK,YL,YM,YN,YO,YP,YQ,YR,Env.set,cond_true,cond_false,String.reduceBEq,YS,YT,YU,YV,YW,YX,YY,YZ,Ya,Yb,Yc,Yd,Ye,Yf] | simp only [Yg,Yh,true_and,Yi,Yj,Yk,Yl,Ym,Yn,Yo,Yp,Yq,Yr,Yt,Yu,Yv,Yw,Yx,Yy,Yz,XA,XB,XC,XD,XE,beq_self_eq_true,reduceIte,reduceCtorEq,↓reduceIte,XF,XG,XH, t1, seqOf_ln hA']))
          refine s_paired rfl rfl rfl rfl rfl (LN.new H' A) aok ahead (fun _ H14 x14 hp14 _ hX => ?_) (fun z => by rw [z] at q; cases q)
          have hXc := calmW_all wok (paired_calm aok hWl hold q ahead)
          have hp1214 := hp12'.trans ((pre_new _ _).trans hp14)
          refine k1 _ _ (wSs_step fun K2 k3 k4 => ?_)
          clear k1 k2 K1
          (repeat (first | dsimp only [XI, XJ] | dsimp only [ZA,ZB,ZC,ZD,ZE,ZF,ZG,ZH,ZI,ZJ,ZK,ZL,ZM,ZN,ZO,ZP,ZQ,ZR,ZS,ZT,ZU,ZV,ZW,ZX,ZY,ZZ,Za,Zb,Zc,Zd,Ze,Zf,Zg,Zh,Zi,Zj,Zk,Zl,Zm,Zn,Zo,Zp,Zq,Zr,Zs,Zt,Zu,Zv,Zw,Zx,Zy,Zz,YA,YB,YC,YD,YE,YF,YG,YH,YI,YJ,YK,YL,YM,YN,YO,YP,YQ,YR,Env.set,cond_true,cond_false,String.reduceBEq,YS,YT,YU,YV,YW,YX,YY,YZ,Ya,Yb,Yc,Yd,Ye,Yf] | simp only [Yg,Yh,true_and,Yi,Yj,Yk,Yl,Ym,Yn,Yo,Yp,Yq,Yr,Yt,Yu,Yv,Yw,Yx,Yy,Yz,XA,XB,XC,XD,XE,beq_self_eq_true,reduceIte,reduceCtorEq,↓reduceIte,XF,XG,XH, t2, t3]))
          refine s_law_calm rfl rfl rfl rfl rfl rfl (hW12.pre hp1214) wok hX (hS12.pre hp1214) hXc fun H15 hp15 => ?_
          (repeat (first | dsimp only [XI, XJ] | dsimp only [ZA,ZB,ZC,ZD,ZE,ZF,ZG,ZH,ZI,ZJ,ZK,ZL,ZM,ZN,ZO,ZP,ZQ,ZR,ZS,ZT,ZU,ZV,ZW,ZX,ZY,ZZ,Za,Zb,Zc,Zd,Ze,Zf,Zg,Zh,Zi,Zj,Zk,Zl,Zm,Zn,Zo,Zp,Zq,Zr,Zs,Zt,Zu,Zv,Zw,Zx,Zy,Zz,YA,YB,YC,YD,YE,YF,YG,YH,YI,YJ,YK,YL,YM,YN,YO,YP,YQ,YR,Env.set,cond_true,cond_false,String.reduceBEq,YS,YT,YU,YV,YW,YX,YY,YZ,Ya,Yb,Yc,Yd,Ye,Yf] | simp only [Yg,Yh,true_and,Yi,Yj,Yk,Yl,Ym,Yn,Yo,Yp,Yq,Yr,Yt,Yu,Yv,Yw,Yx,Yy,Yz,XA,XB,XC,XD,XE,beq_self_eq_true,reduceIte,reduceCtorEq,↓reduceIte,XF,XG,XH]))
          refine k3 _ _ (wSs_step fun K3 k5 k6 => ?_)
          clear k3 k4 K2
          refine wS_forR_var (m := m) (by (repeat (first | dsimp only [XI, XJ] | dsimp only [ZA,ZB,ZC,ZD,ZE,ZF,ZG,ZH,ZI,ZJ,ZK,ZL,ZM,ZN,ZO,ZP,ZQ,ZR,ZS,ZT,ZU,ZV,ZW,ZX,ZY,ZZ,Za,Zb,Zc,Zd,Ze,Zf,Zg,Zh,Zi,Zj,Zk,Zl,Zm,Zn,Zo,Zp,Zq,Zr,Zs,Zt,Zu,Zv,Zw,Zx,Zy,Zz,YA,YB,YC,YD,YE,YF,YG,YH,YI,YJ,YK,YL,YM,YN,YO,YP,YQ,YR,Env.set,cond_true,cond_false,String.reduceBEq,YS,YT,YU,YV,YW,YX,YY,YZ,Ya,Yb,Yc,Yd,Ye,Yf] | simp only [Yg,Yh,true_and,Yi,Yj,Yk,Yl,Ym,Yn,Yo,Yp,Yq,Yr,Yt,Yu,Yv,Yw,Yx,Yy,Yz,XA,XB,XC,XD,XE,beq_self_eq_true,reduceIte,reduceCtorEq,↓reduceIte,XF,XG,XH, t5]))) hml ?_
          have hX15 := hX.pre hp15
          have hM15 := hM12.pre (hp1214.trans hp15)
          have hf15 := pre_get (hp1214.trans hp15) hf12
          have mX := (calmW_mem hXc).1
          refine wFor_idx (fun i ρ' H' => H' = H15 ∧ ρ' "_law_after" = some (.ref a) ∧ ρ' "_law_wishes" = some (.ref w) ∧ ρ' "_law_some" = some (.ref s) ∧ ρ' "_law_found" = some (.ref f) ∧ ρ' "_law_many" = some (.int (m : Int)) ∧ ρ' "_law_mates_here" = some (.ref x14)) ⟨rfl, by (repeat (first | dsimp only [XI, XJ] | dsimp only [ZA,ZB,ZC,ZD,ZE,ZF,ZG,ZH,ZI,ZJ,ZK,ZL,ZM,ZN,ZO,ZP,ZQ,ZR,ZS,ZT,ZU,ZV,ZW,ZX,ZY,ZZ,Za,Zb,Zc,Zd,Ze,Zf,Zg,Zh,Zi,Zj,Zk,Zl,Zm,Zn,Zo,Zp,Zq,Zr,Zs,Zt,Zu,Zv,Zw,Zx,Zy,Zz,YA,YB,YC,YD,YE,YF,YG,YH,YI,YJ,YK,YL,YM,YN,YO,YP,YQ,YR,Env.set,cond_true,cond_false,String.reduceBEq,YS,YT,YU,YV,YW,YX,YY,YZ,Ya,Yb,Yc,Yd,Ye,Yf] | simp only [Yg,Yh,true_and,Yi,Yj,Yk,Yl,Ym,Yn,Yo,Yp,Yq,Yr,Yt,Yu,Yv,Yw,Yx,Yy,Yz,XA,XB,XC,XD,XE,beq_self_eq_true,reduceIte,reduceCtorEq,↓reduceIte,XF,XG,XH, t1])), by (repeat (first | dsimp only [XI, XJ] | dsimp only [ZA,ZB,ZC,ZD,ZE,ZF,ZG,ZH,ZI,ZJ,ZK,ZL,ZM,ZN,ZO,ZP,ZQ,ZR,ZS,ZT,ZU,ZV,ZW,ZX,ZY,ZZ,Za,Zb,Zc,Zd,Ze,Zf,Zg,Zh,Zi,Zj,Zk,Zl,Zm,Zn,Zo,Zp,Zq,Zr,Zs,Zt,Zu,Zv,Zw,Zx,Zy,Zz,YA,YB,YC,YD,YE,YF,YG,YH,YI,YJ,YK,YL,YM,YN,YO,YP,YQ,YR,Env.set,cond_true,cond_false,String.reduceBEq,YS,YT,YU,YV,YW,YX,YY,YZ,Ya,Yb,Yc,Yd,Ye,Yf] | simp only [Yg,Yh,true_and,Yi,Yj,Yk,Yl,Ym,Yn,Yo,Yp,Yq,Yr,Yt,Yu,Yv,Yw,Yx,Yy,Yz,XA,XB,XC,XD,XE,beq_self_eq_true,reduceIte,reduceCtorEq,↓reduceIte,XF,XG,XH, t2])), by (repeat (first | dsimp only [XI, XJ] | dsimp only [ZA,ZB,ZC,ZD,ZE,ZF,ZG,ZH,ZI,ZJ,ZK,ZL,ZM,ZN,ZO,ZP,ZQ,ZR,ZS,ZT,ZU,ZV,ZW,ZX,ZY,ZZ,Za,Zb,Zc,Zd,Ze,Zf,Zg,Zh,Zi,Zj,Zk,Zl,Zm,Zn,Zo,Zp,Zq,Zr,Zs,Zt,Zu,Zv,Zw,Zx,Zy,Zz,YA,YB,YC,YD,YE,YF,YG,YH,YI,YJ,YK,YL,YM,YN,YO,YP,YQ,YR,Env.set,cond_true,cond_false,String.reduceBEq,YS,YT,YU,YV,YW,YX,YY,YZ,Ya,Yb,Yc,Yd,Ye,Yf] | simp only [Yg,Yh,true_and,Yi,Yj,Yk,Yl,Ym,Yn,Yo,Yp,Yq,Yr,Yt,Yu,Yv,Yw,Yx,Yy,Yz,XA,XB,XC,XD,XE,beq_self_eq_true,reduceIte,reduceCtorEq,↓reduceIte,XF,XG,XH, t3])), by (repeat (first | dsimp only [XI, XJ] | dsimp only [ZA,ZB,ZC,ZD,ZE,ZF,ZG,ZH,ZI,ZJ,ZK,ZL,ZM,ZN,ZO,ZP,ZQ,ZR,ZS,ZT,ZU,ZV,ZW,ZX,ZY,ZZ,Za,Zb,Zc,Zd,Ze,Zf,Zg,Zh,Zi,Zj,Zk,Zl,Zm,Zn,Zo,Zp,Zq,Zr,Zs,Zt,Zu,Zv,Zw,Zx,Zy,Zz,YA,YB,YC,YD,YE,YF,YG,YH,YI,YJ,YK,YL,YM,YN,YO,YP,YQ,YR,Env.set,cond_true,cond_false,String.reduceBEq,YS,YT,YU,YV,YW,YX,YY,YZ,Ya,Yb,Yc,Yd,Ye,Yf] | simp only [Yg,Yh,true_and,Yi,Yj,Yk,Yl,Ym,Yn,Yo,Yp,Yq,Yr,Yt,Yu,Yv,Yw,Yx,Yy,Yz,XA,XB,XC,XD,XE,beq_self_eq_true,reduceIte,reduceCtorEq,↓reduceIte,XF,XG,XH, t4])), by (repeat (first | dsimp only [XI, XJ] | dsimp only [ZA,ZB,ZC,ZD,ZE,ZF,ZG,ZH,ZI,ZJ,ZK,ZL,ZM,ZN,ZO,ZP,ZQ,ZR,ZS,ZT,ZU,ZV,ZW,ZX,ZY,ZZ,Za,Zb,Zc,Zd,Ze,Zf,Zg,Zh,Zi,Zj,Zk,Zl,Zm,Zn,Zo,Zp,Zq,Zr,Zs,Zt,Zu,Zv,Zw,Zx,Zy,Zz,YA,YB,YC,YD,YE,YF,YG,YH,YI,YJ,YK,YL,YM,YN,YO,YP,YQ,YR,Env.set,cond_true,cond_false,String.reduceBEq,YS,YT,YU,YV,YW,YX,YY,YZ,Ya,Yb,Yc,Yd,Ye,Yf] | simp only [Yg,Yh,true_and,Yi,Yj,Yk,Yl,Ym,Yn,Yo,Yp,Yq,Yr,Yt,Yu,Yv,Yw,Yx,Yy,Yz,XA,XB,XC,XD,XE,beq_self_eq_true,reduceIte,reduceCtorEq,↓reduceIte,XF,XG,XH, t5])), by (repeat (first | dsimp only [XI, XJ] | dsimp only [ZA,ZB,ZC,ZD,ZE,ZF,ZG,ZH,ZI,ZJ,ZK,ZL,ZM,ZN,ZO,ZP,ZQ,ZR,ZS,ZT,ZU,ZV,ZW,ZX,ZY,ZZ,Za,Zb,Zc,Zd,Ze,Zf,Zg,Zh,Zi,Zj,Zk,Zl,Zm,Zn,Zo,Zp,Zq,Zr,Zs,Zt,Zu,Zv,Zw,Zx,Zy,Zz,YA,YB,YC,YD,YE,YF,YG,YH,YI,YJ,YK,YL,YM,YN,YO,YP,YQ,YR,Env.set,cond_true,cond_false,String.reduceBEq,YS,YT,YU,YV,YW,YX,YY,YZ,Ya,Yb,Yc,Yd,Ye,Yf] | simp only [Yg,Yh,true_and,Yi,Yj,Yk,Yl,Ym,Yn,Yo,Yp,Yq,Yr,Yt,Yu,Yv,Yw,Yx,Yy,Yz,XA,XB,XC,XD,XE,beq_self_eq_true,reduceIte,reduceCtorEq,↓reduceIte,XF,XG,XH]))⟩ (fun g v ρ'' H'' hv hI => ⟨trivial, fun k'' h1' h2' => ?_⟩) fun ρ'' H'' hI => ⟨trivial, ?_⟩
          · obtain ⟨hg, rfl⟩ := rng_get hv
            obtain ⟨rfl, u1, u2, u3, u4, u5, u6⟩ := hI
            have hgW : g < W.length := by omega
            (repeat (first | dsimp only [XI, XJ] | dsimp only [ZA,ZB,ZC,ZD,ZE,ZF,ZG,ZH,ZI,ZJ,ZK,ZL,ZM,ZN,ZO,ZP,ZQ,ZR,ZS,ZT,ZU,ZV,ZW,ZX,ZY,ZZ,Za,Zb,Zc,Zd,Ze,Zf,Zg,Zh,Zi,Zj,Zk,Zl,Zm,Zn,Zo,Zp,Zq,Zr,Zs,Zt,Zu,Zv,Zw,Zx,Zy,Zz,YA,YB,YC,YD,YE,YF,YG,YH,YI,YJ,YK,YL,YM,YN,YO,YP,YQ,YR,Env.set,cond_true,cond_false,String.reduceBEq,YS,YT,YU,YV,YW,YX,YY,YZ,Ya,Yb,Yc,Yd,Ye,Yf] | simp only [Yg,Yh,true_and,Yi,Yj,Yk,Yl,Ym,Yn,Yo,Yp,Yq,Yr,Yt,Yu,Yv,Yw,Yx,Yy,Yz,XA,XB,XC,XD,XE,beq_self_eq_true,reduceIte,reduceCtorEq,↓reduceIte,XF,XG,XH, u4, u6, hX15.item (show g < (pairedF A ahead).length by rw [mX.len]; exact hgW), tup_item1 hf15, hM15.item (show g < M.length by rw [mM.len]; exact hgW), is_ov, alone_same wok hXc hMc hgW]))
            exact h1' _ _ ⟨rfl, by (repeat (first | dsimp only [XI, XJ] | dsimp only [ZA,ZB,ZC,ZD,ZE,ZF,ZG,ZH,ZI,ZJ,ZK,ZL,ZM,ZN,ZO,ZP,ZQ,ZR,ZS,ZT,ZU,ZV,ZW,ZX,ZY,ZZ,Za,Zb,Zc,Zd,Ze,Zf,Zg,Zh,Zi,Zj,Zk,Zl,Zm,Zn,Zo,Zp,Zq,Zr,Zs,Zt,Zu,Zv,Zw,Zx,Zy,Zz,YA,YB,YC,YD,YE,YF,YG,YH,YI,YJ,YK,YL,YM,YN,YO,YP,YQ,YR,Env.set,cond_true,cond_false,String.reduceBEq,YS,YT,YU,YV,YW,YX,YY,YZ,Ya,Yb,Yc,Yd,Ye,Yf] | simp only [Yg,Yh,true_and,Yi,Yj,Yk,Yl,Ym,Yn,Yo,Yp,Yq,Yr,Yt,Yu,Yv,Yw,Yx,Yy,Yz,XA,XB,XC,XD,XE,beq_self_eq_true,reduceIte,reduceCtorEq,↓reduceIte,XF,XG,XH, u1])), by (repeat (first | dsimp only [XI, XJ] | dsimp only [ZA,ZB,ZC,ZD,ZE,ZF,ZG,ZH,ZI,ZJ,ZK,ZL,ZM,ZN,ZO,ZP,ZQ,ZR,ZS,ZT,ZU,ZV,ZW,ZX,ZY,ZZ,Za,Zb,Zc,Zd,Ze,Zf,Zg,Zh,Zi,Zj,Zk,Zl,Zm,Zn,Zo,Zp,Zq,Zr,Zs,Zt,Zu,Zv,Zw,Zx,Zy,Zz,YA,YB,YC,YD,YE,YF,YG,YH,YI,YJ,YK,YL,YM,YN,YO,YP,YQ,YR,Env.set,cond_true,cond_false,String.reduceBEq,YS,YT,YU,YV,YW,YX,YY,YZ,Ya,Yb,Yc,Yd,Ye,Yf] | simp only [Yg,Yh,true_and,Yi,Yj,Yk,Yl,Ym,Yn,Yo,Yp,Yq,Yr,Yt,Yu,Yv,Yw,Yx,Yy,Yz,XA,XB,XC,XD,XE,beq_self_eq_true,reduceIte,reduceCtorEq,↓reduceIte,XF,XG,XH, u2])), by (repeat (first | dsimp only [XI, XJ] | dsimp only [ZA,ZB,ZC,ZD,ZE,ZF,ZG,ZH,ZI,ZJ,ZK,ZL,ZM,ZN,ZO,ZP,ZQ,ZR,ZS,ZT,ZU,ZV,ZW,ZX,ZY,ZZ,Za,Zb,Zc,Zd,Ze,Zf,Zg,Zh,Zi,Zj,Zk,Zl,Zm,Zn,Zo,Zp,Zq,Zr,Zs,Zt,Zu,Zv,Zw,Zx,Zy,Zz,YA,YB,YC,YD,YE,YF,YG,YH,YI,YJ,YK,YL,YM,YN,YO,YP,YQ,YR,Env.set,cond_true,cond_false,String.reduceBEq,YS,YT,YU,YV,YW,YX,YY,YZ,Ya,Yb,Yc,Yd,Ye,Yf] | simp only [Yg,Yh,true_and,Yi,Yj,Yk,Yl,Ym,Yn,Yo,Yp,Yq,Yr,Yt,Yu,Yv,Yw,Yx,Yy,Yz,XA,XB,XC,XD,XE,beq_self_eq_true,reduceIte,reduceCtorEq,↓reduceIte,XF,XG,XH, u3])), by (repeat (first | dsimp only [XI, XJ] | dsimp only [ZA,ZB,ZC,ZD,ZE,ZF,ZG,ZH,ZI,ZJ,ZK,ZL,ZM,ZN,ZO,ZP,ZQ,ZR,ZS,ZT,ZU,ZV,ZW,ZX,ZY,ZZ,Za,Zb,Zc,Zd,Ze,Zf,Zg,Zh,Zi,Zj,Zk,Zl,Zm,Zn,Zo,Zp,Zq,Zr,Zs,Zt,Zu,Zv,Zw,Zx,Zy,Zz,YA,YB,YC,YD,YE,YF,YG,YH,YI,YJ,YK,YL,YM,YN,YO,YP,YQ,YR,Env.set,cond_true,cond_false,String.reduceBEq,YS,YT,YU,YV,YW,YX,YY,YZ,Ya,Yb,Yc,Yd,Ye,Yf] | simp only [Yg,Yh,true_and,Yi,Yj,Yk,Yl,Ym,Yn,Yo,Yp,Yq,Yr,Yt,Yu,Yv,Yw,Yx,Yy,Yz,XA,XB,XC,XD,XE,beq_self_eq_true,reduceIte,reduceCtorEq,↓reduceIte,XF,XG,XH, u4])), by (repeat (first | dsimp only [XI, XJ] | dsimp only [ZA,ZB,ZC,ZD,ZE,ZF,ZG,ZH,ZI,ZJ,ZK,ZL,ZM,ZN,ZO,ZP,ZQ,ZR,ZS,ZT,ZU,ZV,ZW,ZX,ZY,ZZ,Za,Zb,Zc,Zd,Ze,Zf,Zg,Zh,Zi,Zj,Zk,Zl,Zm,Zn,Zo,Zp,Zq,Zr,Zs,Zt,Zu,Zv,Zw,Zx,Zy,Zz,YA,YB,YC,YD,YE,YF,YG,YH,YI,YJ,YK,YL,YM,YN,YO,YP,YQ,YR,Env.set,cond_true,cond_false,String.reduceBEq,YS,YT,YU,YV,YW,YX,YY,YZ,Ya,Yb,Yc,Yd,Ye,Yf] | simp only [Yg,Yh,true_and,Yi,Yj,Yk,Yl,Ym,Yn,Yo,Yp,Yq,Yr,Yt,Yu,Yv,Yw,Yx,Yy,Yz,XA,XB,XC,XD,XE,beq_self_eq_true,reduceIte,reduceCtorEq,↓reduceIte,XF,XG,XH, u5])), by (repeat (first | dsimp only [XI, XJ] | dsimp only [ZA,ZB,ZC,ZD,ZE,ZF,ZG,ZH,ZI,ZJ,ZK,ZL,ZM,ZN,ZO,ZP,ZQ,ZR,ZS,ZT,ZU,ZV,ZW,ZX,ZY,ZZ,Za,Zb,Zc,Zd,Ze,Zf,Zg,Zh,Zi,Zj,Zk,Zl,Zm,Zn,Zo,Zp,Zq,Zr,Zs,Zt,Zu,Zv,Zw,Zx,Zy,Zz,YA,YB,YC,YD,YE,YF,YG,YH,YI,YJ,YK,YL,YM,YN,YO,YP,YQ,YR,Env.set,cond_true,cond_false,String.reduceBEq,YS,YT,YU,YV,YW,YX,YY,YZ,Ya,Yb,Yc,Yd,Ye,Yf] | simp only [Yg,Yh,true_and,Yi,Yj,Yk,Yl,Ym,Yn,Yo,Yp,Yq,Yr,Yt,Yu,Yv,Yw,Yx,Yy,Yz,XA,XB,XC,XD,XE,beq_self_eq_true,reduceIte,reduceCtorEq,↓reduceIte,XF,XG,XH, u6]))⟩
          · obtain ⟨rfl, u1, u2, u3, u4, u5, u6⟩ := hI
            exact k5 _ _ (wSs_nil (h1 _ _ ⟨hp'.trans ((pre_new _ _).trans (hp14.trans hp15)), u1, u2, u3, u4, u5⟩))
        · rw [pre_get hI.1 (get_new _ _), get_new]
        · refine hn _ _ ?_
          (repeat (first | dsimp only [XI, XJ] | dsimp only [ZA,ZB,ZC,ZD,ZE,ZF,ZG,ZH,ZI,ZJ,ZK,ZL,ZM,ZN,ZO,ZP,ZQ,ZR,ZS,ZT,ZU,ZV,ZW,ZX,ZY,ZZ,Za,Zb,Zc,Zd,Ze,Zf,Zg,Zh,Zi,Zj,Zk,Zl,Zm,Zn,Zo,Zp,Zq,Zr,Zs,Zt,Zu,Zv,Zw,Zx,Zy,Zz,YA,YB,YC,YD,YE,YF,YG,YH,YI,YJ,YK,YL,YM,YN,YO,YP,YQ,YR,Env.set,cond_true,cond_false,String.reduceBEq,YS,YT,YU,YV,YW,YX,YY,YZ,Ya,Yb,Yc,Yd,Ye,Yf] | simp only [Yg,Yh,true_and,Yi,Yj,Yk,Yl,Ym,Yn,Yo,Yp,Yq,Yr,Yt,Yu,Yv,Yw,Yx,Yy,Yz,XA,XB,XC,XD,XE,beq_self_eq_true,reduceIte,reduceCtorEq,↓reduceIte,XF,XG,XH]))
    refine s_dealt rfl rfl rfl rfl rfl rfl rfl rfl rfl rfl rfl rfl rfl rfl rfl rfl hw9 wok (fun H10 f x M hp10 _ hM0 hf hM _ => ?_) (fun H10 f x B hp10 _ hnil hf hB bok hBl hh ho => ?_)
    · have hMc := List.mem_of_getElem? hM0
      refine next H10 f _ _ hp10 hf (fun z => ?_) (fun _ => ⟨rfl, x, M, rfl, hM, hMc⟩) (fun z => odd_no_calm wok aok hWl hold z)
      rw [odd_no_calm wok aok hWl hold z] at hMc; cases hMc
    · refine next H10 f _ _ hp10 hf (fun _ => ⟨rfl, x, B, rfl, hB, bok, hBl, hh, ho⟩) (fun z => ?_) (fun _ => hnil)
      have := calmW_all wok (paired_calm aok hWl hold z false)
      rw [hnil] at this; cases this
  (repeat (first | dsimp only [XI, XJ] | dsimp only [ZA,ZB,ZC,ZD,ZE,ZF,ZG,ZH,ZI,ZJ,ZK,ZL,ZM,ZN,ZO,ZP,ZQ,ZR,ZS,ZT,ZU,ZV,ZW,ZX,ZY,ZZ,Za,Zb,Zc,Zd,Ze,Zf,Zg,Zh,Zi,Zj,Zk,Zl,Zm,Zn,Zo,Zp,Zq,Zr,Zs,Zt,Zu,Zv,Zw,Zx,Zy,Zz,YA,YB,YC,YD,YE,YF,YG,YH,YI,YJ,YK,YL,YM,YN,YO,YP,YQ,YR,Env.set,cond_true,cond_false,String.reduceBEq,YS,YT,YU,YV,YW,YX,YY,YZ,Ya,Yb,Yc,Yd,Ye,Yf] | simp only [Yg,Yh,true_and,Yi,Yj,Yk,Yl,Ym,Yn,Yo,Yp,Yq,Yr,Yt,Yu,Yv,Yw,Yx,Yy,Yz,XA,XB,XC,XD,XE,beq_self_eq_true,reduceIte,reduceCtorEq,↓reduceIte,XF,XG,XH]))
  refine ⟨fun q => ?_, fun q => rest _ (m + 1) (by omega) (by omega) (by (repeat (first | dsimp only [XI, XJ] | dsimp only [ZA,ZB,ZC,ZD,ZE,ZF,ZG,ZH,ZI,ZJ,ZK,ZL,ZM,ZN,ZO,ZP,ZQ,ZR,ZS,ZT,ZU,ZV,ZW,ZX,ZY,ZZ,Za,Zb,Zc,Zd,Ze,Zf,Zg,Zh,Zi,Zj,Zk,Zl,Zm,Zn,Zo,Zp,Zq,Zr,Zs,Zt,Zu,Zv,Zw,Zx,Zy,Zz,YA,YB,YC,YD,YE,YF,YG,YH,YI,YJ,YK,YL,YM,YN,YO,YP,YQ,YR,Env.set,cond_true,cond_false,String.reduceBEq,YS,YT,YU,YV,YW,YX,YY,YZ,Ya,Yb,Yc,Yd,Ye,Yf] | simp only [Yg,Yh,true_and,Yi,Yj,Yk,Yl,Ym,Yn,Yo,Yp,Yq,Yr,Yt,Yu,Yv,Yw,Yx,Yy,Yz,XA,XB,XC,XD,XE,beq_self_eq_true,reduceIte,reduceCtorEq,↓reduceIte,XF,XG,XH]))) (by (repeat (first | dsimp only [XI, XJ] | dsimp only [ZA,ZB,ZC,ZD,ZE,ZF,ZG,ZH,ZI,ZJ,ZK,ZL,ZM,ZN,ZO,ZP,ZQ,ZR,ZS,ZT,ZU,ZV,ZW,ZX,ZY,ZZ,Za,Zb,Zc,Zd,Ze,Zf,Zg,Zh,Zi,Zj,Zk,Zl,Zm,Zn,Zo,Zp,Zq,Zr,Zs,Zt,Zu,Zv,Zw,Zx,Zy,Zz,YA,YB,YC,YD,YE,YF,YG,YH,YI,YJ,YK,YL,YM,YN,YO,YP,YQ,YR,Env.set,cond_true,cond_false,String.reduceBEq,YS,YT,YU,YV,YW,YX,YY,YZ,Ya,Yb,Yc,Yd,Ye,Yf] | simp only [Yg,Yh,true_and,Yi,Yj,Yk,Yl,Ym,Yn,Yo,Yp,Yq,Yr,Yt,Yu,Yv,Yw,Yx,Yy,Yz,XA,XB,XC,XD,XE,beq_self_eq_true,reduceIte,reduceCtorEq,↓reduceIte,XF,XG,XH])))⟩
  refine s_cell_at (k := 0) rfl (hq p0) ?_
  (repeat (first | dsimp only [XI, XJ] | dsimp only [ZA,ZB,ZC,ZD,ZE,ZF,ZG,ZH,ZI,ZJ,ZK,ZL,ZM,ZN,ZO,ZP,ZQ,ZR,ZS,ZT,ZU,ZV,ZW,ZX,ZY,ZZ,Za,Zb,Zc,Zd,Ze,Zf,Zg,Zh,Zi,Zj,Zk,Zl,Zm,Zn,Zo,Zp,Zq,Zr,Zs,Zt,Zu,Zv,Zw,Zx,Zy,Zz,YA,YB,YC,YD,YE,YF,YG,YH,YI,YJ,YK,YL,YM,YN,YO,YP,YQ,YR,Env.set,cond_true,cond_false,String.reduceBEq,YS,YT,YU,YV,YW,YX,YY,YZ,Ya,Yb,Yc,Yd,Ye,Yf] | simp only [Yg,Yh,true_and,Yi,Yj,Yk,Yl,Ym,Yn,Yo,Yp,Yq,Yr,Yt,Yu,Yv,Yw,Yx,Yy,Yz,XA,XB,XC,XD,XE,beq_self_eq_true,reduceIte,reduceCtorEq,↓reduceIte,XF,XG,XH, z6', z3]))
  exact ⟨fun _ => rest _ 4 (by omega) (by omega) (by (repeat (first | dsimp only [XI, XJ] | dsimp only [ZA,ZB,ZC,ZD,ZE,ZF,ZG,ZH,ZI,ZJ,ZK,ZL,ZM,ZN,ZO,ZP,ZQ,ZR,ZS,ZT,ZU,ZV,ZW,ZX,ZY,ZZ,Za,Zb,Zc,Zd,Ze,Zf,Zg,Zh,Zi,Zj,Zk,Zl,Zm,Zn,Zo,Zp,Zq,Zr,Zs,Zt,Zu,Zv,Zw,Zx,Zy,Zz,YA,YB,YC,YD,YE,YF,YG,YH,YI,YJ,YK,YL,YM,YN,YO,YP,YQ,YR,Env.set,cond_true,cond_false,String.reduceBEq,YS,YT,YU,YV,YW,YX,YY,YZ,Ya,Yb,Yc,Yd,Ye,Yf] | simp only [Yg,Yh,true_and,Yi,Yj,Yk,Yl,Ym,Yn,Yo,Yp,Yq,Yr,Yt,Yu,Yv,Yw,Yx,Yy,Yz,XA,XB,XC,XD,XE,beq_self_eq_true,reduceIte,reduceCtorEq,↓reduceIte,XF,XG,XH]))) (by (repeat (first | dsimp only [XI, XJ] | dsimp only [ZA,ZB,ZC,ZD,ZE,ZF,ZG,ZH,ZI,ZJ,ZK,ZL,ZM,ZN,ZO,ZP,ZQ,ZR,ZS,ZT,ZU,ZV,ZW,ZX,ZY,ZZ,Za,Zb,Zc,Zd,Ze,Zf,Zg,Zh,Zi,Zj,Zk,Zl,Zm,Zn,Zo,Zp,Zq,Zr,Zs,Zt,Zu,Zv,Zw,Zx,Zy,Zz,YA,YB,YC,YD,YE,YF,YG,YH,YI,YJ,YK,YL,YM,YN,YO,YP,YQ,YR,Env.set,cond_true,cond_false,String.reduceBEq,YS,YT,YU,YV,YW,YX,YY,YZ,Ya,Yb,Yc,Yd,Ye,Yf] | simp only [Yg,Yh,true_and,Yi,Yj,Yk,Yl,Ym,Yn,Yo,Yp,Yq,Yr,Yt,Yu,Yv,Yw,Yx,Yy,Yz,XA,XB,XC,XD,XE,beq_self_eq_true,reduceIte,reduceCtorEq,↓reduceIte,XF,XG,XH])); rfl), fun _ => rest _ (m + 1) (by omega) (by omega) (by (repeat (first | dsimp only [XI, XJ] | dsimp only [ZA,ZB,ZC,ZD,ZE,ZF,ZG,ZH,ZI,ZJ,ZK,ZL,ZM,ZN,ZO,ZP,ZQ,ZR,ZS,ZT,ZU,ZV,ZW,ZX,ZY,ZZ,Za,Zb,Zc,Zd,Ze,Zf,Zg,Zh,Zi,Zj,Zk,Zl,Zm,Zn,Zo,Zp,Zq,Zr,Zs,Zt,Zu,Zv,Zw,Zx,Zy,Zz,YA,YB,YC,YD,YE,YF,YG,YH,YI,YJ,YK,YL,YM,YN,YO,YP,YQ,YR,Env.set,cond_true,cond_false,String.reduceBEq,YS,YT,YU,YV,YW,YX,YY,YZ,Ya,Yb,Yc,Yd,Ye,Yf] | simp only [Yg,Yh,true_and,Yi,Yj,Yk,Yl,Ym,Yn,Yo,Yp,Yq,Yr,Yt,Yu,Yv,Yw,Yx,Yy,Yz,XA,XB,XC,XD,XE,beq_self_eq_true,reduceIte,reduceCtorEq,↓reduceIte,XF,XG,XH]))) (by (repeat (first | dsimp only [XI, XJ] | dsimp only [ZA,ZB,ZC,ZD,ZE,ZF,ZG,ZH,ZI,ZJ,ZK,ZL,ZM,ZN,ZO,ZP,ZQ,ZR,ZS,ZT,ZU,ZV,ZW,ZX,ZY,ZZ,Za,Zb,Zc,Zd,Ze,Zf,Zg,Zh,Zi,Zj,Zk,Zl,Zm,Zn,Zo,Zp,Zq,Zr,Zs,Zt,Zu,Zv,Zw,Zx,Zy,Zz,YA,YB,YC,YD,YE,YF,YG,YH,YI,YJ,YK,YL,YM,YN,YO,YP,YQ,YR,Env.set,cond_true,cond_false,String.reduceBEq,YS,YT,YU,YV,YW,YX,YY,YZ,Ya,Yb,Yc,Yd,Ye,Yf] | simp only [Yg,Yh,true_and,Yi,Yj,Yk,Yl,Ym,Yn,Yo,Yp,Yq,Yr,Yt,Yu,Yv,Yw,Yx,Yy,Yz,XA,XB,XC,XD,XE,beq_self_eq_true,reduceIte,reduceCtorEq,↓reduceIte,XF,XG,XH])))⟩
end Mine

open PySem PySem.W PyProof.Rows
namespace Mine
noncomputable def fs08 : Tab := ⟨["is_guest", "is_row", "need_wishes", "both_wish", "sooner", "need_parties", "rounds", "rings", "ring_holds", "all_hold", "holds", "paired", "found_restless", "settled", "all_twos", "all_calm", "orders", "has_odd", "dealt", "_law_cell_at", "_law_row_by", "_law_wishes_by", "_law_whole", "_law_suits", "_law_rather", "_law_restless", "_law_mates", "_law_rings", "_law_afters", "_law_made", "_law_odd", "_law_calm", "law"], ["BadWishes", "BadParties"]⟩
end Mine

set_option maxRecDepth 100000 in
set_option maxHeartbeats 8000000 in
theorem PySem.Challenge.cw_uf030033_08_holds : PySem.Challenge.rw_uf030033_08.Holds := by
  w_on
  refine holds_law (by decide +kernel) fun said => ?_
  o_head Hook.none
  case hw => w_witness2
  intro w s₀ s₁ mg mb G Y fa o pm cd doc dV kV ho hd hcd hD hmg hg args vals as hpre hlay hrd hwl hlo
  refine Ground.open G ?_
  intro T B D TE TW
  clear hd hcd hD
  wrow_args hpre hlay hrd hwl hlo
  refine wpAny_mono (Mine.law_call (fs := Mine.fs08) (P := Mine.prog08) T hmg (by assumption) (by assumption) (by omega) (by decide +kernel) (by decide +kernel) (fun x v h => ?_) (by decide) (fun c hc => ?_) fun is _ => Mine.main08 is) (fun v s' q => ?_) fun _ _ e => e
  · unfold Mine.prog08 at h
    dsimp only at h
    split at h
    · cases h; exact Mine.glob_int T (by kernel_rfl)
    · cases h
  · simp only [Mine.fs08, List.mem_cons, List.not_mem_nil, or_false] at hc
    rcases hc with rfl | rfl
    · kernel_rfl
    · kernel_rfl
  · obtain ⟨rfl, k1, k2, k3⟩ := q
    refine GoodW.toG ⟨.inl ⟨.bool true, .bool true, [], rfl, raisesW_false ?_, .bool true, ?_, unshared_nil⟩, k1, k2, k3.trans hg⟩
    · wrow_none_raised
    · wrow_post


