import PyProof.Rows.All
import PyProof.P3Statements
import PyProof.StrCalls2
import PyProof.Cells
import PyProof.Ns1
import PyProof.DictStraight
import PyProof.Rules3
import PyProof.ListOps
import PyProof.SliceList
import PyProof.SliceMore
import PyProof.PureInt
import PyProof.NoPylong
import PyProof.Rows.RuleB_floordiv
import PyProof.Rows.RuleB_mod
import PyProof.Rows.ListMul
import PyProof.IsiPairs
import PyProof.IsiHeapPairs
import PyProof.IsiNone
import PyProof.Methods
import PyProof.LetGo
import PyProof.ListIndexNeg
import PyProof.Rows.Tup
import PyProof.Rows.TupSub
import PyProof.Rows.StrRules
import PyProof.EqLayable
import PyProof.P3In
import PyProof.Rows.InDataRows
import PyProof.ListCopy
import PyProof.TupleOfSeq
import PyProof.TupleCall
import PyProof.WalkInts
import PyProof.CompFree
import PyProof.CallRoads
import PyProof.CallType
import PyProof.DefCall
import PyProof.SliceSyntax
import PyProof.WalksMore
import PyProof.ForRange
import PyProof.Rows.OwnQ
import PyProof.Rows.PlainObj
import PyProof.EqKinds
import PyProof.NeKinds
import PyProof.FactsAll.list_2
import PyProof.ListRange
import PyProof.Conv_int_bool
import PyProof.Rows.Range3
import PyProof.StrBlockH
import PyProof.CallStr
import PyProof.Conv_int
import PyProof.Rows.StrItems
import KE.IntTextText
import PyProof.FactsAll.str_5
import PyProof.DictRoads
import PyProof.Rows.DictMade
import PyProof.SeqI3
import PyProof.ConsumeWalk
import PyProof.RangeFor
import PyProof.TupleIter
import PyProof.PlainList
import PyProof.CompUse
import PyProof.Rows.Chain
import PyProof.Rows.Nodes
import PyProof.RulesRaise
import KE.FramesApart
import PyProof.PassesOwn
import PyProof.Rows.CatchBare
import PyProof.ExcBaseAll.ValueError
import PyProof.RulesTry
import PyProof.Rows.Top
import PyProof.Rows.TopObj
import Wide.All
import Open.Line
import Wide.FinOn
import PySem.Challenge.RW_uf030033_10
set_option Elab.async false
set_option linter.all false
set_option bootstrap.genMatcherCode false
namespace Mine
open PySem

inductive V where
  | none | bool (b : Bool) | int (i : Int) | str (s : Str) | ref (a : Nat)
  deriving DecidableEq, Inhabited

inductive O where
  | list (xs : List V) | frozen (xs : List V) | tuple (xs : List V)
  | dict (es : List (Int × V)) | inst (c : String) (d : Nat) | fdict (fs : List (String × V)) | exc (c : String)
  deriving Inhabited

abbrev Hp := List O
abbrev Env := String → Option V
noncomputable def Env.set (ρ : Env) (x : String) (v : V) : Env := fun y => bif y == x then some v else ρ y
set_option genSizeOf false
set_option genInjectivity false
inductive Cmp where
  | eq | ne | lt | le | gt | ge | is_ | isNot | in_ | notIn
inductive Bin where
  | add | sub | mul | mod | fdiv
inductive Prim where
  | bin (o : Bin) | neg | cmp (o : Cmp)
  | len | isinst (ts : List String) | list | tuple | str | int | min1 | min2 | max2 | any | all | sum
  | item | slice (lo hi : Bool) | rev
  | mkList | mkTuple | mkDict
  | append | pop | index | join | split | startswith
  | attr (n : String) | listRange

inductive Tgt where
  | one (x : String) | two (x y : String)

inductive E where
  | none | bool (b : Bool) | int (i : Int) | str (s : String)
  | var (x : String) | glob (x : String)
  | op (p : Prim) (args : List E)
  | mcall (p : Prim) (o : E) (args : List E)
  | and_ (es : List E) | or_ (es : List E) | not_ (e : E)
  | ife (c a b : E)
  | chain (a : E) (o : Cmp) (b : E) (o' : Cmp) (c : E)
  | call (f : String) (args : List E)
  | meth (m : String) (o : E) (args : List E)
  | new (c : String) (args : List E)
  | newX (c : String) (args : List E)
  | compR (elt : E) (x : String) (args : List E) (conds : List E)
  | compS (elt : E) (x : Tgt) (src : E) (conds : List E)

mutual
inductive S where
  | assign (x : String) (e : E)
  | setItem (o i v : E)
  | setAttr (o : E) (n : String) (v : E)
  | expr (e : E)
  | ret (e : E)
  | retN
  | ite (c : E) (a b : List S)
  | forR (x : String) (args : List E) (body : List S)
  | forS (x : String) (src : E) (body : List S)
  | while_ (c : E) (body : List S)
  | raise (c : String) (msg : String)
  | try_ (body : List S) (hs : List Hd)
  | stuck
inductive Hd where
  | mk (c : String) (as : Option String) (body : List S)
end

set_option genSizeOf true
set_option genInjectivity true
structure Fn where
  params : List String
  body : List S

/-- the defs and the exception classes that a mini program uses -/
structure Tab where
  fns : List String
  excs : List String
  cls : List String
  meths : List (String × String)


noncomputable def lim : Nat := 100000

noncomputable def seqOf (H : Hp) (a : Nat) : Option (List V) := match H[a]? with
  | some (.list xs) | some (.frozen xs) | some (.tuple xs) => some xs
  | _ => none

noncomputable def listOf? (H : Hp) (a : Nat) : Option (List V) := match H[a]? with
  | some (.list xs) => some xs
  | _ => none

theorem listOf_some {H : Hp} {a : Nat} {xs : List V} (h : listOf? H a = some xs) : H[a]? = some (.list xs) := by
  unfold listOf? at h
  split at h
  · rename_i e; cases h; exact e
  · cases h
theorem listOf_eq {H : Hp} {a : Nat} {xs : List V} (h : H[a]? = some (.list xs)) : listOf? H a = some xs := by unfold listOf?; rw [h]

noncomputable def readD : Nat → Hp → V → Option PyData
  | _, _, .none => some .none
  | _, _, .bool b => some (.bool b)
  | _, _, .int i => some (.int i)
  | _, _, .str s => some (.str s)
  | 0, _, .ref _ => none
  | n + 1, H, .ref a => match H[a]? with
    | some (.list xs) => (xs.mapM (readD n H)).map .list
    | some (.frozen xs) => (xs.mapM (readD n H)).map .list
    | some (.tuple xs) => (xs.mapM (readD n H)).map .tuple
    | _ => none

noncomputable def asInt : V → Option Int
  | .int i => some i
  | _ => none
noncomputable def asBool : V → Option Bool
  | .bool b => some b
  | _ => none
noncomputable def eqD (H : Hp) (a b : V) : Option Bool := match readD 8 H a, readD 8 H b with
  | some x, some y => if x.canLay0 && y.canLay0 then some (PyData.eqv x y) else none
  | _, _ => none

noncomputable def inD (H : Hp) (x : V) (xs : List V) : Option Bool := match readD 8 H x, xs.mapM (readD 8 H) with
  | some d, some ds => if d.canLay0 && PyData.canLayAll0 ds then some (ds.any fun y => PyData.eqv y d) else none
  | _, _ => none

noncomputable def memO (H : Hp) (x : V) : O → Option Bool
  | .list xs => inD H x xs
  | .frozen xs => inD H x xs
  | .tuple xs => inD H x xs
  | .dict es => match x with
    | .int k => some (es.any fun e => e.1 == k)
    | _ => none
  | _ => none
noncomputable def mem (H : Hp) (x c : V) : Option Bool := match c with
  | .ref a => H[a]?.bind (memO H x)
  | _ => none
theorem mem_ref {H : Hp} {x : V} {a : Nat} {o : O} (h : H[a]? = some o) : mem H x (.ref a) = memO H x o := by
  show H[a]?.bind (memO H x) = _
  rw [h]; rfl

noncomputable def lessV (H : Hp) (a b : V) : Option Bool := match a, b with
  | .int i, .int j => some (decide (i < j))
  | _, _ => none

noncomputable def isSame (a b : V) : Option Bool := match b with
  | .none => some (decide (a = .none))
  | .bool true => some (decide (a = .bool true))
  | _ => none

noncomputable def cmpV (o : Cmp) (a b : V) (H : Hp) : Option Bool := match o with
  | .eq => eqD H a b
  | .ne => (eqD H a b).map (!·)
  | .lt => lessV H a b
  | .le => match a, b with | .int i, .int j => some (decide (i ≤ j)) | _, _ => none
  | .gt => match a, b with | .int i, .int j => some (decide (j < i)) | _, _ => none
  | .ge => match a, b with | .int i, .int j => some (decide (j ≤ i)) | _, _ => none
  | .is_ => isSame a b
  | .isNot => (isSame a b).map (!·)
  | .in_ => mem H a b
  | .notIn => (mem H a b).map (!·)

noncomputable def putNew (H : Hp) (o : O) : Option (V × Hp) := some (.ref H.length, H ++ [o])

noncomputable def addV (a b : V) (H : Hp) : Option (V × Hp) := match a, b with
  | .int i, .int j => some (.int (i + j), H)
  | .str x, .str y => if x.cps.size + y.cps.size ≤ lim then some (.str (x ++ y), H) else none
  | .ref a, .ref b => (listOf? H a).bind fun xs => (listOf? H b).bind fun ys => if xs.length + ys.length ≤ lim then putNew H (.list (xs ++ ys)) else none
  | _, _ => none

noncomputable def mulV (a b : V) (H : Hp) : Option (V × Hp) := match a, b with
  | .int i, .int j => if i.natAbs < 2 ^ 30 && j.natAbs < 2 ^ 30 then some (.int (i * j), H) else none
  | .ref a, .int n => (listOf? H a).bind fun xs => match xs with
    | [x] => if n.natAbs ≤ lim then putNew H (.list (List.replicate n.toNat x)) else none
    | _ => none
  | _, _ => none

noncomputable def binV (o : Bin) (a b : V) (H : Hp) : Option (V × Hp) := match o with
  | .add => addV a b H
  | .sub => match a, b with | .int i, .int j => some (.int (i - j), H) | _, _ => none
  | .mul => mulV a b H
  | .mod => match a, b with | .int i, .int j => if j = 0 then none else some (.int (i.fmod j), H) | _, _ => none
  | .fdiv => match a, b with | .int i, .int j => if j = 0 ∨ 2 ^ 30 ≤ j.natAbs then none else some (.int (i.fdiv j), H) | _, _ => none

noncomputable def lenV (v : V) (H : Hp) : Option Int := match v with
  | .str s => if s.cps.size ≤ lim then some s.cps.size else none
  | .ref a => (seqOf H a).map fun xs => (xs.length : Int)
  | _ => none

/-- an exception class and the classes above it -/
noncomputable def supers : String → List String
  | "BadWishes" => ["BadWishes", "BedError", "ValueError"]
  | "BadGuest" => ["BadGuest", "BedError", "ValueError"]
  | "BadMates" => ["BadMates", "BedError", "ValueError"]
  | "BadParties" => ["BadParties", "BedError", "ValueError"]
  | "NoNote" => ["NoNote", "BedError", "ValueError"]
  | _ => []

noncomputable def typesOf (v : V) (H : Hp) : List String := match v with
  | .none => []
  | .bool _ => ["bool", "int"]
  | .int _ => ["int"]
  | .str _ => ["str"]
  | .ref a => match H[a]? with
    | some (.list _) | some (.frozen _) => ["list"]
    | some (.tuple _) => ["tuple"]
    | some (.exc c) => supers c
    | _ => []

/-- an object of an own class, or its names -/
noncomputable def isObj (v : V) (H : Hp) : Bool := match v with
  | .ref a => (match H[a]? with | some (.inst _ _) => true | some (.fdict _) => true | _ => false)
  | _ => false
noncomputable def isInst (v : V) (ts : List String) (H : Hp) : Option Bool := if isObj v H = true then none else some (ts.any fun t => (typesOf v H).contains t)

noncomputable def normIdx (i : Int) (n : Nat) : Option Nat :=
  let j := if i < 0 then i + n else i
  if 0 ≤ j ∧ j < n then some j.toNat else none

noncomputable def itemV (v i : V) (H : Hp) : Option V := match i with
  | .int i => match v with
    | .ref a => (seqOf H a).bind fun xs => (normIdx i xs.length).bind fun k => xs[k]?
    | _ => none
  | _ => none

noncomputable def clampIdx (n : Nat) (i : Int) : Nat := (max 0 (min (if i < 0 then i + n else i) n)).toNat

noncomputable def cut {α : Type} (xs : List α) (lo hi : Option Int) : List α :=
  (xs.drop (lo.elim 0 (clampIdx xs.length))).take (hi.elim xs.length (clampIdx xs.length) - lo.elim 0 (clampIdx xs.length))

noncomputable def lsOf : O → Option (List V)
  | .list xs => some xs
  | .frozen xs => some xs
  | _ => none
noncomputable def sliceV (v : V) (lo hi : Option Int) (H : Hp) : Option (V × Hp) := match v with
  | .ref a => (H[a]?.bind lsOf).bind fun xs => putNew H (.list (cut xs lo hi))
  | _ => none

noncomputable def rangeI (a b c : Int) : List Int := (List.range (if a < b then (b - a - 1) / c + 1 else 0).toNat).map fun k : Nat => a + (k : Int) * c

noncomputable def rangeOf (vs : List V) : Option (List Int) := match vs with
  | [.int b] => if b.natAbs ≤ lim then some (rangeI 0 b 1) else none
  | [.int a, .int b] => if 0 ≤ a ∧ a.natAbs ≤ lim ∧ b.natAbs ≤ lim then some (rangeI a b 1) else none
  | [.int a, .int b, .int c] => if 0 ≤ a ∧ a.natAbs ≤ lim ∧ b.natAbs ≤ lim ∧ 0 < c ∧ c.natAbs ≤ lim then some (rangeI a b c) else none
  | _ => none

noncomputable def setAtV (xs : List V) (i : Int) (v : V) : Option (List V) := if 0 ≤ i ∧ i < xs.length then some (xs.set i.toNat v) else none

noncomputable def dictPut (es : List (Int × V)) (k : Int) (v : V) : List (Int × V) :=
  if es.any (fun e => e.1 == k) then es.map fun e => if e.1 == k then (k, v) else e else es ++ [(k, v)]

noncomputable def setV (o i v : V) (H : Hp) : Option Hp := match o, i with
  | .ref a, .int i => match H[a]? with
    | some (.list xs) => (setAtV xs i v).map fun ys => H.set a (.list ys)
    | some (.dict es) => if es.length < lim then some (H.set a (.dict (dictPut es i v))) else none
    | _ => none
  | _, _ => none

noncomputable def appendV (vs : List V) (H : Hp) : Option (V × Hp) := match vs with
  | [.ref a, v] => (listOf? H a).bind fun xs => if xs.length < lim then some (.none, H.set a (.list (xs ++ [v]))) else none
  | _ => none
noncomputable def popV (vs : List V) (H : Hp) : Option (V × Hp) := match vs with
  | [.ref a, .int i] => (listOf? H a).bind fun xs => (normIdx i xs.length).bind fun k => xs[k]?.map fun v => (v, H.set a (.list (xs.eraseIdx k)))
  | _ => none
noncomputable def indexV (vs : List V) (H : Hp) : Option (V × Hp) := match vs with
  | [.ref a, .int k] => (listOf? H a).bind fun xs => (xs.mapM asInt).bind fun is => if k ∈ is then some (.int (is.idxOf k : Nat), H) else none
  | _ => none


noncomputable def methV (p : Prim) (vs : List V) (H : Hp) : Option (V × Hp) := match p with
  | .append => appendV vs H
  | .pop => popV vs H
  | .index => indexV vs H
  | _ => none

noncomputable def attrV (n : String) (v : V) (H : Hp) : Option V := match v with
  | .ref a => match H[a]? with
    | some (.inst _ d) => (match H[d]? with
      | some (.fdict fs) => fs.lookup n
      | _ => none)
    | _ => none
  | _ => none

noncomputable def strV (v : V) : Option V := match v with
  | .int i => if i.natAbs < 1000 then some (.str (Str.ofString (toString i))) else none
  | _ => none

noncomputable def intV (v : V) : Option V := match v with
  | .bool b => some (.int (if b then 1 else 0))
  | _ => none

noncomputable def minL : List Int → Option Int
  | [] => none
  | a :: r => some (r.foldl (fun x y => if y < x then y else x) a)

noncomputable def on1 {α : Type} (vs : List V) (g : V → Option α) : Option α := match vs with
  | [v] => g v
  | _ => none
noncomputable def on1r {α : Type} (vs : List V) (g : Nat → Option α) : Option α := match vs with
  | [.ref a] => g a
  | _ => none
noncomputable def prim (p : Prim) (vs : List V) (H : Hp) : Option (V × Hp) := match p with
  | .bin o => match vs with | [a, b] => binV o a b H | _ => none
  | .neg => match vs with | [.int i] => some (.int (-i), H) | _ => none
  | .cmp o => match vs with | [a, b] => (cmpV o a b H).map fun b => (.bool b, H) | _ => none
  | .len => on1 vs fun v => (lenV v H).map fun n => (.int n, H)
  | .isinst ts => on1 vs fun v => (isInst v ts H).map fun b => (.bool b, H)
  | .list => on1r vs fun a => (seqOf H a).bind fun xs => putNew H (.list xs)
  | .tuple => on1r vs fun a => (listOf? H a).bind fun xs => putNew H (.tuple xs)
  | .str => on1 vs fun v => (strV v).map fun x => (x, H)
  | .int => on1 vs fun v => (intV v).map fun x => (x, H)
  | .min1 => on1r vs fun a => (listOf? H a).bind fun xs => (xs.mapM asInt).bind fun is => (minL is).map fun i => (.int i, H)
  | .min2 => match vs with | [.int i, .int j] => some (.int (if j < i then j else i), H) | _ => none
  | .max2 => match vs with | [.int i, .int j] => some (.int (if i < j then j else i), H) | _ => none
  | .any => on1r vs fun a => (listOf? H a).bind fun xs => (xs.mapM asBool).map fun bs => (.bool (bs.any id), H)
  | .all => on1r vs fun a => (listOf? H a).bind fun xs => (xs.mapM asBool).map fun bs => (.bool (bs.all id), H)
  | .sum => on1r vs fun a => (listOf? H a).bind fun xs => (xs.mapM asInt).bind fun is => if is.all (fun i => decide (i.natAbs ≤ lim)) then some (.int is.sum, H) else none
  | .item => match vs with | [v, i] => (itemV v i H).map fun x => (x, H) | _ => none
  | .slice lo hi => match lo, hi, vs with
    | false, false, [v] => sliceV v none none H
    | true, false, [v, .int i] => sliceV v (some i) none H
    | false, true, [v, .int j] => sliceV v none (some j) H
    | true, true, [v, .int i, .int j] => sliceV v (some i) (some j) H
    | _, _, _ => none
  | .rev => on1r vs fun a => (listOf? H a).bind fun xs => putNew H (.list xs.reverse)
  | .mkList => if vs.length ≤ lim then putNew H (.list vs) else none
  | .mkTuple => if vs.length ≤ lim then putNew H (.tuple vs) else none
  | .mkDict => match vs with | [] => putNew H (.dict []) | _ => none
  | .attr n => on1 vs fun v => (attrV n v H).map fun x => (x, H)
  | .listRange => (rangeOf vs).bind fun is => if is.length ≤ lim then putNew H (.list (is.map .int)) else none
  | .append => methV .append vs H
  | .pop => methV .pop vs H
  | .index => methV .index vs H
  | .join => methV .join vs H
  | .split => methV .split vs H
  | .startswith => methV .startswith vs H

noncomputable def oE {α : Type} (o : Option α) (f : α → Prop) : Prop := match o with
  | some a => f a
  | none => False
theorem oE_some {α : Type} {a : α} {f : α → Prop} : oE (some a) f = f a := rfl
theorem oE_ex {α : Type} {o : Option α} {f : α → Prop} (h : oE o f) : ∃ a, o = some a ∧ f a := match o, h with
  | some a, h => ⟨a, rfl, h⟩
noncomputable def kS (r : Option V) (a : Prop) (b : V → Prop) : Prop := match r with
  | none => a
  | some v => b v
theorem kS_none {a : Prop} {b : V → Prop} : kS none a b = a := rfl
theorem kS_some {v : V} {a : Prop} {b : V → Prop} : kS (some v) a b = b v := rfl
noncomputable def oSeq (v : V) (H : Hp) : Option (Nat × List V) := match v with
  | .ref a => (seqOf H a).map fun xs => (a, xs)
  | _ => none
theorem os_ref {a : Nat} {H : Hp} : oSeq (.ref a) H = (seqOf H a).map fun xs => (a, xs) := rfl
noncomputable def oInst (v : V) (H : Hp) : Option (Nat × String) := match v with
  | .ref a => H[a]?.bind fun o => match o with
    | .inst c d => H[d]?.bind fun o' => match o' with
      | .fdict _ => some (a, c)
      | _ => none
    | _ => none
  | _ => none


abbrev Post := V → Hp → Prop
abbrev XP := String → Hp → Prop
abbrev SPost := Option V → Env → Hp → Prop
abbrev SXP := XP

noncomputable def noX : XP := fun _ _ => False

structure Ctx where
  ok : Bool
  call : String → List V → Hp → Post → XP → Prop
  glob : String → Option V

noncomputable def wP (p : Prim) (vs : List V) (H : Hp) (Q : Post) : Prop := oE (prim p vs H) fun r => Q r.1 r.2

/-- what a built-in method's receiver must be -/
noncomputable def recvOk (p : Prim) (v : V) (H : Hp) : Bool := match p with
  | .append | .pop | .index => (match v with
    | .ref a => (match H[a]? with | some (.list _) => true | _ => false)
    | _ => false)
  | .join | .split | .startswith => (match v with | .str _ => true | _ => false)
  | _ => false

noncomputable def wB (v : V) (k : Bool → Prop) : Prop := match v with
  | .bool b => k b
  | _ => False

noncomputable def wIf (b : Bool) (p q : Prop) : Prop := (b = true → p) ∧ (b = false → q)

noncomputable def wLoop (G : Hp → Prop) (step : V → Hp → (Option V → Hp → Prop) → Prop) : List V → List V → Hp → (List V → Hp → Prop) → Prop
  | [], acc, H, k => G H ∧ k acc H
  | v :: vs, acc, H, k => G H ∧ step v H (fun o H' => wLoop G step vs (o.elim acc fun u => acc ++ [u]) H' k)

noncomputable def wFor (G : Hp → Prop) (step : V → Env → Hp → SPost → Prop) : List V → Env → Hp → SPost → Prop
  | [], ρ, H, k => G H ∧ k none ρ H
  | v :: vs, ρ, H, k => G H ∧ step v ρ H (fun r ρ' H' => kS r (wFor G step vs ρ' H' k) fun v => k (some v) ρ' H')

noncomputable def wWhile (test : Env → Hp → (Bool → Hp → Prop) → Prop) (body : Env → Hp → SPost → Prop) : Nat → Env → Hp → SPost → Prop
  | 0, _, _, _ => False
  | n + 1, ρ, H, k => test ρ H fun b H1 => wIf b (body ρ H1 fun r ρ' H' => kS r (wWhile test body n ρ' H' k) fun v => k (some v) ρ' H') (k none ρ H1)

noncomputable def bindT (t : Tgt) (v : V) (ρ : Env) (H : Hp) : Option Env := match t with
  | .one x => some (ρ.set x v)
  | .two x y => match v with
    | .ref a => (match H[a]? with
      | some (.tuple [u, w]) => some ((ρ.set x u).set y w)
      | _ => none)
    | _ => none

mutual
noncomputable def wE (C : Ctx) : E → Env → Hp → Post → XP → Prop
  | .none, _, H, Q, _ => Q .none H
  | .bool b, _, H, Q, _ => Q (.bool b) H
  | .int i, _, H, Q, _ => Q (.int i) H
  | .str s, _, H, Q, _ => Q (.str (Str.ofString s)) H
  | .var x, ρ, H, Q, _ => oE (ρ x) fun v => Q v H
  | .glob x, _, H, Q, _ => oE (C.glob x) fun v => Q v H
  | .op p args, ρ, H, Q, X => wEs C args ρ H (fun vs H1 => wP p vs H1 Q) X
  | .mcall p o args, ρ, H, Q, X => wE C o ρ H (fun v H1 => recvOk p v H1 = true ∧ wEs C args ρ H1 (fun vs H2 => wP p (v :: vs) H2 Q) X) X
  | .and_ es, ρ, H, Q, X => wAnd C es ρ H (fun b H1 => Q (.bool b) H1) X
  | .or_ es, ρ, H, Q, X => wOr C es ρ H (fun b H1 => Q (.bool b) H1) X
  | .not_ e, ρ, H, Q, X => wE C e ρ H (fun v H1 => wB v fun b => Q (.bool (!b)) H1) X
  | .ife c a b, ρ, H, Q, X => wE C c ρ H (fun v H1 => wB v fun t => wIf t (wE C a ρ H1 Q X) (wE C b ρ H1 Q X)) X
  | .chain a o b o' c, ρ, H, Q, X => wE C a ρ H (fun va H1 => wE C b ρ H1 (fun vb H2 => wP (.cmp o) [va, vb] H2 fun r H3 => wB r fun t => wIf t
      (wE C c ρ H3 (fun vc H4 => wP (.cmp o') [vb, vc] H4 Q) X)
      (Q (.bool false) H3)) X) X
  | .call f args, ρ, H, Q, X => wEs C args ρ H (fun vs H1 => C.call f vs H1 Q X) X
  | .meth m o args, ρ, H, Q, X => wE C o ρ H (fun v H1 => oE (oInst v H1) fun p => wEs C args ρ H1 (fun vs H2 => C.call (p.2 ++ "." ++ m) (.ref p.1 :: vs) H2 Q X) X) X
  | .new c args, ρ, H, Q, X => wEs C args ρ H (fun vs H1 => C.call (c ++ "." ++ "__init__") (.ref (H1.length + 1) :: vs) (H1 ++ [.fdict [], .inst c H1.length]) (fun r H2 => r = .none ∧ Q (.ref (H1.length + 1)) H2) X) X
  | .newX c args, ρ, H, _, X => wEs C args ρ H (fun vs H1 => C.call (c ++ ".__init__") vs H1 (fun _ _ => False) X) X
  | .compR elt x args conds, ρ, H, Q, X => wEs C args ρ H (fun vs H1 => oE (rangeOf vs) fun is => wLoop (fun _ => True) (fun v H2 k => wAnd C conds (ρ.set x v) H2 (fun b H3 => wIf b
          (wE C elt (ρ.set x v) H3 (fun u H4 => k (some u) H4) noX)
          (k none H3)) noX) (is.map .int) [] H1 (fun acc H5 => Q (.ref H5.length) (H5 ++ [.list acc]))) X
  | .compS elt t src conds, ρ, H, Q, X => wE C src ρ H (fun vs H1 => oE (oSeq vs H1) fun p => wLoop (fun H' => H'[p.1]? = H1[p.1]?) (fun v H2 k => oE (bindT t v ρ H2) fun ρ' => wAnd C conds ρ' H2 (fun b H3 => wIf b
              (wE C elt ρ' H3 (fun u H4 => k (some u) H4) noX)
              (k none H3)) noX) p.2 [] H1 (fun acc H5 => Q (.ref H5.length) (H5 ++ [.list acc]))) X
noncomputable def wEs (C : Ctx) : List E → Env → Hp → (List V → Hp → Prop) → XP → Prop
  | [], _, H, Q, _ => Q [] H
  | e :: es, ρ, H, Q, X => wE C e ρ H (fun v H1 => wEs C es ρ H1 (fun vs H2 => Q (v :: vs) H2) X) X
noncomputable def wAnd (C : Ctx) : List E → Env → Hp → (Bool → Hp → Prop) → XP → Prop
  | [], _, H, Q, _ => Q true H
  | e :: es, ρ, H, Q, X => wE C e ρ H (fun v H1 => wB v fun b => wIf b
      (wAnd C es ρ H1 Q X)
      (Q false H1)) X
noncomputable def wOr (C : Ctx) : List E → Env → Hp → (Bool → Hp → Prop) → XP → Prop
  | [], _, H, Q, _ => Q false H
  | e :: es, ρ, H, Q, X => wE C e ρ H (fun v H1 => wB v fun b => wIf b
      (Q true H1)
      (wOr C es ρ H1 Q X)) X
end

section
variable {C : Ctx} {ρ : Env} {H : Hp} {Q : Post} {X : XP}
theorem e_none : wE C .none ρ H Q X = Q .none H := rfl
theorem e_bool {b : Bool} : wE C (.bool b) ρ H Q X = Q (.bool b) H := rfl
theorem e_int {i : Int} : wE C (.int i) ρ H Q X = Q (.int i) H := rfl
theorem e_str {s : String} : wE C (.str s) ρ H Q X = Q (.str (Str.ofString s)) H := rfl
theorem e_var {x : String} : wE C (.var x) ρ H Q X = oE (ρ x) fun v => Q v H := rfl
theorem e_glob {x : String} : wE C (.glob x) ρ H Q X = oE (C.glob x) fun v => Q v H := rfl
theorem e_op {p : Prim} {args : List E} : wE C (.op p args) ρ H Q X = wEs C args ρ H (fun vs H1 => wP p vs H1 Q) X := rfl
theorem e_mcall {p : Prim} {o : E} {args : List E} : wE C (.mcall p o args) ρ H Q X = wE C o ρ H (fun v H1 => recvOk p v H1 = true ∧ wEs C args ρ H1 (fun vs H2 => wP p (v :: vs) H2 Q) X) X := rfl
theorem e_and {es : List E} : wE C (.and_ es) ρ H Q X = wAnd C es ρ H (fun b H1 => Q (.bool b) H1) X := rfl
theorem e_or {es : List E} : wE C (.or_ es) ρ H Q X = wOr C es ρ H (fun b H1 => Q (.bool b) H1) X := rfl
theorem e_not {e : E} : wE C (.not_ e) ρ H Q X = wE C e ρ H (fun v H1 => wB v fun b => Q (.bool (!b)) H1) X := rfl
theorem e_ife {c a b : E} : wE C (.ife c a b) ρ H Q X = wE C c ρ H (fun v H1 => wB v fun t => wIf t (wE C a ρ H1 Q X) (wE C b ρ H1 Q X)) X := rfl
theorem e_chain {a b c : E} {o o' : Cmp} : wE C (.chain a o b o' c) ρ H Q X = wE C a ρ H (fun va H1 => wE C b ρ H1 (fun vb H2 => wP (.cmp o) [va, vb] H2 fun r H3 => wB r fun t => wIf t
      (wE C c ρ H3 (fun vc H4 => wP (.cmp o') [vb, vc] H4 Q) X)
      (Q (.bool false) H3)) X) X := rfl
theorem e_call {f : String} {args : List E} : wE C (.call f args) ρ H Q X = wEs C args ρ H (fun vs H1 => C.call f vs H1 Q X) X := rfl
/-- an object whose making is refused -/
theorem e_newX {c : String} {args : List E} : wE C (.newX c args) ρ H Q X = wEs C args ρ H (fun vs H1 => C.call (c ++ ".__init__") vs H1 (fun _ _ => False) X) X := rfl
theorem e_new {c : String} {args : List E} : wE C (.new c args) ρ H Q X = wEs C args ρ H (fun vs H1 => C.call (c ++ "." ++ "__init__") (.ref (H1.length + 1) :: vs) (H1 ++ [.fdict [], .inst c H1.length]) (fun r H2 => r = .none ∧ Q (.ref (H1.length + 1)) H2) X) X := rfl
theorem e_meth {m : String} {o : E} {args : List E} : wE C (.meth m o args) ρ H Q X = wE C o ρ H (fun v H1 => oE (oInst v H1) fun p => wEs C args ρ H1 (fun vs H2 => C.call (p.2 ++ "." ++ m) (.ref p.1 :: vs) H2 Q X) X) X := rfl
theorem e_compR {elt : E} {x : String} {args conds : List E} : wE C (.compR elt x args conds) ρ H Q X = wEs C args ρ H (fun vs H1 => oE (rangeOf vs) fun is => wLoop (fun _ => True) (fun v H2 k => wAnd C conds (ρ.set x v) H2 (fun b H3 => wIf b
          (wE C elt (ρ.set x v) H3 (fun u H4 => k (some u) H4) noX)
          (k none H3)) noX) (is.map .int) [] H1 (fun acc H5 => Q (.ref H5.length) (H5 ++ [.list acc]))) X := rfl
theorem e_compS {elt : E} {t : Tgt} {src : E} {conds : List E} : wE C (.compS elt t src conds) ρ H Q X = wE C src ρ H (fun vs H1 => oE (oSeq vs H1) fun p => wLoop (fun H' => H'[p.1]? = H1[p.1]?) (fun v H2 k => oE (bindT t v ρ H2) fun ρ' => wAnd C conds ρ' H2 (fun b H3 => wIf b
              (wE C elt ρ' H3 (fun u H4 => k (some u) H4) noX)
              (k none H3)) noX) p.2 [] H1 (fun acc H5 => Q (.ref H5.length) (H5 ++ [.list acc]))) X := rfl
theorem es_nil {Q : List V → Hp → Prop} : wEs C [] ρ H Q X = Q [] H := rfl
theorem es_cons {e : E} {es : List E} {Q : List V → Hp → Prop} : wEs C (e :: es) ρ H Q X = wE C e ρ H (fun v H1 => wEs C es ρ H1 (fun vs H2 => Q (v :: vs) H2) X) X := rfl
theorem and_nil {Q : Bool → Hp → Prop} : wAnd C [] ρ H Q X = Q true H := rfl
theorem and_cons {e : E} {es : List E} {Q : Bool → Hp → Prop} : wAnd C (e :: es) ρ H Q X = wE C e ρ H (fun v H1 => wB v fun b => wIf b (wAnd C es ρ H1 Q X) (Q false H1)) X := rfl
theorem or_nil {Q : Bool → Hp → Prop} : wOr C [] ρ H Q X = Q false H := rfl
theorem or_cons {e : E} {es : List E} {Q : Bool → Hp → Prop} : wOr C (e :: es) ρ H Q X = wE C e ρ H (fun v H1 => wB v fun b => wIf b (Q true H1) (wOr C es ρ H1 Q X)) X := rfl
theorem b_bool {b : Bool} {k : Bool → Prop} : wB (.bool b) k = k b := rfl
theorem p_bin {o : Bin} {a b : V} : prim (.bin o) [a, b] H = binV o a b H := rfl
theorem p_negI {i : Int} : prim .neg [.int i] H = some (.int (-i), H) := rfl
theorem p_cmpP {o : Cmp} {a b : V} : prim (.cmp o) [a, b] H = (cmpV o a b H).map fun b => (.bool b, H) := rfl
theorem p_len {v : V} : prim .len [v] H = (lenV v H).map fun n => (.int n, H) := rfl
theorem p_inst {ts : List String} {v : V} : prim (.isinst ts) [v] H = (isInst v ts H).map fun b => (.bool b, H) := rfl
theorem p_listP {a : Nat} : prim .list [.ref a] H = (seqOf H a).bind fun xs => putNew H (.list xs) := rfl
theorem p_intP {v : V} : prim .int [v] H = (intV v).map fun x => (x, H) := rfl
theorem p_allP {a : Nat} : prim .all [.ref a] H = (listOf? H a).bind fun xs => (xs.mapM asBool).map fun bs => (.bool (bs.all id), H) := rfl
theorem p_itemP {v i : V} : prim .item [v, i] H = (itemV v i H).map fun x => (x, H) := rfl
theorem p_slTo {v : V} {j : Int} : prim (.slice false true) [v, .int j] H = sliceV v none (some j) H := rfl
theorem p_slFrom {v : V} {i : Int} : prim (.slice true false) [v, .int i] H = sliceV v (some i) none H := rfl
theorem p_slBoth {v : V} {i j : Int} : prim (.slice true true) [v, .int i, .int j] H = sliceV v (some i) (some j) H := rfl
theorem p_mkL {vs : List V} : prim .mkList vs H = if vs.length ≤ lim then putNew H (.list vs) else none := rfl
theorem p_mkT {vs : List V} : prim .mkTuple vs H = if vs.length ≤ lim then putNew H (.tuple vs) else none := rfl
theorem p_attrP {n : String} {v : V} : prim (.attr n) [v] H = (attrV n v H).map fun x => (x, H) := rfl
theorem p_app {vs : List V} : prim .append vs H = methV .append vs H := rfl
theorem p_popP {vs : List V} : prim .pop vs H = methV .pop vs H := rfl
theorem p_idx {vs : List V} : prim .index vs H = methV .index vs H := rfl
theorem m_app {a : Nat} {v : V} : methV .append [.ref a, v] H = (listOf? H a).bind fun xs => if xs.length < lim then some (.none, H.set a (.list (xs ++ [v]))) else none := rfl
theorem m_pop {a : Nat} {i : Int} : methV .pop [.ref a, .int i] H = (listOf? H a).bind fun xs => (normIdx i xs.length).bind fun k => xs[k]?.map fun v => (v, H.set a (.list (xs.eraseIdx k))) := rfl
theorem m_idx {a : Nat} {k : Int} : methV .index [.ref a, .int k] H = (listOf? H a).bind fun xs => (xs.mapM asInt).bind fun is => if k ∈ is then some (.int (is.idxOf k : Nat), H) else none := rfl
theorem sl_ref {a : Nat} {lo hi : Option Int} {xs : List V} (h : H[a]? = some (.list xs)) : sliceV (.ref a) lo hi H = some (.ref H.length, H ++ [.list (cut xs lo hi)]) := by
  show (H[a]?.bind lsOf).bind _ = _
  rw [h]; rfl
theorem sl_frz {a : Nat} {lo hi : Option Int} {xs : List V} (h : H[a]? = some (.frozen xs)) : sliceV (.ref a) lo hi H = some (.ref H.length, H ++ [.list (cut xs lo hi)]) := by
  show (H[a]?.bind lsOf).bind _ = _
  rw [h]; rfl
theorem add_at {a b : Nat} {xs ys : List V} (h : H[a]? = some (.list xs)) (h' : H[b]? = some (.list ys)) (hl : xs.length + ys.length ≤ lim) : addV (.ref a) (.ref b) H = some (.ref H.length, H ++ [.list (xs ++ ys)]) := by
  show (listOf? H a).bind _ = _
  rw [listOf_eq h]
  show (listOf? H b).bind _ = _
  rw [listOf_eq h']
  exact if_pos hl
theorem mul_at {a : Nat} {x : V} {n : Nat} (h : H[a]? = some (.list [x])) (hl : n ≤ lim) : mulV (.ref a) (.int (n : Int)) H = some (.ref H.length, H ++ [.list (List.replicate n x)]) := by
  show (listOf? H a).bind _ = _
  rw [listOf_eq h]
  exact if_pos hl
theorem bin_add {a b : V} : binV .add a b H = addV a b H := rfl
theorem bin_mul {a b : V} : binV .mul a b H = mulV a b H := rfl
theorem bin_mod {i j : Int} : binV .mod (.int i) (.int j) H = if j = 0 then none else some (.int (i.fmod j), H) := rfl
theorem bin_fdiv {i j : Int} : binV .fdiv (.int i) (.int j) H = if j = 0 ∨ 2 ^ 30 ≤ j.natAbs then none else some (.int (i.fdiv j), H) := rfl
theorem cmp_eq {a b : V} : cmpV .eq a b H = eqD H a b := rfl
theorem cmp_ne {a b : V} : cmpV .ne a b H = (eqD H a b).map (!·) := rfl
theorem cmp_lt {a b : V} : cmpV .lt a b H = lessV H a b := rfl
theorem cmp_le {i j : Int} : cmpV .le (.int i) (.int j) H = some (decide (i ≤ j)) := rfl
theorem cmp_gt {i j : Int} : cmpV .gt (.int i) (.int j) H = some (decide (j < i)) := rfl
theorem cmp_ge {i j : Int} : cmpV .ge (.int i) (.int j) H = some (decide (j ≤ i)) := rfl
theorem cmp_is {a b : V} : cmpV .is_ a b H = isSame a b := rfl
theorem cmp_isnt {a b : V} : cmpV .isNot a b H = (isSame a b).map (!·) := rfl
theorem cmp_in {a b : V} : cmpV .in_ a b H = mem H a b := rfl
theorem cmp_out {a b : V} : cmpV .notIn a b H = (mem H a b).map (!·) := rfl
theorem t_one {x : String} {v : V} : bindT (.one x) v ρ H = some (ρ.set x v) := rfl
end

noncomputable def setF (fs : List (String × V)) (n : String) (v : V) : List (String × V) :=
  if fs.any (fun f => f.1 == n) then fs.map fun f => if f.1 == n then (n, v) else f else fs ++ [(n, v)]

/-- what objects hold, and what they can do -/
noncomputable def attrNames : List String := ["wishes", "mates"]
noncomputable def methNames : List String := ["__init__", "turn", "twos", "table"]
noncomputable def setAttrV (o : V) (n : String) (v : V) (H : Hp) : Option Hp := match o with
  | .ref a => (match H[a]? with
    | some (.inst _ d) => (match H[d]? with
      | some (.fdict fs) => some (H.set d (.fdict (setF fs n v)))
      | _ => none)
    | _ => none)
  | _ => none

/-- what a handler's expression tells of an exception of class c, known as n -/
noncomputable def hE (n : Option String) (c : String) : E → Option V
  | .none => some .none
  | .bool b => some (.bool b)
  | .int i => some (.int i)
  | .op (.isinst ts) [.var x] => if n = some x then some (.bool (ts.any fun t => (supers c).contains t)) else none
  | _ => none
noncomputable def noEnv : Env := fun _ => none

/-- a handler's suite: one return, or a test between two returns, or a raise -/
noncomputable def wHb (n : Option String) (c : String) (H : Hp) (k : SPost) (X : XP) : List S → Prop
  | [.ret e] => (match hE n c e with | some v => k (some v) noEnv H | none => False)
  | [.ite t [.ret a] [], .ret b] => (match hE n c t with
    | some (.bool true) => (match hE n c a with | some v => k (some v) noEnv H | none => False)
    | some (.bool false) => (match hE n c b with | some v => k (some v) noEnv H | none => False)
    | _ => False)
  | [.raise c' _] => X c' H
  | _ => False

noncomputable def wHs (c : String) (H : Hp) (k : SPost) (X : XP) : List Hd → Prop
  | [] => False
  | .mk c' none body :: _ => if c' = c then wHb none c H k X body else False
  | _ => False

mutual
noncomputable def wS (C : Ctx) : S → Env → Hp → SPost → SXP → Prop
  | .assign x e, ρ, H, k, X => wE C e ρ H (fun v H1 => k none (ρ.set x v) H1) X
  | .setItem o i v, ρ, H, k, X => wE C v ρ H (fun vv H1 => wE C o ρ H1 (fun vo H2 => wE C i ρ H2 (fun vi H3 => oE (setV vo vi vv H3) fun H4 => k none ρ H4) X) X) X
  | .setAttr o n v, ρ, H, k, X => wE C v ρ H (fun vv H1 => wE C o ρ H1 (fun vo H2 => oE (setAttrV vo n vv H2) fun H3 => k none ρ H3) X) X
  | .expr e, ρ, H, k, X => wE C e ρ H (fun _ H1 => k none ρ H1) X
  | .ret e, ρ, H, k, X => wE C e ρ H (fun v H1 => k (some v) ρ H1) X
  | .retN, ρ, H, k, _ => k (some .none) ρ H
  | .ite c a b, ρ, H, k, X => wE C c ρ H (fun v H1 => wB v fun t => wIf t
      (wSs C a ρ H1 k X)
      (wSs C b ρ H1 k X)) X
  | .forR x args body, ρ, H, k, X => wEs C args ρ H (fun vs H1 => oE (rangeOf vs) fun is => wFor (fun _ => True) (fun v ρ' H' k' => wSs C body (ρ'.set x v) H' k' X) (is.map .int) ρ H1 k) X
  | .forS x src body, ρ, H, k, X => wE C src ρ H (fun v H1 => oE (oSeq v H1) fun p => wFor (fun H' => H'[p.1]? = H1[p.1]?) (fun v ρ' H' k' => wSs C body (ρ'.set x v) H' k' X) p.2 ρ H1 k) X
  | .while_ c body, ρ, H, k, X => ∃ n, wWhile (fun ρ' H' k' => wE C c ρ' H' (fun v H1 => wB v fun b => k' b H1) X) (fun ρ' H' k' => wSs C body ρ' H' k' X) n ρ H k
  | .raise c _, _, H, _, X => X c H
  | .stuck, _, _, _, _ => False
  | .try_ body hs, ρ, H, k, X => wSs C body ρ H k (fun c H' => wHs c H' k X hs)
noncomputable def wSs (C : Ctx) : List S → Env → Hp → SPost → SXP → Prop
  | [], ρ, H, k, _ => k none ρ H
  | s :: ss, ρ, H, k, X => wS C s ρ H (fun r ρ1 H1 => kS r (wSs C ss ρ1 H1 k X) fun v => k (some v) ρ1 H1) X
end

section
variable {C : Ctx} {ρ : Env} {H : Hp} {k : SPost} {X : SXP}
theorem s_assign {x : String} {e : E} : wS C (.assign x e) ρ H k X = wE C e ρ H (fun v H1 => k none (ρ.set x v) H1) X := rfl
theorem s_setItem {o i v : E} : wS C (.setItem o i v) ρ H k X = wE C v ρ H (fun vv H1 => wE C o ρ H1 (fun vo H2 => wE C i ρ H2 (fun vi H3 => oE (setV vo vi vv H3) fun H4 => k none ρ H4) X) X) X := rfl
theorem s_expr {e : E} : wS C (.expr e) ρ H k X = wE C e ρ H (fun _ H1 => k none ρ H1) X := rfl
theorem s_ret {e : E} : wS C (.ret e) ρ H k X = wE C e ρ H (fun v H1 => k (some v) ρ H1) X := rfl
theorem s_retN : wS C .retN ρ H k X = k (some .none) ρ H := rfl
theorem s_ite {c : E} {a b : List S} : wS C (.ite c a b) ρ H k X = wE C c ρ H (fun v H1 => wB v fun t => wIf t (wSs C a ρ H1 k X) (wSs C b ρ H1 k X)) X := rfl
theorem s_forR {x : String} {args : List E} {body : List S} : wS C (.forR x args body) ρ H k X = wEs C args ρ H (fun vs H1 => oE (rangeOf vs) fun is => wFor (fun _ => True) (fun v ρ' H' k' => wSs C body (ρ'.set x v) H' k' X) (is.map .int) ρ H1 k) X := rfl
theorem s_forS {x : String} {src : E} {body : List S} : wS C (.forS x src body) ρ H k X = wE C src ρ H (fun v H1 => oE (oSeq v H1) fun p => wFor (fun H' => H'[p.1]? = H1[p.1]?) (fun v ρ' H' k' => wSs C body (ρ'.set x v) H' k' X) p.2 ρ H1 k) X := rfl
theorem s_while {c : E} {body : List S} : wS C (.while_ c body) ρ H k X = ∃ n, wWhile (fun ρ' H' k' => wE C c ρ' H' (fun v H1 => wB v fun b => k' b H1) X) (fun ρ' H' k' => wSs C body ρ' H' k' X) n ρ H k := rfl
theorem s_setAttr {o v : E} {n : String} : wS C (.setAttr o n v) ρ H k X = wE C v ρ H (fun vv H1 => wE C o ρ H1 (fun vo H2 => oE (setAttrV vo n vv H2) fun H3 => k none ρ H3) X) X := rfl
theorem s_raise {c m : String} : wS C (.raise c m) ρ H k X = X c H := rfl
theorem hs_same {c : String} {body : List S} {hs : List Hd} : wHs c H k X (.mk c none body :: hs) = wHb none c H k X body := if_pos rfl
theorem s_try {body : List S} {hs : List Hd} : wS C (.try_ body hs) ρ H k X = wSs C body ρ H k (fun c H' => wHs c H' k X hs) := rfl
theorem ss_nil : wSs C [] ρ H k X = k none ρ H := rfl
theorem ss_cons {s : S} {ss : List S} : wSs C (s :: ss) ρ H k X = wS C s ρ H (fun r ρ1 H1 => kS r (wSs C ss ρ1 H1 k X) fun v => k (some v) ρ1 H1) X := rfl
end

noncomputable def bindP : List String → List V → Env
  | x :: xs, v :: vs => (bindP xs vs).set x v
  | _, _ => fun _ => none

theorem bp_cons {x : String} {xs : List String} {v : V} {vs : List V} : bindP (x :: xs) (v :: vs) = (bindP xs vs).set x v := rfl
theorem bp_nil : bindP [] [] = fun _ => none := rfl

structure Prog where
  fn : String → Option Fn
  glob : String → Option V

noncomputable def callN (P : Prog) (ok : Bool) : Nat → String → List V → Hp → Post → XP → Prop
  | 0, _, _, _, _, _ => False
  | n + 1, f, vs, H, Q, X => oE (P.fn f) fun fn => fn.params.length = vs.length ∧ wSs ⟨ok, callN P ok n, P.glob⟩ fn.body (bindP fn.params vs) H (fun r _ H' => Q (r.getD .none) H') X

end Mine

namespace Mine
open PySem

noncomputable def f_is_guest : Fn := ⟨["thing", "many"], [.ret (.and_ [.op (.isinst ["int"]) [.var "thing"], .not_ (.op (.isinst ["bool"]) [.var "thing"]), .chain (.int 0) .le (.var "thing") .lt (.var "many")])]⟩
noncomputable def f_is_row : Fn := ⟨["row", "guest", "many"], [.ite (.not_ (.op (.isinst ["list"]) [.var "row"]))
    [.ret (.bool false)]
    [],
  .forR "at" [.op .len [.var "row"]]
    [.ite (.or_ [.not_ (.call "is_guest" [.op .item [.var "row", .var "at"], .var "many"]), .op (.cmp .eq) [.op .item [.var "row", .var "at"], .var "guest"], .op (.cmp .in_) [.op .item [.var "row", .var "at"], .op (.slice false true) [.var "row", .var "at"]]])
      [.ret (.bool false)]
      []],
  .ret (.bool true)]⟩
noncomputable def f_need_wishes : Fn := ⟨["wishes"], [.ite (.or_ [.not_ (.op (.isinst ["list"]) [.var "wishes"]), .not_ (.chain (.int 1) .le (.op .len [.var "wishes"]) .le (.glob "MOST_GUESTS"))])
    [.raise "BadWishes" "one to six lists are wanted"]
    [],
  .forR "guest" [.op .len [.var "wishes"]]
    [.ite (.not_ (.call "is_row" [.op .item [.var "wishes", .var "guest"], .var "guest", .op .len [.var "wishes"]]))
      [.raise "BadWishes" "a list that a guest can't have"]
      []]]⟩
noncomputable def f_need_guest : Fn := ⟨["wishes", "guest"], [.ite (.not_ (.call "is_guest" [.var "guest", .op .len [.var "wishes"]]))
    [.raise "BadGuest" "no such guest"]
    []]⟩
noncomputable def f_both_wish : Fn := ⟨["wishes", "one", "other"], [.ret (.and_ [.op (.cmp .in_) [.var "other", .op .item [.var "wishes", .var "one"]], .op (.cmp .in_) [.var "one", .op .item [.var "wishes", .var "other"]]])]⟩
noncomputable def f_sooner : Fn := ⟨["wishes", "guest", "one", "other"], [.ite (.or_ [.op (.cmp .eq) [.var "one", .var "other"], .op (.cmp .is_) [.var "one", .none], .not_ (.call "both_wish" [.var "wishes", .var "guest", .var "one"])])
    [.ret (.bool false)]
    [],
  .ite (.or_ [.op (.cmp .is_) [.var "other", .none], .not_ (.call "both_wish" [.var "wishes", .var "guest", .var "other"])])
    [.ret (.bool true)]
    [],
  .ret (.op (.cmp .lt) [.mcall .index (.op .item [.var "wishes", .var "guest"]) [.var "one"], .mcall .index (.op .item [.var "wishes", .var "guest"]) [.var "other"]])]⟩
noncomputable def f__law_cell_at : Fn := ⟨["_law_script", "_law_k"], [.ite (.op (.cmp .lt) [.var "_law_k", .op .len [.var "_law_script"]])
    [.ret (.op .item [.var "_law_script", .var "_law_k"])]
    [],
  .ret (.int 0)]⟩
noncomputable def f__law_row_by : Fn := ⟨["_law_cell", "_law_guest", "_law_many", "_law_full"], [.assign "_law_left" (.compR (.var "_law_one") "_law_one" [.var "_law_many"] [.op (.cmp .ne) [.var "_law_one", .var "_law_guest"]]),
  .assign "_law_row" (.op .mkList []),
  .while_ (.op (.cmp .gt) [.op .len [.var "_law_left"], .int 0])
    [.expr (.mcall .append (.var "_law_row") [.mcall .pop (.var "_law_left") [.op (.bin .mod) [.var "_law_cell", .op .len [.var "_law_left"]]]]),
    .assign "_law_cell" (.op (.bin .fdiv) [.var "_law_cell", .op (.bin .add) [.op .len [.var "_law_left"], .int 1]])],
  .ite (.var "_law_full")
    [.ret (.var "_law_row")]
    [],
  .ret (.op (.slice false true) [.var "_law_row", .op (.bin .mod) [.var "_law_cell", .op (.bin .add) [.op .len [.var "_law_row"], .int 1]]])]⟩
noncomputable def f__law_wishes_by : Fn := ⟨["_law_script", "_law_many"], [.assign "_law_full" (.op (.cmp .gt) [.op (.bin .mod) [.call "_law_cell_at" [.var "_law_script", .int 1], .int 3], .int 0]),
  .ret (.compR (.call "_law_row_by" [.call "_law_cell_at" [.var "_law_script", .op (.bin .add) [.int 3, .var "_law_k"]], .var "_law_k", .var "_law_many", .var "_law_full"]) "_law_k" [.var "_law_many"] [])]⟩
noncomputable def f__law_suits : Fn := ⟨["_law_wishes", "_law_one", "_law_other"], [.ret (.and_ [.op (.cmp .in_) [.var "_law_other", .op .item [.var "_law_wishes", .var "_law_one"]], .op (.cmp .in_) [.var "_law_one", .op .item [.var "_law_wishes", .var "_law_other"]]])]⟩
noncomputable def f__law_rather : Fn := ⟨["_law_wishes", "_law_guest", "_law_one", "_law_other"], [.ite (.or_ [.op (.cmp .is_) [.var "_law_one", .none], .not_ (.call "_law_suits" [.var "_law_wishes", .var "_law_guest", .var "_law_one"])])
    [.ret (.bool false)]
    [],
  .forS "_law_thing" (.op .item [.var "_law_wishes", .var "_law_guest"])
    [.ite (.and_ [.op (.cmp .eq) [.var "_law_thing", .var "_law_other"], .call "_law_suits" [.var "_law_wishes", .var "_law_guest", .var "_law_other"]])
      [.ret (.bool false)]
      [],
    .ite (.op (.cmp .eq) [.var "_law_thing", .var "_law_one"])
      [.ret (.bool true)]
      []],
  .ret (.bool false)]⟩
noncomputable def f_all_calm : Fn := ⟨["wishes"], [.ret (.compS (.var "mates") (.one "mates") (.call "all_twos" [.var "wishes"]) [.op (.cmp .eq) [.op .len [.call "found_restless" [.var "wishes", .var "mates"]], .int 0]])]⟩
noncomputable def f_found_restless : Fn := ⟨["wishes", "mates"], [.assign "pairs" (.op .mkList []),
  .forR "one" [.op .len [.var "wishes"]]
    [.forR "other" [.op (.bin .add) [.var "one", .int 1], .op .len [.var "wishes"]]
      [.ite (.and_ [.call "sooner" [.var "wishes", .var "one", .var "other", .op .item [.var "mates", .var "one"]], .call "sooner" [.var "wishes", .var "other", .var "one", .op .item [.var "mates", .var "other"]]])
        [.expr (.mcall .append (.var "pairs") [.op .mkTuple [.var "one", .var "other"]])]
        []]],
  .ret (.var "pairs")]⟩
noncomputable def f_settled : Fn := ⟨["wishes", "guest", "mates", "met", "found"], [.while_ (.and_ [.op (.cmp .lt) [.var "guest", .op .len [.var "wishes"]], .op .item [.var "met", .var "guest"]])
    [.assign "guest" (.op (.bin .add) [.var "guest", .int 1])],
  .ite (.op (.cmp .eq) [.var "guest", .op .len [.var "wishes"]])
    [.expr (.mcall .append (.var "found") [.op .list [.var "mates"]]),
    .retN]
    [],
  .setItem (.var "met") (.var "guest") (.bool true),
  .expr (.call "settled" [.var "wishes", .op (.bin .add) [.var "guest", .int 1], .var "mates", .var "met", .var "found"]),
  .forR "other" [.op (.bin .add) [.var "guest", .int 1], .op .len [.var "wishes"]]
    [.ite (.and_ [.not_ (.op .item [.var "met", .var "other"]), .call "both_wish" [.var "wishes", .var "guest", .var "other"]])
      [.setItem (.var "met") (.var "other") (.bool true),
      .setItem (.var "mates") (.var "guest") (.var "other"),
      .setItem (.var "mates") (.var "other") (.var "guest"),
      .expr (.call "settled" [.var "wishes", .op (.bin .add) [.var "guest", .int 1], .var "mates", .var "met", .var "found"]),
      .setItem (.var "mates") (.var "guest") .none,
      .setItem (.var "mates") (.var "other") .none,
      .setItem (.var "met") (.var "other") (.bool false)]
      []],
  .setItem (.var "met") (.var "guest") (.bool false)]⟩
noncomputable def f_all_twos : Fn := ⟨["wishes"], [.expr (.call "need_wishes" [.var "wishes"]),
  .assign "found" (.op .mkList []),
  .assign "many" (.op .len [.var "wishes"]),
  .expr (.call "settled" [.var "wishes", .int 0, .op (.bin .mul) [.op .mkList [.none], .var "many"], .op (.bin .mul) [.op .mkList [.bool false], .var "many"], .var "found"]),
  .ret (.var "found")]⟩
noncomputable def f_first_calm : Fn := ⟨["wishes"], [.assign "found" (.call "all_calm" [.var "wishes"]),
  .ite (.op (.cmp .eq) [.op .len [.var "found"], .int 0])
    [.ret .none]
    [],
  .ret (.op .item [.var "found", .int 0])]⟩
noncomputable def f_stay : Fn := ⟨["wishes", "mates"], [.forR "guest" [.op .len [.var "mates"]]
    [.ite (.and_ [.op (.cmp .isNot) [.op .item [.var "mates", .var "guest"], .none], .not_ (.call "both_wish" [.var "wishes", .var "guest", .op .item [.var "mates", .var "guest"]])])
      [.ret (.bool false)]
      []],
  .ret (.op (.cmp .eq) [.op .len [.call "found_restless" [.var "wishes", .var "mates"]], .int 0])]⟩
noncomputable def f_Inn___init__ : Fn := ⟨["self", "wishes"], [.expr (.call "need_wishes" [.var "wishes"]),
  .setAttr (.var "self") "wishes" (.compS (.op .list [.var "row"]) (.one "row") (.var "wishes") []),
  .setAttr (.var "self") "mates" (.call "first_calm" [.op (.attr "wishes") [.var "self"]])]⟩
noncomputable def f_Inn_turn : Fn := ⟨["self", "guest", "row"], [.expr (.call "need_guest" [.op (.attr "wishes") [.var "self"], .var "guest"]),
  .ite (.not_ (.call "is_row" [.var "row", .var "guest", .op .len [.op (.attr "wishes") [.var "self"]]]))
    [.raise "BadWishes" "a list that the guest can't have"]
    [],
  .setItem (.op (.attr "wishes") [.var "self"]) (.var "guest") (.op .list [.var "row"]),
  .ite (.or_ [.op (.cmp .is_) [.op (.attr "mates") [.var "self"], .none], .not_ (.call "stay" [.op (.attr "wishes") [.var "self"], .op (.attr "mates") [.var "self"]])])
    [.setAttr (.var "self") "mates" (.call "first_calm" [.op (.attr "wishes") [.var "self"]])]
    []]⟩
noncomputable def f_Inn_twos : Fn := ⟨["self"], [.ite (.op (.cmp .is_) [.op (.attr "mates") [.var "self"], .none])
    [.ret .none]
    [],
  .ret (.op .list [.op (.attr "mates") [.var "self"]])]⟩
noncomputable def f_Inn_table : Fn := ⟨["self"], [.ret (.compS (.op .list [.var "row"]) (.one "row") (.op (.attr "wishes") [.var "self"]) [])]⟩
noncomputable def f__law_whole : Fn := ⟨["_law_found"], [.ret (.and_ [.op (.isinst ["int"]) [.var "_law_found"], .not_ (.op (.isinst ["bool"]) [.var "_law_found"])])]⟩
noncomputable def f__law_restless_05 : Fn := ⟨["_law_wishes", "_law_mates_here"], [.assign "_law_found" (.op .mkList []),
  .forR "_law_one" [.op .len [.var "_law_wishes"]]
    [.forR "_law_other" [.op (.bin .add) [.var "_law_one", .int 1], .op .len [.var "_law_wishes"]]
      [.ite (.and_ [.call "_law_rather" [.var "_law_wishes", .var "_law_one", .var "_law_other", .op .item [.var "_law_mates_here", .var "_law_one"]], .call "_law_rather" [.var "_law_wishes", .var "_law_other", .var "_law_one", .op .item [.var "_law_mates_here", .var "_law_other"]]])
        [.expr (.mcall .append (.var "_law_found") [.op .mkTuple [.var "_law_one", .var "_law_other"]])]
        []]],
  .ret (.var "_law_found")]⟩
noncomputable def f__law_mates : Fn := ⟨["_law_wishes", "_law_mates_here"], [.ite (.or_ [.not_ (.op (.isinst ["list"]) [.var "_law_mates_here"]), .op (.cmp .ne) [.op .len [.var "_law_mates_here"], .op .len [.var "_law_wishes"]]])
    [.ret (.bool false)]
    [],
  .forR "_law_guest" [.op .len [.var "_law_mates_here"]]
    [.assign "_law_mate" (.op .item [.var "_law_mates_here", .var "_law_guest"]),
    .ite (.op (.cmp .isNot) [.var "_law_mate", .none])
      [.ite (.or_ [.not_ (.call "_law_whole" [.var "_law_mate"]), .op (.cmp .lt) [.var "_law_mate", .int 0], .op (.cmp .ge) [.var "_law_mate", .op .len [.var "_law_mates_here"]], .op (.cmp .ne) [.op .item [.var "_law_mates_here", .var "_law_mate"], .var "_law_guest"]])
        [.ret (.bool false)]
        [],
      .ite (.not_ (.call "_law_suits" [.var "_law_wishes", .var "_law_guest", .var "_law_mate"]))
        [.ret (.bool false)]
        []]
      []],
  .ret (.bool true)]⟩
noncomputable def f__law_first_10 : Fn := ⟨["_law_wishes"], [.assign "_law_some" (.call "all_calm" [.compS (.op .list [.var "_law_row"]) (.one "_law_row") (.var "_law_wishes") []]),
  .ite (.op (.cmp .eq) [.op .len [.var "_law_some"], .int 0])
    [.ret .none]
    [],
  .ret (.op .item [.var "_law_some", .int 0])]⟩
noncomputable def f__law_refused_10 : Fn := ⟨["_law_inn", "_law_guest", "_law_row"], [.try_ [.expr (.meth "turn" (.var "_law_inn") [.var "_law_guest", .var "_law_row"])]
    [.mk "BadWishes" none [.ret (.bool true)]],
  .ret (.bool false)]⟩
noncomputable def f__law_held : Fn := ⟨["_law_inn", "_law_wishes", "_law_due"], [.assign "_law_found" (.meth "twos" (.var "_law_inn") []),
  .assign "_law_table" (.meth "table" (.var "_law_inn") []),
  .ite (.or_ [.op (.cmp .ne) [.var "_law_table", .var "_law_wishes"], .op (.cmp .ne) [.var "_law_found", .var "_law_due"]])
    [.ret (.bool false)]
    [],
  .ite (.op (.cmp .isNot) [.var "_law_found", .none])
    [.ite (.or_ [.not_ (.call "_law_mates" [.var "_law_wishes", .var "_law_found"]), .op (.cmp .ne) [.call "_law_restless" [.var "_law_wishes", .var "_law_found"], .op .mkList []]])
      [.ret (.bool false)]
      [],
    .expr (.mcall .append (.var "_law_found") [.none])]
    [],
  .expr (.mcall .append (.var "_law_table") [.op .mkList []]),
  .expr (.mcall .append (.op .item [.var "_law_table", .int 0]) [.int 0]),
  .ite (.or_ [.op (.cmp .ne) [.meth "twos" (.var "_law_inn") [], .var "_law_due"], .op (.cmp .ne) [.meth "table" (.var "_law_inn") [], .var "_law_wishes"]])
    [.ret (.bool false)]
    [],
  .ret (.and_ [.op (.cmp .eq) [.op .item [.var "_law_table", .op .neg [.int 1]], .op .mkList []], .or_ [.op (.cmp .is_) [.var "_law_found", .none], .op (.cmp .eq) [.var "_law_found", .op (.bin .add) [.var "_law_due", .op .mkList [.none]]]]])]⟩
noncomputable def f__law_deeds : Fn := ⟨["_law_script", "_law_many"], [.assign "_law_more" (.op (.bin .fdiv) [.call "_law_cell_at" [.var "_law_script", .int 0], .int 18]),
  .ite (.and_ [.op (.cmp .eq) [.var "_law_many", .int 5], .op (.cmp .ne) [.op (.bin .mod) [.var "_law_more", .int 8], .int 1]])
    [.ret (.op (.slice true true) [.var "_law_script", .int 10, .int 12])]
    [],
  .ite (.op (.cmp .eq) [.var "_law_many", .int 6])
    [.ret (.op (.slice true true) [.var "_law_script", .int 10, .op (.bin .add) [.int 12, .op (.bin .mul) [.int 3, .op .int [.op (.cmp .eq) [.op (.bin .mod) [.var "_law_more", .int 16], .int 1]]]]])]
    [],
  .ret (.op (.slice true true) [.var "_law_script", .int 10, .int 20])]⟩
noncomputable def f_law_10 : Fn := ⟨["_law_script"], [.assign "_law_many" (.op (.bin .add) [.int 1, .op (.bin .mod) [.call "_law_cell_at" [.var "_law_script", .int 0], .int 6]]),
  .ite (.and_ [.op (.cmp .eq) [.var "_law_many", .int 6], .op (.cmp .gt) [.op (.bin .mod) [.op (.bin .fdiv) [.call "_law_cell_at" [.var "_law_script", .int 0], .int 6], .int 3], .int 0]])
    [.assign "_law_many" (.int 4)]
    [],
  .assign "_law_wishes" (.call "_law_wishes_by" [.var "_law_script", .var "_law_many"]),
  .assign "_law_handed" (.compS (.op .list [.var "_law_row"]) (.one "_law_row") (.var "_law_wishes") []),
  .assign "_law_inn" (.new "Inn" [.var "_law_handed"]),
  .assign "_law_beside" (.new "Inn" [.compS (.op .list [.var "_law_row"]) (.one "_law_row") (.var "_law_wishes") []]),
  .expr (.mcall .append (.op .item [.var "_law_handed", .int 0]) [.int 0]),
  .assign "_law_due" (.call "_law_first" [.var "_law_wishes"]),
  .assign "_law_start" (.call "_law_first" [.var "_law_wishes"]),
  .assign "_law_old" (.compS (.op .list [.var "_law_row"]) (.one "_law_row") (.var "_law_wishes") []),
  .ite (.not_ (.call "_law_held" [.var "_law_inn", .var "_law_wishes", .var "_law_due"]))
    [.ret (.bool false)]
    [],
  .assign "_law_held_here" (.op .mkList []),
  .forS "_law_cell" (.call "_law_deeds" [.var "_law_script", .var "_law_many"])
    [.expr (.mcall .append (.var "_law_held_here") [.op .mkTuple [.op .mkList [.meth "twos" (.var "_law_inn") [], .meth "table" (.var "_law_inn") []], .op .mkList [.var "_law_due", .compS (.op .list [.var "_law_row"]) (.one "_law_row") (.var "_law_wishes") []]]]),
    .assign "_law_guest" (.op (.bin .mod) [.op (.bin .fdiv) [.var "_law_cell", .int 5], .var "_law_many"]),
    .assign "_law_row" (.call "_law_row_by" [.op (.bin .fdiv) [.op (.bin .fdiv) [.var "_law_cell", .int 30], .int 2], .var "_law_guest", .var "_law_many", .op (.cmp .eq) [.op (.bin .mod) [.op (.bin .fdiv) [.var "_law_cell", .int 30], .int 2], .int 0]]),
    .ite (.op (.cmp .eq) [.op (.bin .mod) [.var "_law_cell", .int 5], .int 4])
      [.assign "_law_bad" (.op .item [.op .mkList [.var "_law_guest", .var "_law_many", .op .neg [.int 1], .bool true, .op .item [.op (.bin .add) [.var "_law_row", .op .mkList [.var "_law_many"]], .int 0], .bool false], .op (.bin .mod) [.op (.bin .fdiv) [.var "_law_cell", .int 60], .int 6]]),
      .assign "_law_at" (.op (.bin .mod) [.op (.bin .fdiv) [.var "_law_cell", .int 360], .op (.bin .add) [.op .len [.var "_law_row"], .int 1]]),
      .ite (.not_ (.call "_law_refused" [.var "_law_inn", .var "_law_guest", .op (.bin .add) [.op (.bin .add) [.op (.slice false true) [.var "_law_row", .var "_law_at"], .op .mkList [.var "_law_bad"]], .op (.slice true false) [.var "_law_row", .var "_law_at"]]]))
        [.ret (.bool false)]
        []]
      [.assign "_law_given" (.op .list [.var "_law_row"]),
      .ite (.op (.cmp .isNot) [.meth "turn" (.var "_law_inn") [.var "_law_guest", .var "_law_given"], .none])
        [.ret (.bool false)]
        [],
      .expr (.mcall .append (.var "_law_given") [.var "_law_guest"]),
      .setItem (.var "_law_wishes") (.var "_law_guest") (.var "_law_row"),
      .ite (.or_ [.op (.cmp .is_) [.var "_law_due", .none], .not_ (.call "_law_mates" [.var "_law_wishes", .var "_law_due"]), .op (.cmp .ne) [.call "_law_restless" [.var "_law_wishes", .var "_law_due"], .op .mkList []]])
        [.assign "_law_due" (.call "_law_first" [.var "_law_wishes"])]
        []],
    .ite (.not_ (.call "_law_held" [.var "_law_inn", .var "_law_wishes", .var "_law_due"]))
      [.ret (.bool false)]
      []],
  .ite (.not_ (.op .all [.compS (.op (.cmp .eq) [.var "_law_told", .var "_law_ahead"]) (.two "_law_told" "_law_ahead") (.var "_law_held_here") []]))
    [.ret (.bool false)]
    [],
  .ret (.and_ [.op (.cmp .eq) [.meth "twos" (.var "_law_beside") [], .var "_law_start"], .op (.cmp .eq) [.meth "table" (.var "_law_beside") [], .var "_law_old"]])]⟩
noncomputable def prog10 : Prog where
  fn := fun f => match f with
    | "is_guest" => some f_is_guest
    | "is_row" => some f_is_row
    | "need_wishes" => some f_need_wishes
    | "need_guest" => some f_need_guest
    | "both_wish" => some f_both_wish
    | "sooner" => some f_sooner
    | "found_restless" => some f_found_restless
    | "settled" => some f_settled
    | "all_twos" => some f_all_twos
    | "all_calm" => some f_all_calm
    | "first_calm" => some f_first_calm
    | "stay" => some f_stay
    | "_law_cell_at" => some f__law_cell_at
    | "_law_row_by" => some f__law_row_by
    | "_law_wishes_by" => some f__law_wishes_by
    | "_law_whole" => some f__law_whole
    | "_law_suits" => some f__law_suits
    | "_law_rather" => some f__law_rather
    | "_law_restless" => some f__law_restless_05
    | "_law_mates" => some f__law_mates
    | "_law_first" => some f__law_first_10
    | "_law_refused" => some f__law_refused_10
    | "_law_held" => some f__law_held
    | "_law_deeds" => some f__law_deeds
    | "law" => some f_law_10
    | "Inn.__init__" => some f_Inn___init__
    | "Inn.turn" => some f_Inn_turn
    | "Inn.twos" => some f_Inn_twos
    | "Inn.table" => some f_Inn_table
    | _ => none
  glob := fun x => match x with
    | "MOST_GUESTS" => some (.int 6)
    | _ => none

end Mine

namespace Mine
open PySem

theorem no_ns {α : Type} {x : α} {p : Prop} (h : (none : Option α) = some x) : p := nomatch h
theorem clash {α : Type} {o : Option α} {x : α} {p : Prop} (h : o = some x) (h' : o = none) : p := no_ns (h'.symm.trans h)

theorem ofString_inj {a b : String} (h : Str.ofString a = Str.ofString b) : a = b := by
  rw [Str.ofString_eq_toList, Str.ofString_eq_toList] at h
  have h1 : a.toList.map Char.toNat = b.toList.map Char.toNat := by
    have := congrArg (fun s : Str => s.cps.toList) h
    simpa using this
  have h2 : a.toList = b.toList := by
    refine List.map_inj_right ?_ |>.mp h1
    intro x y e
    exact Char.ext (UInt32.toNat_inj.mp e)
  exact String.toList_inj.mp h2

theorem ofString_ne {a b : String} (h : a ≠ b) : Str.ofString a ≠ Str.ofString b := fun e => h (ofString_inj e)

inductive All2 {α β : Type} (R : α → β → Prop) : List α → List β → Prop where
  | nil : All2 R [] []
  | cons {a b as bs} : R a b → All2 R as bs → All2 R (a :: as) (b :: bs)

namespace All2
variable {α β : Type} {R S : α → β → Prop}
theorem length {as : List α} {bs : List β} (h : All2 R as bs) : as.length = bs.length := by
  induction h with
  | nil => rfl
  | cons _ _ ih => simp [ih]
theorem mono (hRS : ∀ a b, R a b → S a b) {as : List α} {bs : List β} (h : All2 R as bs) : All2 S as bs := by
  induction h with
  | nil => exact .nil
  | cons h _ ih => exact .cons (hRS _ _ h) ih
theorem append {as as' : List α} {bs bs' : List β} (h : All2 R as bs) (h' : All2 R as' bs') : All2 R (as ++ as') (bs ++ bs') := by
  induction h with
  | nil => exact h'
  | cons h _ ih => exact .cons h ih
theorem get {as : List α} {bs : List β} (h : All2 R as bs) {i : Nat} {a : α} (e : as[i]? = some a) : ∃ b, bs[i]? = some b ∧ R a b := by
  induction h generalizing i with
  | nil => simp at e
  | cons h _ ih =>
    cases i with
    | zero => simp at e; subst e; exact ⟨_, rfl, h⟩
    | succ i => simpa using ih (by simpa using e)
theorem get' {as : List α} {bs : List β} (h : All2 R as bs) {i : Nat} {b : β} (e : bs[i]? = some b) : ∃ a, as[i]? = some a ∧ R a b := by
  induction h generalizing i with
  | nil => simp at e
  | cons h _ ih =>
    cases i with
    | zero => simp at e; subst e; exact ⟨_, rfl, h⟩
    | succ i => simpa using ih (by simpa using e)
theorem set {as : List α} {bs : List β} (h : All2 R as bs) (i : Nat) {a : α} {b : β} (hab : R a b) : All2 R (as.set i a) (bs.set i b) := by
  induction h generalizing i with
  | nil => exact .nil
  | cons h t ih =>
    cases i with
    | zero => exact .cons hab t
    | succ i => exact .cons h (ih i)
theorem take {as : List α} {bs : List β} (h : All2 R as bs) (i : Nat) : All2 R (as.take i) (bs.take i) := by
  induction h generalizing i with
  | nil => simp; exact .nil
  | cons h t ih =>
    cases i with
    | zero => exact .nil
    | succ i => exact .cons h (ih i)
theorem drop {as : List α} {bs : List β} (h : All2 R as bs) (i : Nat) : All2 R (as.drop i) (bs.drop i) := by
  induction h generalizing i with
  | nil => simp; exact .nil
  | cons h t ih =>
    cases i with
    | zero => exact .cons h t
    | succ i => exact ih i
theorem eraseIdx {as : List α} {bs : List β} (h : All2 R as bs) (i : Nat) : All2 R (as.eraseIdx i) (bs.eraseIdx i) := by
  induction h generalizing i with
  | nil => exact .nil
  | cons h t ih =>
    cases i with
    | zero => exact t
    | succ i => exact .cons h (ih i)
theorem reverse {as : List α} {bs : List β} (h : All2 R as bs) : All2 R as.reverse bs.reverse := by
  induction h with
  | nil => exact .nil
  | cons h t ih => rw [List.reverse_cons, List.reverse_cons]; exact ih.append (.cons h .nil)
theorem replicate {a : α} {b : β} (h : R a b) (n : Nat) : All2 R (List.replicate n a) (List.replicate n b) := by
  induction n with
  | zero => exact .nil
  | succ n ih => exact .cons h ih
theorem mem' {as : List α} {bs : List β} (h : All2 R as bs) {b : β} (hb : b ∈ bs) : ∃ a ∈ as, R a b := by
  induction h with
  | nil => simp at hb
  | cons h t ih =>
    rcases List.mem_cons.mp hb with rfl | hb
    · exact ⟨_, List.mem_cons_self, h⟩
    · obtain ⟨a, ha, hr⟩ := ih hb; exact ⟨a, List.mem_cons_of_mem _ ha, hr⟩
end All2

inductive VR (β : List Addr) : V → Value → Prop where
  | none : VR β .none .none
  | bool (b : Bool) : VR β (.bool b) (.bool b)
  | int (i : Int) (t : Tok) : VR β (.int i) (.int i t)
  | str (s : Str) (t : Tok) : VR β (.str s) (.str s t)
  | ref {a : Nat} {r : Addr} : β[a]? = some r → VR β (.ref a) (.ref r)

abbrev VRs (β : List Addr) := All2 (VR β)

theorem VR.mono {β β' : List Addr} (hp : β <+: β') {v : V} {u : Value} (h : VR β v u) : VR β' v u := by
  cases h with
  | none => exact .none
  | bool b => exact .bool b
  | int i t => exact .int i t
  | str s t => exact .str s t
  | ref e =>
    obtain ⟨t, rfl⟩ := hp
    refine .ref ?_
    rw [List.getElem?_append_left (List.getElem?_eq_some_iff.mp e).1]; exact e
theorem VRs.mono {β β' : List Addr} (hp : β <+: β') {v : List V} {u : List Value} (h : VRs β v u) : VRs β' v u := All2.mono (fun _ _ => VR.mono hp) h

/-- an object of the mini heap and the model's object -/
inductive OR (β : List Addr) : O → Obj → Prop where
  | list {xs : List V} {us : List Value} {n : Nat} : VRs β xs us → xs.length ≤ lim → OR β (.list xs) { cls := .type "list", data := .seq us.toArray n }
  | tuple {xs : List V} {us : List Value} {n : Nat} : VRs β xs us → xs.length ≤ lim → OR β (.tuple xs) { cls := .type "tuple", data := .seq us.toArray n }

theorem OR.mono {β β' : List Addr} (hp : β <+: β') {o : O} {ob : Obj} (h : OR β o ob) : OR β' o ob := by
  cases h with
  | list h l => exact .list (VRs.mono hp h) l
  | tuple h l => exact .tuple (VRs.mono hp h) l

theorem pre_at {α : Type} {l l' : List α} (hp : l <+: l') {i : Nat} {x : α} (h : l[i]? = some x) : l'[i]? = some x := by
  obtain ⟨t, rfl⟩ := hp
  rw [List.getElem?_append_left (List.getElem?_eq_some_iff.mp h).1]; exact h
/-- an object's names -/
structure FR (β : List Addr) (fs : List (String × V)) (m : Str → Option Value) : Prop where
  val : ∀ n v, fs.lookup n = some v → ∃ u, m (Str.ofString n) = some u ∧ VR β v u
  only : ∀ y, m y ≠ none → ∃ n ∈ attrNames, y = Str.ofString n
theorem FR.mono {β β' : List Addr} (hp : β <+: β') {fs : List (String × V)} {m : Str → Option Value} (x : FR β fs m) : FR β' fs m :=
  ⟨fun n v h => let ⟨u, a, b⟩ := x.val n v h; ⟨u, a, b.mono hp⟩, x.only⟩
inductive Slot1 (h₀ h : Heap) (β : List Addr) : O → Addr → Prop where
  | frozen {xs : List V} {us : List Value} {r : Addr} {ob : Obj} {n : Nat} : h₀.get? r = some ob → ob.cls = .type "list" → ob.data = .seq us.toArray n → VRs β xs us → xs.length ≤ lim → Slot1 h₀ h β (.frozen xs) r
  | own {o : O} {r : Addr} {ob : Obj} : h₀.get? r = Option.none → h.get? r = some ob → OR β o ob → Slot1 h₀ h β o r
  | inst {d : Nat} {r dx C : Addr} {ob : Obj} {mgl : Str → Option Value} : h₀.get? r = Option.none → β[d]? = some dx → dx ≠ r → h.get? r = some ob → ob.cls = .ref C → h₀.Ns mainGlobals mgl → mgl (Str.ofString "Inn") = some (.ref C) → ob.dict = some dx → (∀ cd, ob.data ≠ .cls cd) → Slot1 h₀ h β (.inst "Inn" d) r
  | fdict {fs : List (String × V)} {r : Addr} {m : Str → Option Value} : h₀.get? r = Option.none → h.Ns1 r m → FR β fs m → Slot1 h₀ h β (.fdict fs) r

theorem Slot1.at {h₀ h h' : Heap} {β : List Addr} {o : O} {r : Addr} (x : Slot1 h₀ h β o r) (hk : ∀ ob, h.get? r = some ob → h'.get? r = some ob) : Slot1 h₀ h' β o r := by
  cases x with
  | frozen a b c d e => exact .frozen a b c d e
  | own a b c => exact .own a (hk _ b) c
  | inst a b c d e f g i j => exact .inst a b c (hk _ d) e f g i j
  | fdict a b c => exact .fdict a (b.at fun o q => hk o q) c

/-- a shared state bears a mini heap, above a base heap -/
structure SR (h₀ : Heap) (β : List Addr) (H : Hp) (h : Heap) : Prop where
  kept : ∀ b o, h₀.get? b = some o → h.get? b = some o
  nodup : β.Nodup
  objs : All2 (Slot1 h₀ h β) H β

/-- an object as it was, or a table of names with other slots -/
noncomputable def KS (o o' : Obj) : Prop := o' = o ∨ ((∃ es ep, o.data = .dict es ep) ∧ ∃ sl, o' = { o with slots := sl })
theorem KS.refl (o : Obj) : KS o o := .inl rfl
theorem KS.data {o o' : Obj} (h : KS o o') : o'.data = o.data := by
  rcases h with rfl | ⟨_, sl, rfl⟩ <;> rfl
theorem KS.trans {a b c : Obj} (h : KS a b) (h' : KS b c) : KS a c := by
  rcases h with rfl | ⟨hd, sl, rfl⟩
  · exact h'
  · rcases h' with rfl | ⟨_, sl', rfl⟩
    · exact .inr ⟨hd, sl, rfl⟩
    · exact .inr ⟨hd, sl', rfl⟩
theorem KS.exact {o o' : Obj} (h : KS o o') (hd : ∀ es ep, o.data ≠ .dict es ep) : o' = o := by
  rcases h with rfl | ⟨⟨es, ep, e⟩, _⟩
  · rfl
  · exact absurd e (hd es ep)
/-- what stood at b stands there still -/
noncomputable def KAt (h h' : Heap) (b : Addr) : Prop := ∀ o, h.get? b = some o → ∃ o', h'.get? b = some o' ∧ KS o o'
theorem KAt.of {h h' : Heap} {b : Addr} (k : ∀ o, h.get? b = some o → h'.get? b = some o) : KAt h h' b := fun o e => ⟨o, k o e, KS.refl o⟩
theorem KAt.trans {h h' h'' : Heap} {b : Addr} (x : KAt h h' b) (y : KAt h' h'' b) : KAt h h'' b := fun o e =>
  let ⟨o1, e1, k1⟩ := x o e; let ⟨o2, e2, k2⟩ := y o1 e1; ⟨o2, e2, k1.trans k2⟩
theorem KAt.exact {h h' : Heap} {b : Addr} (x : KAt h h' b) {o : Obj} (e : h.get? b = some o) (hd : ∀ es ep, o.data ≠ .dict es ep) : h'.get? b = some o := by
  obtain ⟨o', e', k⟩ := x o e
  rw [e', k.exact hd]
theorem KAt.live {h h' : Heap} {b : Addr} (x : KAt h h' b) (e : ∃ o, h.get? b = some o) : ∃ o, h'.get? b = some o :=
  let ⟨o, e⟩ := e; let ⟨o', e', _⟩ := x o e; ⟨o', e'⟩

structure Step (β : List Addr) (s : Shared) (β' : List Addr) (s' : Shared) : Prop where
  same : ∃ h tk, s' = { s with heap := h, toks := tk }
  grow : β <+: β'
  keep : ∀ b, b ∉ β → KAt s.heap s'.heap b
  fresh : ∀ b ∈ β', b ∈ β ∨ s.heap.get? b = Option.none

theorem Step.refl (β : List Addr) (s : Shared) : Step β s β s := ⟨⟨s.heap, s.toks, rfl⟩, List.prefix_refl _, fun _ _ => .of fun _ e => e, fun _ hb => .inl hb⟩
theorem Step.toks (β : List Addr) (s : Shared) (t : Nat) : Step β s β { s with toks := t } := ⟨⟨s.heap, t, rfl⟩, List.prefix_refl _, fun _ _ => .of fun _ e => e, fun _ hb => .inl hb⟩
theorem Step.trans {β₁ β₂ β₃ : List Addr} {s₁ s₂ s₃ : Shared} (x : Step β₁ s₁ β₂ s₂) (y : Step β₂ s₂ β₃ s₃) : Step β₁ s₁ β₃ s₃ := by
  obtain ⟨⟨h, t, rfl⟩, g, k, f⟩ := x
  obtain ⟨⟨h', t', rfl⟩, g', k', f'⟩ := y
  refine ⟨⟨h', t', rfl⟩, g.trans g', fun b hb o e => (KAt.trans (k b hb) (k' b fun hm => ?_)) o e, fun b hb => ?_⟩
  · rcases f b hm with q | q
    · exact hb q
    · rw [e] at q; cases q
  · rcases f' b hb with q | q
    · exact f b q
    · by_cases hm : b ∈ β₁
      · exact .inl hm
      · refine .inr ?_
        cases e : s₁.heap.get? b with
        | none => rfl
        | some o => obtain ⟨o', e', _⟩ := k b hm o e; rw [e'] at q; cases q

theorem Step.of_heap {β : List Addr} {s : Shared} {h : Heap} {tk : Nat} (hk : ∀ b o, s.heap.get? b = some o → h.get? b = some o) : Step β s β { s with heap := h, toks := tk } :=
  ⟨⟨h, tk, rfl⟩, List.prefix_refl _, fun b _ => .of fun o e => hk b o e, fun _ hb => .inl hb⟩

/-- the heap only grew beside the objects of the mini heap -/
theorem SR.keeps {h₀ h h' : Heap} {β : List Addr} {H : Hp} (x : SR h₀ β H h) (hk : ∀ b o, h.get? b = some o → h'.get? b = some o) : SR h₀ β H h' :=
  ⟨fun b o e => hk _ _ (x.kept b o e), x.nodup, x.objs.mono fun _ _ hr => hr.at fun _ e => hk _ _ e⟩

theorem SR.mem {h₀ h : Heap} {β : List Addr} {H : Hp} (x : SR h₀ β H h) {b : Addr} (hb : b ∈ β) : ∃ o, h.get? b = some o := by
  obtain ⟨o, _, hr⟩ := x.objs.mem' hb
  cases hr with
  | frozen a _ _ _ _ => exact ⟨_, x.kept _ _ a⟩
  | own _ b _ => exact ⟨_, b⟩
  | inst _ _ _ d _ _ _ _ _ => exact ⟨_, d⟩
  | fdict _ b _ => obtain ⟨o, _, _, e, _⟩ := b; exact ⟨o, e⟩

theorem Slot1.grow {h₀ h : Heap} {β β' : List Addr} (hp : β <+: β') {o : O} {r : Addr} (x : Slot1 h₀ h β o r) : Slot1 h₀ h β' o r := by
  cases x with
  | frozen a b c d e => exact .frozen a b c (VRs.mono hp d) e
  | own a b c => exact .own a b (c.mono hp)
  | inst a b c d e f g i j => exact .inst a (pre_at hp b) c d e f g i j
  | fdict a b c => exact .fdict a b (c.mono hp)

/-- a new object -/
theorem SR.pushS {h₀ h h' : Heap} {β : List Addr} {H : Hp} (x : SR h₀ β H h) {r : Addr} {o : O} (hr : h.get? r = Option.none) (hk : ∀ b o, h.get? b = some o → h'.get? b = some o)
    (ho : h₀.get? r = Option.none → Slot1 h₀ h' (β ++ [r]) o r) : SR h₀ (β ++ [r]) (H ++ [o]) h' := by
  have hp : β <+: β ++ [r] := List.prefix_append _ _
  have y := x.keeps hk
  have hrb : r ∉ β := fun hm => by obtain ⟨o, e⟩ := x.mem hm; rw [hr] at e; cases e
  refine ⟨y.kept, ?_, (y.objs.mono fun _ _ => Slot1.grow hp).append (.cons (ho ?_) .nil)⟩
  · rw [List.nodup_append]
    refine ⟨x.nodup, by simp, fun a ha b hb => ?_⟩
    simp at hb; subst hb; rintro rfl; exact hrb ha
  · cases e : h₀.get? r with
    | none => rfl
    | some o => rw [x.kept _ _ e] at hr; cases hr
theorem SR.push {h₀ h h' : Heap} {β : List Addr} {H : Hp} (x : SR h₀ β H h) {r : Addr} {o : O} {ob : Obj} (hr : h.get? r = Option.none) (hk : ∀ b o, h.get? b = some o → h'.get? b = some o) (hg : h'.get? r = some ob)
    (ho : OR (β ++ [r]) o ob) : SR h₀ (β ++ [r]) (H ++ [o]) h' := x.pushS hr hk fun hn => .own hn hg ho

theorem SR.len {h₀ h : Heap} {β : List Addr} {H : Hp} (x : SR h₀ β H h) : H.length = β.length := x.objs.length

/-- an own object changed -/
theorem SR.updS {h₀ h h' : Heap} {β : List Addr} {H : Hp} (x : SR h₀ β H h) {a : Nat} {r : Addr} {o' : O} (hr : β[a]? = some r) (hn : h₀.get? r = Option.none)
    (hk : ∀ b o, b ≠ r → h.get? b = some o → h'.get? b = some o) (ho : Slot1 h₀ h' β o' r) : SR h₀ β (H.set a o') h' := by
  refine ⟨fun b q e => ?_, x.nodup, ?_⟩
  · have : b ≠ r := by rintro rfl; rw [hn] at e; cases e
    exact hk b q this (x.kept b q e)
  · have key : ∀ (H : Hp) (γ : List Addr), All2 (Slot1 h₀ h β) H γ → γ.Nodup → ∀ a, γ[a]? = some r → All2 (Slot1 h₀ h' β) (H.set a o') γ := by
      intro H γ hA
      induction hA with
      | nil => intro _ a e; simp at e
      | @cons o1 r1 os rs h1 t ih =>
        intro hnd a e
        rw [List.nodup_cons] at hnd
        have other : ∀ {o : O} {b : Addr}, b ≠ r → Slot1 h₀ h β o b → Slot1 h₀ h' β o b := fun hb q => q.at fun _ e => hk _ _ hb e
        cases a with
        | zero =>
          simp at e; subst e
          refine .cons ho ?_
          have : ∀ (os : Hp) (rs : List Addr), All2 (Slot1 h₀ h β) os rs → r1 ∉ rs → All2 (Slot1 h₀ h' β) os rs := by
            intro os rs q
            induction q with
            | nil => intro _; exact .nil
            | cons q1 _ ih => intro hm; simp at hm; exact .cons (other (Ne.symm hm.1) q1) (ih hm.2)
          exact this _ _ t hnd.1
        | succ a =>
          have e' : rs[a]? = some r := by simpa using e
          have : r1 ≠ r := by rintro rfl; exact hnd.1 (List.mem_of_getElem? e')
          exact .cons (other this h1) (ih hnd.2 a e')
    exact key H β x.objs x.nodup a hr
theorem SR.upd {h₀ h h' : Heap} {β : List Addr} {H : Hp} (x : SR h₀ β H h) {a : Nat} {r : Addr} {o o' : O} {ob : Obj} (_ha : H[a]? = some o) (hr : β[a]? = some r) (hn : h₀.get? r = Option.none)
    (hk : ∀ b, b ≠ r → h'.get? b = h.get? b) (hg : h'.get? r = some ob) (ho : OR β o' ob) : SR h₀ β (H.set a o') h' := x.updS hr hn (fun b o hb e => (hk b hb).trans e) (.own hn hg ho)

/-- the frame: what the names hold -/
structure ER (env : PySem.Env) (ρ : Env) (β : List Addr) (h : Heap) : Prop where
  kind : env.scope.kind = .function
  glob : env.globals = mainGlobals
  bltn : env.builtins = builtinsNs
  ns : ∃ m, h.Ns env.locals m ∧ ∀ x v, ρ x = some v → env.kindOf (Str.ofString x) = some .local → Str.ofString x ≠ (".0" : Str) → ∃ u, m (Str.ofString x) = some u ∧ VR β v u
  cell : ∀ x c, env.cells.lookup x = some c → ∃ u, h.IsCell c u
  held : ∀ x v, ρ x = some v → env.kindOf (Str.ofString x) = some .cell ∨ env.kindOf (Str.ofString x) = some .free → ∃ c u, env.cells.lookup (Str.ofString x) = some c ∧ h.IsCell c (some u) ∧ VR β v u
  has : ∀ x : Str, env.kindOf x = some .cell ∨ env.kindOf x = some .free → ∃ c, env.cells.lookup x = some c
  apart : ∀ x y c, env.cells.lookup x = some c → env.cells.lookup y = some c → x = y
  locs : env.locals ∉ β
  cells : ∀ x c, env.cells.lookup x = some c → c ∉ β ∧ c ≠ env.locals

theorem Heap_IsCell_at {h h' : Heap} {c : Addr} {v : Option Value} (x : h.IsCell c v) (hk : KAt h h' c) : h'.IsCell c v :=
  let ⟨o, ho, hd⟩ := x; let ⟨o', ho', k⟩ := hk o ho; ⟨o', ho', k.data.trans hd⟩
theorem Heap_Ns_at {h h' : Heap} {c : Addr} {m : Str → Option Value} (x : h.Ns c m) (hk : KAt h h' c) : h'.Ns c m :=
  let ⟨o, es, ep, e, hd, r⟩ := x; let ⟨o', e', k⟩ := hk o e; ⟨o', es, ep, e', k.data.trans hd, r⟩

theorem ER.step {env : PySem.Env} {ρ : Env} {β β' : List Addr} {s s' : Shared} (x : ER env ρ β s.heap) (t : Step β s β' s') : ER env ρ β' s'.heap := by
  obtain ⟨m, hn, hm⟩ := x.ns
  have notin : ∀ b, b ∉ β → (∃ o, s.heap.get? b = some o) → b ∉ β' := fun b hb ⟨o, e⟩ hm => by
    rcases t.fresh b hm with q | q
    · exact hb q
    · rw [e] at q; cases q
  refine ⟨x.kind, x.glob, x.bltn, ⟨m, Heap_Ns_at hn (t.keep _ x.locs), fun y v hv hk hd => ?_⟩, fun y c hc => ?_, fun y v hv hk => ?_, x.has, x.apart, ?_, fun y c hc => ⟨?_, (x.cells y c hc).2⟩⟩
  · obtain ⟨u, hu, hr⟩ := hm y v hv hk hd; exact ⟨u, hu, hr.mono t.grow⟩
  · obtain ⟨u, hu⟩ := x.cell y c hc; exact ⟨u, Heap_IsCell_at hu (t.keep _ (x.cells y c hc).1)⟩
  · obtain ⟨c, u, hc, hu, hr⟩ := x.held y v hv hk; exact ⟨c, u, hc, Heap_IsCell_at hu (t.keep _ (x.cells _ c hc).1), hr.mono t.grow⟩
  · obtain ⟨o, _, _, e, _⟩ := hn; exact notin _ x.locs ⟨o, e⟩
  · obtain ⟨u, o, e, _⟩ := x.cell y c hc; exact notin _ (x.cells y c hc).1 ⟨o, e⟩

end Mine

namespace Mine
open PySem

section
variable {prog : Program} {w : World} {A : Around} {E : Value → Shared → Prop} {s : Shared} {h₀ : Heap} {β : List Addr} {H H' : Hp} {v : V} {Q : Value → Shared → Prop}

/-- what is known behind a word -/
noncomputable def Cont (h₀ : Heap) (β : List Addr) (s : Shared) (v : V) (H' : Hp) (Q : Value → Shared → Prop) : Prop :=
  ∀ u s' β', Step β s β' s' → SR h₀ β' H' s'.heap → VR β' v u → Q u s'

theorem Cont.same {u : Value} {t : Nat} (k : Cont h₀ β s v H Q) (sr : SR h₀ β H s.heap) (vr : VR β v u) : Q u { s with toks := t } :=
  k u _ β (Step.toks β s t) sr vr
theorem Cont.here {u : Value} (k : Cont h₀ β s v H Q) (sr : SR h₀ β H s.heap) (vr : VR β v u) : Q u s :=
  k u _ β (Step.refl β s) sr vr

/-- a new object -/
theorem Cont.new {o : O} {ob : Obj} {t : Nat} (k : Cont h₀ β s (.ref H.length) (H ++ [o]) Q) (sr : SR h₀ β H s.heap) (ho : OR β o ob) (hf : ob.isFreed = false) :
    Q (.ref s.heap.objs.size) { s with heap := s.heap.push ob, toks := t } := by
  have hn : s.heap.get? s.heap.objs.size = Option.none := by
    cases e : s.heap.get? s.heap.objs.size with
    | none => rfl
    | some o => exact absurd (Heap.lt_size e) (Nat.lt_irrefl _)
  have hp : β <+: β ++ [s.heap.objs.size] := List.prefix_append _ _
  refine k _ _ (β ++ [s.heap.objs.size]) ⟨⟨_, _, rfl⟩, hp, fun b _ => .of fun o e => Heap.get?_push_of_some _ e, fun b hb => ?_⟩
    (sr.push hn (fun b o e => Heap.get?_push_of_some _ e) (Heap.get?_push_size _ hf) (ho.mono hp)) (.ref ?_)
  · rcases List.mem_append.mp hb with q | q
    · exact .inl q
    · simp at q; subst q; exact .inr hn
  · rw [sr.len]; simp

theorem Cont.new0 {o : O} {ob : Obj} (k : Cont h₀ β s (.ref H.length) (H ++ [o]) Q) (sr : SR h₀ β H s.heap) (ho : OR β o ob) (hf : ob.isFreed = false) :
    Q (.ref s.heap.objs.size) { s with heap := s.heap.push ob } := Cont.new (t := s.toks) k sr ho hf

/-- an object of the mini heap, in the model -/
theorem SR.at (x : SR h₀ β H s.heap) {a : Nat} {o : O} (ha : H[a]? = some o) : ∃ r, β[a]? = some r ∧ Slot1 h₀ s.heap β o r := x.objs.get ha

theorem SR.list (x : SR h₀ β H s.heap) {a : Nat} {r : Addr} {xs : List V} (ha : H[a]? = some (.list xs)) (hr : β[a]? = some r) :
    ∃ us n, h₀.get? r = Option.none ∧ s.heap.get? r = some { cls := .type "list", data := .seq us.toArray n } ∧ VRs β xs us ∧ xs.length ≤ lim := by
  obtain ⟨r', e, sl⟩ := x.at ha
  (first | exact clash hr e | exact clash e hr | (rw [hr] at e; cases e))
  cases sl with
  | own a b c => cases c with | list p q => exact ⟨_, _, a, b, p, q⟩

theorem SR.seq (x : SR h₀ β H s.heap) {a : Nat} {r : Addr} {xs : List V} (ha : seqOf H a = some xs) (hr : β[a]? = some r) :
    ∃ us n ob, s.heap.get? r = some ob ∧ (ob.cls = .type "list" ∨ ob.cls = .type "tuple") ∧ ob.data = .seq us.toArray n ∧ VRs β xs us ∧ xs.length ≤ lim := by
  unfold seqOf at ha
  split at ha
  · rename_i ys e; cases ha
    obtain ⟨us, n, _, b, c, d⟩ := x.list e hr
    exact ⟨us, n, _, b, .inl rfl, rfl, c, d⟩
  · rename_i ys e; cases ha
    obtain ⟨r', e', sl⟩ := x.at e
    (first | exact clash hr e' | exact clash e' hr | (rw [hr] at e'; cases e'))
    cases sl with
    | frozen a b c d l => exact ⟨_, _, _, x.kept _ _ a, .inl b, c, d, l⟩
    | own a b c => cases c
  · rename_i ys e; cases ha
    obtain ⟨r', e', sl⟩ := x.at e
    (first | exact clash hr e' | exact clash e' hr | (rw [hr] at e'; cases e'))
    cases sl with
    | own a b c => cases c with | tuple p q => exact ⟨_, _, _, b, .inr rfl, rfl, p, q⟩
  · cases ha

theorem lim_lt (n : Nat) (h : n ≤ lim) : (n : Int) < 2 ^ 63 := by unfold lim at h; omega
theorem lim_line (n : Nat) (h : n ≤ lim) : n ≤ sizeLine := by unfold lim at h; unfold sizeLine; omega

theorem p_sub {a b : Int} {t u : Tok} (k : Cont h₀ β s (.int (a - b)) H Q) (sr : SR h₀ β H s.heap) : wpAny (model prog w) A (binaryOp .Sub (.int a t) (.int b u)) Q E s :=
  P.sub_int (k.same sr (.int _ _))
theorem p_neg {a : Int} {t : Tok} (k : Cont h₀ β s (.int (-a)) H Q) (sr : SR h₀ β H s.heap) : wpAny (model prog w) A (unaryOp .USub (.int a t)) Q E s :=
  P.neg_int (k.same sr (.int _ _))
theorem p_mod {a b : Int} {t u : Tok} (hb : b ≠ 0) (k : Cont h₀ β s (.int (a.fmod b)) H Q) (sr : SR h₀ β H s.heap) : wpAny (model prog w) A (binaryOp .Mod (.int a t) (.int b u)) Q E s :=
  PyProof.Rows.mod_int' hb (k.same sr (.int _ _))
theorem p_fdiv {a b : Int} {t u : Tok} (hb : b ≠ 0) (hs : b.natAbs < 2 ^ 30) (k : Cont h₀ β s (.int (a.fdiv b)) H Q) (sr : SR h₀ β H s.heap) : wpAny (model prog w) A (binaryOp .FloorDiv (.int a t) (.int b u)) Q E s :=
  PyProof.Rows.floordiv_int hb (k.same sr (.int _ _)) (.inl (PyProof.noPylong_small (by omega)))
theorem p_addI {a b : Int} {t u : Tok} (k : Cont h₀ β s (.int (a + b)) H Q) (sr : SR h₀ β H s.heap) : wpAny (model prog w) A (binaryOp .Add (.int a t) (.int b u)) Q E s :=
  P.add_int (k.same sr (.int _ _))


theorem p_mulI {a b : Int} {t u : Tok} (ha : a.natAbs < 2 ^ 30) (k : Cont h₀ β s (.int (a * b)) H Q) (sr : SR h₀ β H s.heap) : wpAny (model prog w) A (binaryOp .Mult (.int a t) (.int b u)) Q E s :=
  P.mul_int (k.same sr (.int _ _)) (.of_left (by
    unfold Builtin.Int.intBits
    split
    · omega
    · have : a.natAbs.log2 < 30 := by
        rcases Nat.eq_zero_or_pos a.natAbs with h | h
        · rw [h]; decide
        · exact (Nat.log2_lt (Nat.pos_iff_ne_zero.mp h)).mpr ha
      omega))

theorem p_addS {x y : Str} {t u : Tok} (hs : x.cps.size + y.cps.size ≤ lim) (k : Cont h₀ β s (.str (x ++ y)) H Q) (sr : SR h₀ β H s.heap) : wpAny (model prog w) A (binaryOp .Add (.str x t) (.str y u)) Q E s :=
  PyProof.Rows.add_str (fun _ _ => k.same sr (.str _ _)) (lim_line _ hs)

theorem p_addL {a b : Nat} {ra rb : Addr} {xs ys : List V} (ha : H[a]? = some (.list xs)) (hb : H[b]? = some (.list ys)) (hra : β[a]? = some ra) (hrb : β[b]? = some rb) (hs : xs.length + ys.length ≤ lim)
    (k : Cont h₀ β s (.ref H.length) (H ++ [.list (xs ++ ys)]) Q) (sr : SR h₀ β H s.heap) : wpAny (model prog w) A (binaryOp .Add (.ref ra) (.ref rb)) Q E s := by
  obtain ⟨us, n, _, ea, va, _⟩ := sr.list ha hra
  obtain ⟨ws, m, _, eb, vb, _⟩ := sr.list hb hrb
  refine P.add_list (items := us.toArray) (items2 := ws.toArray) ea eb ?_ (by rw [List.size_toArray, List.size_toArray, ← va.length, ← vb.length]; exact lim_line _ hs)
  exact k.new0 sr (by rw [List.append_toArray]; exact .list (va.append vb) (by rw [List.length_append]; exact hs)) rfl

theorem foldl_replicate (x : Value) : ∀ n : Nat, List.foldl (fun x1 x2 : Array Value => x1 ++ x2) #[] (List.replicate n #[x]) = (List.replicate n x).toArray := by
  have key : ∀ (n : Nat) (acc : Array Value), List.foldl (fun x1 x2 : Array Value => x1 ++ x2) acc (List.replicate n #[x]) = acc ++ (List.replicate n x).toArray := by
    intro n
    induction n with
    | zero => intro acc; simp
    | succ n ih =>
      intro acc
      rw [List.replicate_succ, List.foldl_cons, ih, Array.append_assoc]
      congr 1
      simp [List.replicate_succ]
  intro n
  rw [key]; simp

theorem p_mulL {a : Nat} {ra : Addr} {x : V} {n : Int} {t : Tok} (ha : H[a]? = some (.list [x])) (hra : β[a]? = some ra) (hs : n.natAbs ≤ lim)
    (k : Cont h₀ β s (.ref H.length) (H ++ [.list (List.replicate n.toNat x)]) Q) (sr : SR h₀ β H s.heap) : wpAny (model prog w) A (binaryOp .Mult (.ref ra) (.int n t)) Q E s := by
  obtain ⟨us, m, _, ea, va, _⟩ := sr.list ha hra
  cases va with
  | cons hx hr =>
    cases hr
    rename_i ux
    have hl : n.natAbs ≤ 100000 := hs
    refine wpAny_binaryOp_repeat_ref (T := "list") (U := "int") (by decide) ⟨_, ea, rfl⟩ (fun s' => typeIs_int s' n t) noFill_list_mul F.fills_int_mul F.slot_int_rmul repeat_list F.slot_int_index.lookup
      (call_meets F.slot_int_rmul (typeIs_int s n t) F.entry_int_rmul (F.args_int_rmul_2 _ _) (int___rmul___int_list n t ra #[ux] m)
        ⟨ea, rfl, ⟨_, ea, rfl⟩, call_meets F.slot_list_mul ⟨_, ea, rfl⟩ F.entry_list_mul (F.args_list_mul_2 _ _)
          (AutoListH.list___mul___list_int_3 ra #[ux] m n t (by simp [Builtin.List.listFitsIndex]; omega) (by simp; omega) (by simp [Builtin.List.listTooLong, sizeLine]; omega))
          ⟨ea, ?_⟩⟩)
    refine k.new0 sr ?_ rfl
    have : (if (#[ux] : Array Value).isEmpty = true then 0 else n.toNat) = n.toNat := by simp
    rw [this, foldl_replicate]
    exact .list (All2.replicate hx _) (by rw [List.length_replicate]; unfold lim; omega)

theorem p_lt {a b : Int} {t u : Tok} (k : Cont h₀ β s (.bool (decide (a < b))) H Q) (sr : SR h₀ β H s.heap) : wpAny (model prog w) A (compareOp .Lt (.int a t) (.int b u)) Q E s := P.lt_int (k.here sr (.bool _))
theorem p_le {a b : Int} {t u : Tok} (k : Cont h₀ β s (.bool (decide (a ≤ b))) H Q) (sr : SR h₀ β H s.heap) : wpAny (model prog w) A (compareOp .LtE (.int a t) (.int b u)) Q E s := P.le_int (k.here sr (.bool _))
theorem p_gt {a b : Int} {t u : Tok} (k : Cont h₀ β s (.bool (decide (b < a))) H Q) (sr : SR h₀ β H s.heap) : wpAny (model prog w) A (compareOp .Gt (.int a t) (.int b u)) Q E s := P.gt_int (k.here sr (.bool _))
theorem p_ge {a b : Int} {t u : Tok} (k : Cont h₀ β s (.bool (decide (b ≤ a))) H Q) (sr : SR h₀ β H s.heap) : wpAny (model prog w) A (compareOp .GtE (.int a t) (.int b u)) Q E s := P.ge_int (k.here sr (.bool _))

theorem p_lenS {x : Str} {t : Tok} (hs : x.cps.size ≤ lim) (k : Cont h₀ β s (.int x.cps.size) H Q) (sr : SR h₀ β H s.heap) : wpAny (model prog w) A (call (.builtin "len") [.str x t]) Q E s :=
  PyProof.Rows.len_str (by have := lim_lt _ hs; unfold Str.length; omega) (k.same sr (.int _ _))

theorem SR.isSeq (x : SR h₀ β H s.heap) {a : Nat} {r : Addr} {xs : List V} (ha : seqOf H a = some xs) (hr : β[a]? = some r) :
    ∃ us, (s.heap.IsList r us.toArray ∨ PyProof.Rows.IsTup s.heap r us.toArray) ∧ VRs β xs us ∧ xs.length ≤ lim := by
  obtain ⟨us, n, ob, e, hc, hd, vr, hl⟩ := x.seq ha hr
  exact ⟨us, hc.imp (fun c => ⟨ob, e, c, n, hd⟩) (fun c => ⟨ob, e, c, n, hd⟩), vr, hl⟩

theorem p_lenL {a : Nat} {r : Addr} {xs : List V} (ha : seqOf H a = some xs) (hr : β[a]? = some r) (k : Cont h₀ β s (.int xs.length) H Q) (sr : SR h₀ β H s.heap) :
    wpAny (model prog w) A (call (.builtin "len") [.ref r]) Q E s := by
  obtain ⟨us, hq, vr, hl⟩ := sr.isSeq ha hr
  have hlen := vr.length
  have hsz : (us.toArray.size : Int) = xs.length := by rw [List.size_toArray, hlen]
  have hfit := lim_lt _ hl
  rcases hq with hq | hq
  · exact Calls.call_len_list hq (by omega) (by rw [hsz]; exact k.same sr (.int _ _))
  · exact PyProof.Rows.len_tuple hq (by omega) (by rw [hsz]; exact k.same sr (.int _ _))

theorem normIdx_some {i : Int} {n k : Nat} (h : normIdx i n = some k) : (0 ≤ i ∧ i < n ∧ k = i.toNat) ∨ (i < 0 ∧ -(n : Int) ≤ i ∧ k = (i + n).toNat) := by
  unfold normIdx at h
  by_cases hi : i < 0
  · simp only [hi, if_true] at h
    split at h
    · have := Option.some.inj h; omega
    · cases h
  · simp only [hi, if_false] at h
    split at h
    · have := Option.some.inj h; omega
    · cases h

theorem seqIndex_norm {i : Int} {n k : Nat} (h : normIdx i n = some k) : seqIndex? i n = some k := by
  rcases normIdx_some h with ⟨h0, h1, rfl⟩ | ⟨h0, h1, rfl⟩
  · exact seqIndex_of h0 h1
  · exact seqIndex_neg h0 h1

theorem normIdx_lt {i : Int} {n k : Nat} (h : normIdx i n = some k) : k < n := by
  rcases normIdx_some h with ⟨h0, h1, rfl⟩ | ⟨h0, h1, rfl⟩ <;> omega

theorem p_itemL {a : Nat} {r : Addr} {xs : List V} {i : Int} {t : Tok} {kk : Nat} (ha : seqOf H a = some xs) (hr : β[a]? = some r) (hk : normIdx i xs.length = some kk) (hv : xs[kk]? = some v)
    (k : Cont h₀ β s v H Q) (sr : SR h₀ β H s.heap) : wpAny (model prog w) A (getItem (.ref r) (.int i t)) Q E s := by
  obtain ⟨us, hq, vr, hl⟩ := sr.isSeq ha hr
  obtain ⟨u, hu, hvu⟩ := vr.get hv
  have hlen := vr.length
  have hfit := lim_lt _ hl
  have hsz : us.toArray.size = xs.length := by rw [List.size_toArray, hlen]
  have hu' : us.toArray[kk]? = some u := by rw [List.getElem?_toArray]; exact hu
  rcases hq with hq | hq
  · rcases normIdx_some hk with ⟨h0, h1, rfl⟩ | ⟨h0, h1, rfl⟩
    · exact wpAny_getItem_list hq h0 (by omega) hu' (k.here sr hvu)
    · exact wpAny_getItem_list_neg hq h0 (by omega) (by omega) (by rw [hsz]; exact hu') (k.here sr hvu)
  · have := normIdx_some hk
    exact PyProof.Rows.getItem_tuple hq (by omega) (by omega) (by rw [hsz]; exact seqIndex_norm hk) hu' (k.here sr hvu)

theorem p_mkList {vs : List V} {us : List Value} (hv : VRs β vs us) (hl : vs.length ≤ lim) (k : Cont h₀ β s (.ref H.length) (H ++ [.list vs]) Q) (sr : SR h₀ β H s.heap) :
    Q (.ref s.heap.objs.size) { s with heap := s.heap.push { cls := .type "list", data := .seq us.toArray } } := k.new0 sr (.list hv hl) rfl
theorem p_mkTuple {vs : List V} {us : List Value} (hv : VRs β vs us) (hl : vs.length ≤ lim) (k : Cont h₀ β s (.ref H.length) (H ++ [.tuple vs]) Q) (sr : SR h₀ β H s.heap) :
    Q (.ref s.heap.objs.size) { s with heap := s.heap.push { cls := .type "tuple", data := .seq us.toArray } } := k.new0 sr (.tuple hv hl) rfl

/-- a change of one own object -/
theorem Cont.upd {a : Nat} {r : Addr} {o o' : O} {ob : Obj} {u : Value} {h' : Heap} (k : Cont h₀ β s v (H.set a o') Q) (sr : SR h₀ β H s.heap) (ha : H[a]? = some o) (hr : β[a]? = some r) (hn : h₀.get? r = Option.none)
    (hk : ∀ b, b ≠ r → h'.get? b = s.heap.get? b) (hg : h'.get? r = some ob) (ho : OR β o' ob) (vr : VR β v u) : Q u { s with heap := h' } := by
  refine k _ _ β ⟨⟨_, _, rfl⟩, List.prefix_refl _, fun b hb => .of fun q e => ?_, fun b hb => .inl hb⟩ (sr.upd ha hr hn hk hg ho) vr
  have : b ≠ r := by rintro rfl; exact hb (List.mem_of_getElem? hr)
  exact (hk b this).trans e

theorem mapSeq_list (us : List Value) (n : Nat) (f : Array Value → Array Value) : ∃ m, Obj.mapSeq f { cls := .type "list", data := .seq us.toArray n } = { cls := .type "list", data := .seq (f us.toArray) m } := ⟨_, rfl⟩

set_option maxRecDepth 100000 in
theorem set_at {l : Addr} {o : Obj} {us : Array Value} {n : Nat} {k : Int} {t : Tok} {v : Value} {Q : Unit → Shared → Prop} (ho : s.heap.get? l = some o) (hc : o.cls = .type "list") (hd : o.data = .seq us n) (h0 : 0 ≤ k) (hk : k < us.size) (hl : k < 2 ^ 63)
    (hQ : Q () { s with heap := s.heap.update l (Obj.mapSeq (·.setIfInBounds k.toNat v)) }) : wpAny (model prog w) A (setItem (.ref l) (.int k t) v) Q E s := by
  have ty : s.heap.IsList l us := ⟨o, ho, hc, n, hd⟩
  have fits := fitsIndex_of h0 hl
  unfold setItem
  refine wpAny_holding (wpAny_bind (wpAny_sequenceKey ty.typeIs (by decide) (wpAny_bind (wpAny_callSpecial?_slot (name := Str.ofString "__setitem__") ty.typeIs slot_list_setitem (wpAny_call_entry slot_list_setitem ty.typeIs entry_list_setitem ?_ (args_list_setitem _ _ _))))))
  show wpAny _ _ (Builtin.List.listSubscript? (.int k t) >>= _) _ _ s
  refine wpAny_bind (wpAny_listSubscript_int fits ?_)
  clear fits hl
  match k, h0, hk, hQ with
  | .ofNat m, _, hk, hQ =>
    have hlt : m < us.size := by have : (m : Int) < us.size := hk; omega
    have hm : us[m]? = some us[m] := Array.getElem?_eq_getElem hlt
    show wpAny _ _ ((seqItemAt l m >>= _) >>= _) _ _ s
    refine wpAny_bind (wpAny_bind (wpAny_seqItemAt (i := m) ho hd (wpAny_pure ?_)))
    rw [hm]
    show wpAny _ _ (setSeqItemAt l m v >>= _) _ _ s
    refine wpAny_bind (wpAny_setSeqItemAt (i := m) (v := v) ho hd ?_)
    exact wpAny_pure ⟨.none, rfl, wpAny_pure hQ⟩

theorem p_setL {a : Nat} {r : Addr} {xs : List V} {i : Int} {t : Tok} {x : V} {u : Value} {Qu : Unit → Shared → Prop} (ha : H[a]? = some (.list xs)) (hr : β[a]? = some r) (h0 : 0 ≤ i) (hi : i < xs.length) (hu : VR β x u)
    (k : Cont h₀ β s .none (H.set a (.list (xs.set i.toNat x))) (fun _ s' => Qu () s')) (sr : SR h₀ β H s.heap) : wpAny (model prog w) A (setItem (.ref r) (.int i t) u) Qu E s := by
  obtain ⟨us, n, hn, e, vr, hl⟩ := sr.list ha hr
  have hfit := lim_lt _ hl
  have hlen := vr.length
  obtain ⟨m, rfl⟩ := Int.eq_ofNat_of_zero_le h0
  refine set_at e rfl rfl h0 (by rw [List.size_toArray, ← hlen]; omega) (by omega) ?_
  rw [Int.toNat_natCast] at k ⊢
  obtain ⟨q, hq⟩ := mapSeq_list us n fun xs => xs.setIfInBounds m u
  refine Cont.upd (u := .none) k sr ha hr hn (fun b hb => Heap.get?_update_other _ _ (Ne.symm hb)) (Heap.get?_update_self _ e (by rw [hq]; rfl)) ?_ .none
  rw [hq]
  have : us.toArray.setIfInBounds m u = (us.set m u).toArray := by simp
  rw [this]
  exact .list (vr.set m hu) (by rw [List.length_set]; exact hl)

theorem p_append {a : Nat} {r : Addr} {xs : List V} {x : V} {u : Value} (ha : H[a]? = some (.list xs)) (hr : β[a]? = some r) (hl : xs.length < lim) (hu : VR β x u)
    (k : Cont h₀ β s .none (H.set a (.list (xs ++ [x]))) Q) (sr : SR h₀ β H s.heap) : wpAny (model prog w) A (call (.builtin "list.append") [.ref r, u]) Q E s := by
  obtain ⟨us, n, hn, e, vr, hle⟩ := sr.list ha hr
  have hlen := vr.length
  refine call_meets F.slot_list_append ⟨_, e, rfl⟩ F.entry_list_append (F.args_list_append_2 _ _) (list_append r us.toArray n u (by rw [List.size_toArray, ← hlen]; exact lim_line _ hle)) ⟨e, ?_⟩
  obtain ⟨m, hm⟩ := mapSeq_list us n fun xs => xs.push u
  refine k.upd sr ha hr hn (fun b hb => Heap.get?_update_other _ _ (Ne.symm hb)) (Heap.get?_update_self _ e (by rw [hm]; rfl)) ?_ .none
  rw [hm, List.push_toArray]
  exact .list (vr.append (.cons hu .nil)) (by rw [List.length_append]; exact hl)

theorem p_pop {a : Nat} {r : Addr} {xs : List V} {i : Int} {t : Tok} {kk : Nat} (ha : H[a]? = some (.list xs)) (hr : β[a]? = some r) (hk : normIdx i xs.length = some kk) (hv : xs[kk]? = some v)
    (k : Cont h₀ β s v (H.set a (.list (xs.eraseIdx kk))) Q) (sr : SR h₀ β H s.heap) : wpAny (model prog w) A (call (.builtin "list.pop") [.ref r, .int i t]) Q E s := by
  obtain ⟨us, n, hn, e, vr, hle⟩ := sr.list ha hr
  have hlen := vr.length
  have hfit := lim_lt _ hle
  obtain ⟨u, hu, hvu⟩ := vr.get hv
  have hsz : us.toArray.size = xs.length := by rw [List.size_toArray, hlen]
  have hlt := normIdx_lt hk
  have hb := normIdx_some hk
  refine call_meets F.slot_list_pop ⟨_, e, rfl⟩ F.entry_list_pop (F.args_list_pop_2 _ _) (MeetsSeq.list_pop_at r us.toArray n i t kk u (by simp [Builtin.List.listFitsIndex]; omega) (by rw [hsz]; exact seqIndex_norm hk)
    (by rw [List.getElem?_toArray]; exact hu) (by rw [hsz]; exact lim_line _ hle)) ⟨e, ?_⟩
  obtain ⟨m, hm⟩ := mapSeq_list us n fun xs => xs.eraseIdxIfInBounds kk
  refine k.upd sr ha hr hn (fun b hb => Heap.get?_update_other _ _ (Ne.symm hb)) (Heap.get?_update_self _ e (by rw [hm]; rfl)) ?_ hvu
  rw [hm]
  have : us.toArray.eraseIdxIfInBounds kk = (us.eraseIdx kk).toArray := by
    rw [Array.eraseIdxIfInBounds, dif_pos (by rw [hsz]; exact hlt)]; simp
  rw [this]
  exact .list (vr.eraseIdx kk) (by have := List.length_eraseIdx_le xs kk; omega)

end
end Mine

namespace Mine
open PySem

section
variable {prog : Program} {w : World} {A : Around} {E : Value → Shared → Prop} {s : Shared} {h₀ : Heap} {β : List Addr} {H H' : Hp} {v : V} {Q : Value → Shared → Prop}

theorem mapM_cons_some {α γ : Type} {f : α → Option γ} {x : α} {xs : List α} {ys : List γ} (h : (x :: xs).mapM f = some ys) : ∃ y r, f x = some y ∧ xs.mapM f = some r ∧ ys = y :: r := by
  rw [List.mapM_cons] at h
  cases hx : f x with
  | none => (first | exact clash hx h | exact clash h hx | (rw [hx] at h; cases h))
  | some y =>
    rw [hx] at h
    cases hr : xs.mapM f with
    | none => (first | exact clash hr h | exact clash h hr | (rw [hr] at h; cases h))
    | some r => (first | exact clash hr h | exact clash h hr | (rw [hr] at h; cases h)); exact ⟨y, r, rfl, rfl, rfl⟩
theorem mapM_nil_some {α γ : Type} {f : α → Option γ} {ys : List γ} (h : ([] : List α).mapM f = some ys) : ys = [] := by
  (first | exact clash List.mapM_nil h | exact clash h List.mapM_nil | (rw [List.mapM_nil] at h; cases h)); rfl

theorem reads_all {n : Nat} (ih : ∀ v u d, readD n H v = some d → VR β v u → ∃ as, Reads s.heap u d as ∧ d.depth ≤ n) :
    ∀ {xs : List V} {us : List Value} {ds : List PyData}, VRs β xs us → xs.mapM (readD n H) = some ds → ∃ as, ReadsAll s.heap us ds as ∧ PyData.depthAll ds ≤ n := by
  intro xs us ds hv
  induction hv generalizing ds with
  | nil => intro h; rw [mapM_nil_some h]; exact ⟨_, .nil, Nat.zero_le _⟩
  | cons h _ ih2 =>
    intro hm
    obtain ⟨y, r, h1, h2, rfl⟩ := mapM_cons_some hm
    obtain ⟨as, ra, da⟩ := ih _ _ _ h1 h
    obtain ⟨bs, rb, db⟩ := ih2 h2
    exact ⟨_, .cons ra rb, by rw [PyData.depthAll]; omega⟩

theorem reads_of (sr : SR h₀ β H s.heap) : ∀ (n : Nat) (v : V) (u : Value) (d : PyData), readD n H v = some d → VR β v u → ∃ as, Reads s.heap u d as ∧ d.depth ≤ n := by
  intro n
  induction n with
  | zero =>
    intro v u d h hv
    cases hv <;> simp only [readD] at h <;> cases h
    · exact ⟨_, .none, Nat.le_refl _⟩
    · exact ⟨_, .bool _, Nat.le_refl _⟩
    · exact ⟨_, .int _ _, Nat.le_refl _⟩
    · exact ⟨_, .str _ _, Nat.le_refl _⟩
  | succ n ih =>
    intro v u d h hv
    cases hv with
    | none => simp only [readD] at h; cases h; exact ⟨_, .none, Nat.zero_le _⟩
    | bool b => simp only [readD] at h; cases h; exact ⟨_, .bool _, Nat.zero_le _⟩
    | int i t => simp only [readD] at h; cases h; exact ⟨_, .int _ _, Nat.zero_le _⟩
    | str x t => simp only [readD] at h; cases h; exact ⟨_, .str _ _, Nat.zero_le _⟩
    | @ref a r hr =>
      simp only [readD] at h
      split at h
      · rename_i xs e
        obtain ⟨ds, hds, rfl⟩ := Option.map_eq_some_iff.mp h
        obtain ⟨us, m, _, eo, vr, _⟩ := sr.list e hr
        obtain ⟨as, ra, da⟩ := reads_all ih vr hds
        exact ⟨_, .list eo rfl rfl (by simpa using ra), by rw [PyData.depth]; omega⟩
      · rename_i xs e
        obtain ⟨ds, hds, rfl⟩ := Option.map_eq_some_iff.mp h
        obtain ⟨r', e', sl⟩ := sr.at e
        (first | exact clash hr e' | exact clash e' hr | (rw [hr] at e'; cases e'))
        cases sl with
        | frozen a b c d l =>
          obtain ⟨as, ra, da⟩ := reads_all ih d hds
          exact ⟨_, .list (sr.kept _ _ a) b c (by simpa using ra), by rw [PyData.depth]; omega⟩
        | own a b c => cases c
      · rename_i xs e
        obtain ⟨ds, hds, rfl⟩ := Option.map_eq_some_iff.mp h
        obtain ⟨r', e', sl⟩ := sr.at e
        (first | exact clash hr e' | exact clash e' hr | (rw [hr] at e'; cases e'))
        cases sl with
        | own a b c =>
          cases c with
          | tuple vr l =>
            obtain ⟨as, ra, da⟩ := reads_all ih vr hds
            exact ⟨_, .tuple b rfl rfl (by simpa using ra), by rw [PyData.depth]; omega⟩
      · cases h

theorem eqD_some {a b : V} {r : Bool} (h : eqD H a b = some r) : ∃ x y, readD 8 H a = some x ∧ readD 8 H b = some y ∧ x.canLay0 = true ∧ y.canLay0 = true ∧ r = PyData.eqv x y := by
  unfold eqD at h
  split at h
  · rename_i x y ha hb
    split at h
    · rename_i hc
      rw [Bool.and_eq_true] at hc
      exact ⟨x, y, ha, hb, hc.1, hc.2, (Option.some.inj h).symm⟩
    · cases h
  · cases h

theorem shaped_of {d : PyData} (hc : d.canLay0 = true) (hd : d.depth ≤ 8) : SeqAt.shaped d = true := by
  unfold SeqAt.shaped; rw [hc]; simp; omega

theorem p_eq {a b : V} {ua ub : Value} {r : Bool} (ha : VR β a ua) (hb : VR β b ub) (h : eqD H a b = some r) (hu : A.units + 100 < cLine) (k : Cont h₀ β s (.bool r) H Q) (sr : SR h₀ β H s.heap) :
    wpAny (model prog w) A (compareOp .Eq ua ub) Q E s := by
  obtain ⟨x, y, rx, ry, cx, cy, rfl⟩ := eqD_some h
  obtain ⟨as, ra, da⟩ := reads_of sr _ _ _ _ rx ha
  obtain ⟨bs, rb, db⟩ := reads_of sr _ _ _ _ ry hb
  exact SeqAt.compareEq_shaped ra rb (shaped_of cx da) (shaped_of cy db) (by omega) (k.here sr (.bool _))

theorem p_ne {a b : V} {ua ub : Value} {r : Bool} (ha : VR β a ua) (hb : VR β b ub) (h : eqD H a b = some r) (hu : A.units + 100 < cLine) (k : Cont h₀ β s (.bool (!r)) H Q) (sr : SR h₀ β H s.heap) :
    wpAny (model prog w) A (compareOp .NotEq ua ub) Q E s := by
  obtain ⟨x, y, rx, ry, cx, cy, rfl⟩ := eqD_some h
  obtain ⟨as, ra, da⟩ := reads_of sr _ _ _ _ rx ha
  obtain ⟨bs, rb, db⟩ := reads_of sr _ _ _ _ ry hb
  exact SeqAt.compareNe_shaped ra rb (shaped_of cx da) (shaped_of cy db) (by omega) (k.here sr (.bool _))

theorem inD_some {x : V} {xs : List V} {r : Bool} (h : inD H x xs = some r) : ∃ d ds, readD 8 H x = some d ∧ xs.mapM (readD 8 H) = some ds ∧ d.canLay0 = true ∧ PyData.canLayAll0 ds = true ∧ r = ds.any fun y => PyData.eqv y d := by
  unfold inD at h
  split at h
  · rename_i d ds hd hds
    split at h
    · rename_i hc
      rw [Bool.and_eq_true] at hc
      exact ⟨d, ds, hd, hds, hc.1, hc.2, (Option.some.inj h).symm⟩
    · cases h
  · cases h

/-- a list or a tuple read as data -/
theorem readsSeq (sr : SR h₀ β H s.heap) {a : Nat} {r : Addr} {xs : List V} {ds : List PyData} (ha : seqOf H a = some xs) (hr : β[a]? = some r) (hds : xs.mapM (readD 8 H) = some ds) :
    ∃ as, (Reads s.heap (.ref r) (.list ds) as ∨ Reads s.heap (.ref r) (.tuple ds) as) ∧ PyData.depthAll ds ≤ 8 := by
  obtain ⟨us, n, ob, e, hc, hd, vr, _⟩ := sr.seq ha hr
  obtain ⟨as, ra, da⟩ := reads_all (reads_of sr 8) vr hds
  rcases hc with hc | hc
  · exact ⟨_, .inl (.list e hc hd (by simpa using ra)), da⟩
  · exact ⟨as, .inr (.tuple e hc hd (by simpa using ra)), da⟩

theorem p_in {x : V} {ux : Value} {a : Nat} {r : Addr} {xs : List V} {b : Bool} (hx : VR β x ux) (ha : seqOf H a = some xs) (hr : β[a]? = some r) (h : inD H x xs = some b) (hu : A.units + 100 < cLine)
    (k : Cont h₀ β s (.bool b) H Q) (sr : SR h₀ β H s.heap) : wpAny (model prog w) A (compareOp .In ux (.ref r)) Q E s := by
  obtain ⟨d, ds, hd, hds, c1, c2, rfl⟩ := inD_some h
  obtain ⟨bs, rx, dx⟩ := reads_of sr _ _ _ _ hd hx
  obtain ⟨as, rs, dd⟩ := readsSeq sr ha hr hds
  have hu' : A.units + 1 + min (PyData.depthAll ds) d.depth < cLine := by omega
  rcases rs with rs | rs
  · exact SeqAt.in_list_reads rs rx c2 c1 hu' (k.here sr (.bool _))
  · exact SeqAt.in_tuple_reads rs rx c2 c1 hu' (k.here sr (.bool _))
theorem p_notIn {x : V} {ux : Value} {a : Nat} {r : Addr} {xs : List V} {b : Bool} (hx : VR β x ux) (ha : seqOf H a = some xs) (hr : β[a]? = some r) (h : inD H x xs = some b) (hu : A.units + 100 < cLine)
    (k : Cont h₀ β s (.bool (!b)) H Q) (sr : SR h₀ β H s.heap) : wpAny (model prog w) A (compareOp .NotIn ux (.ref r)) Q E s := by
  obtain ⟨d, ds, hd, hds, c1, c2, rfl⟩ := inD_some h
  obtain ⟨bs, rx, dx⟩ := reads_of sr _ _ _ _ hd hx
  obtain ⟨as, rs, dd⟩ := readsSeq sr ha hr hds
  have hu' : A.units + 1 + min (PyData.depthAll ds) d.depth < cLine := by omega
  rcases rs with rs | rs
  · exact SeqAt.notIn_list_reads rs rx c2 c1 hu' (k.here sr (.bool _))
  · exact SeqAt.notIn_tuple_reads rs rx c2 c1 hu' (k.here sr (.bool _))

theorem p_isNone {v : V} {u : Value} (hv : VR β v u) (k : Cont h₀ β s (.bool (decide (v = .none))) H Q) (sr : SR h₀ β H s.heap) : wpAny (model prog w) A (compareOp .Is u .none) Q E s := by
  refine is_none ?_
  have : (u == Value.none) = decide (v = .none) := by cases hv <;> simp
  rw [this]; exact k.here sr (.bool _)
theorem p_isNotNone {v : V} {u : Value} (hv : VR β v u) (k : Cont h₀ β s (.bool (!decide (v = .none))) H Q) (sr : SR h₀ β H s.heap) : wpAny (model prog w) A (compareOp .IsNot u .none) Q E s := by
  refine isNot_none ?_
  have : (u == Value.none) = decide (v = .none) := by cases hv <;> simp
  rw [this]; exact k.here sr (.bool _)
theorem isSame_true {v : V} {u : Value} (hv : VR β v u) : PySem.isSame u (.bool true) = pure (u == .bool true) := by cases hv <;> rfl
theorem isSame_dec {v : V} {u : Value} (hv : VR β v u) : (u == Value.bool true) = decide (v = .bool true) := by
  cases hv with
  | bool b => cases b <;> rfl
  | _ => simp
theorem p_isTrue {v : V} {u : Value} (hv : VR β v u) (k : Cont h₀ β s (.bool (decide (v = .bool true))) H Q) (sr : SR h₀ β H s.heap) : wpAny (model prog w) A (compareOp .Is u (.bool true)) Q E s := by
  show wpAny (model prog w) A (do return .bool (← PySem.isSame u (.bool true))) Q E s
  rw [isSame_true hv, isSame_dec hv]; exact wpAny_bind (wpAny_pure (wpAny_pure (k.here sr (.bool _))))
theorem p_isNotTrue {v : V} {u : Value} (hv : VR β v u) (k : Cont h₀ β s (.bool (!decide (v = .bool true))) H Q) (sr : SR h₀ β H s.heap) : wpAny (model prog w) A (compareOp .IsNot u (.bool true)) Q E s := by
  show wpAny (model prog w) A (do return .bool (!(← PySem.isSame u (.bool true)))) Q E s
  rw [isSame_true hv, isSame_dec hv]; exact wpAny_bind (wpAny_pure (wpAny_pure (k.here sr (.bool _))))

/-- the built-in types that the texts name -/
noncomputable def plainTypes : List String := ["int", "bool", "list", "tuple", "str"]

theorem pl5 {P : String → Prop} (h1 : P "int") (h2 : P "bool") (h3 : P "list") (h4 : P "tuple") (h5 : P "str") {t : String} (ht : t ∈ plainTypes) : P t := by
  simp only [plainTypes, List.mem_cons, List.not_mem_nil, or_false] at ht
  rcases ht with rfl | rfl | rfl | rfl | rfl
  · exact h1
  · exact h2
  · exact h3
  · exact h4
  · exact h5
/-- what isinstance is asked of v, for a type t -/
noncomputable def AskI (prog : Program) (w : World) (A : Around) (E : Value → Shared → Prop) (s : Shared) (Q : Value → Shared → Prop) (ts : List String) (u : Value) (t : String) : Prop :=
  (ts.contains t = true → Q (.bool true) s) → (ts.contains t = false → Q (.bool false) { s with toks := s.toks + 1 }) → wpAny (model prog w) A (call (.builtin "isinstance") [u, .type t]) Q E s
theorem isInst_one {v : V} {t : String} {H : Hp} {b : Bool} (h : isInst v [t] H = some b) : isObj v H = false ∧ b = (typesOf v H).contains t := by
  unfold isInst at h
  split at h
  · cases h
  · rename_i q
    rw [List.any_cons, List.any_nil, Bool.or_false] at h
    exact ⟨by simpa using q, (Option.some.inj h).symm⟩
theorem ask_list {r : Addr} {ob : Obj} (e : s.heap.get? r = some ob) (c : ob.cls = .type "list") {t : String} (ht : t ∈ plainTypes) : AskI prog w A E s Q ["list"] (.ref r) t :=
  pl5 (fun _ n => IsiPair.list_int e c (n rfl)) (fun _ n => IsiPair.list_bool e c (n rfl)) (fun y _ => IsiPair.list_list e c (y rfl)) (fun _ n => IsiPair.list_tuple e c (n rfl)) (fun _ n => IsiPair.list_str e c (n rfl)) ht
theorem ask_tuple {r : Addr} {ob : Obj} (e : s.heap.get? r = some ob) (c : ob.cls = .type "tuple") {t : String} (ht : t ∈ plainTypes) : AskI prog w A E s Q ["tuple"] (.ref r) t :=
  pl5 (fun _ n => IsiPair.tuple_int e c (n rfl)) (fun _ n => IsiPair.tuple_bool e c (n rfl)) (fun _ n => IsiPair.tuple_list e c (n rfl)) (fun y _ => IsiPair.tuple_tuple e c (y rfl)) (fun _ n => IsiPair.tuple_str e c (n rfl)) ht
theorem p_isinst {v : V} {u : Value} {t : String} {b : Bool} (hb : isInst v [t] H = some b) (hv : VR β v u) (ht : t ∈ plainTypes) (k : Cont h₀ β s (.bool b) H Q) (sr : SR h₀ β H s.heap) :
    wpAny (model prog w) A (call (.builtin "isinstance") [u, .type t]) Q E s := by
  obtain ⟨hno, hb⟩ := isInst_one hb
  rw [hb] at k
  have fin : ∀ ts, typesOf v H = ts → AskI prog w A E s Q ts u t → wpAny (model prog w) A (call (.builtin "isinstance") [u, .type t]) Q E s := fun ts e a => by
    rw [e] at k
    exact a (fun q => by have := k.here sr (.bool _); rw [q] at this; exact this) (fun q => by have := k.same (t := s.toks + 1) sr (.bool _); rw [q] at this; exact this)
  cases hv with
  | none => exact fin _ rfl (pl5 (P := AskI prog w A E s Q [] .none) (fun _ n => IsiPair.NoneType_int (n rfl)) (fun _ n => IsiPair.NoneType_bool (n rfl)) (fun _ n => IsiPair.NoneType_list (n rfl)) (fun _ n => IsiPair.NoneType_tuple (n rfl)) (fun _ n => IsiPair.NoneType_str (n rfl)) ht)
  | bool b => exact fin _ rfl (pl5 (P := AskI prog w A E s Q ["bool", "int"] (.bool b)) (fun y _ => IsiPair.bool_int (y rfl)) (fun y _ => IsiPair.bool_bool (y rfl)) (fun _ n => IsiPair.bool_list (n rfl)) (fun _ n => IsiPair.bool_tuple (n rfl)) (fun _ n => IsiPair.bool_str (n rfl)) ht)
  | int i tk => exact fin _ rfl (pl5 (P := AskI prog w A E s Q ["int"] (.int i tk)) (fun y _ => IsiPair.int_int (y rfl)) (fun _ n => IsiPair.int_bool (n rfl)) (fun _ n => IsiPair.int_list (n rfl)) (fun _ n => IsiPair.int_tuple (n rfl)) (fun _ n => IsiPair.int_str (n rfl)) ht)
  | str x tk => exact fin _ rfl (pl5 (P := AskI prog w A E s Q ["str"] (.str x tk)) (fun _ n => IsiPair.str_int (n rfl)) (fun _ n => IsiPair.str_bool (n rfl)) (fun _ n => IsiPair.str_list (n rfl)) (fun _ n => IsiPair.str_tuple (n rfl)) (fun y _ => IsiPair.str_str (y rfl)) ht)
  | @ref a r hr =>
    have hlt : a < H.length := by rw [sr.len]; exact (List.getElem?_eq_some_iff.mp hr).1
    obtain ⟨o, ho⟩ : ∃ o, H[a]? = some o := ⟨_, List.getElem?_eq_getElem hlt⟩
    obtain ⟨r', e', sl⟩ := sr.at ho
    rw [hr] at e'; cases e'
    cases sl with
    | frozen f0 b c d l => exact fin _ (by unfold typesOf; dsimp only; rw [ho]) (ask_list (sr.kept _ _ f0) b ht)
    | inst _ _ _ _ _ _ _ _ _ => unfold isObj at hno; dsimp only at hno; rw [ho] at hno; cases hno
    | fdict _ _ _ => unfold isObj at hno; dsimp only at hno; rw [ho] at hno; cases hno
    | own f0 b c =>
      cases c with
      | list p q => exact fin _ (by unfold typesOf; dsimp only; rw [ho]) (ask_list b rfl ht)
      | tuple p q => exact fin _ (by unfold typesOf; dsimp only; rw [ho]) (ask_tuple b rfl ht)

theorem Cont.newAt {o : O} {ob : Obj} {t : Nat} {h' : Heap} {r : Addr} (k : Cont h₀ β s (.ref H.length) (H ++ [o]) Q) (sr : SR h₀ β H s.heap) (hn : s.heap.get? r = Option.none) (hk : ∀ b o, s.heap.get? b = some o → h'.get? b = some o)
    (hg : h'.get? r = some ob) (ho : OR β o ob) : Q (.ref r) { s with heap := h', toks := t } := by
  have hp : β <+: β ++ [r] := List.prefix_append _ _
  refine k _ _ (β ++ [r]) ⟨⟨_, _, rfl⟩, hp, fun b _ => .of fun o e => hk b o e, fun b hb => ?_⟩ (sr.push hn hk hg (ho.mono hp)) (.ref ?_)
  · rcases List.mem_append.mp hb with q | q
    · exact .inl q
    · simp at q; subst q; exact .inr hn
  · rw [sr.len]; simp

theorem get_none_of_le {h : Heap} {a : Addr} (ha : h.objs.size ≤ a) : h.get? a = Option.none := by
  cases e : h.get? a with
  | none => rfl
  | some o => exact absurd (Heap.lt_size e) (Nat.not_lt.mpr ha)

theorem p_list {a : Nat} {r : Addr} {xs : List V} (ha : seqOf H a = some xs) (hr : β[a]? = some r) (k : Cont h₀ β s (.ref H.length) (H ++ [.list xs]) Q) (sr : SR h₀ β H s.heap) :
    wpAny (model prog w) A (call (.type "list") [.ref r]) Q E s := by
  obtain ⟨us, n, ob, e, hc, hd, vr, hl⟩ := sr.seq ha hr
  have hlen := vr.length
  have fin : ∀ h' c', (∀ b o', s.heap.get? b = some o' → h'.get? b = some o') → h'.get? s.heap.objs.size = some { cls := .type "list", dict := none, data := .seq us.toArray c', slots := #[] } → Q (.ref s.heap.objs.size) { s with heap := h' } :=
    fun h' c' hk hg => Cont.newAt (t := s.toks) k sr (get_none_of_le (Nat.le_refl _)) hk hg (.list vr hl)
  have hsz : us.toArray.size ≤ sizeLine := by rw [List.size_toArray, ← hlen]; exact lim_line _ hl
  rcases hc with hc | hc
  · exact call_list_seq r (T := "list") (.inl rfl) e hc hd fin hsz
  · exact call_list_seq r (T := "tuple") (.inr rfl) e hc hd fin hsz

theorem p_index {a : Nat} {r : Addr} {xs : List V} {is : List Int} {i : Int} {t : Tok} (ha : H[a]? = some (.list xs)) (hr : β[a]? = some r) (hi : xs.mapM asInt = some is) (hm : i ∈ is)
    (k : Cont h₀ β s (.int (is.idxOf i : Nat)) H Q) (sr : SR h₀ β H s.heap) : wpAny (model prog w) A (call (.builtin "list.index") [.ref r, .int i t]) Q E s := by
  obtain ⟨us, n, hn, e, vr, hl⟩ := sr.list ha hr
  have hints : ∀ {xs : List V} {us : List Value} {is : List Int}, VRs β xs us → xs.mapM asInt = some is → All2 (fun i u => ∃ t, u = Value.int i t) is us := by
    intro xs us is hv
    induction hv generalizing is with
    | nil => intro h; rw [mapM_nil_some h]; exact .nil
    | cons h _ ih =>
      intro hm
      obtain ⟨y, q, h1, h2, rfl⟩ := mapM_cons_some hm
      cases h with
      | int j tk => simp [asInt] at h1; subst h1; exact .cons ⟨tk, rfl⟩ (ih h2)
      | _ => simp [asInt] at h1
  have hI := hints vr hi
  have hlen := vr.length
  have hlenI := hI.length
  have hidx : is.idxOf i < is.length := List.idxOf_lt_length_of_mem hm
  have hfit := lim_lt _ hl
  let eq : Value → Bool := fun y => match y with | .int j _ => j == i | _ => false
  have at_ : ∀ m (hm : m < us.toArray.size), ∃ tk, us.toArray[m] = .int (is[m]'(by rw [hlenI]; simpa using hm)) tk := by
    intro m hm
    have hm' : m < us.length := by simpa using hm
    obtain ⟨q, hq, tk, hu⟩ := hI.get' (List.getElem?_eq_getElem hm')
    have : is[m]'(by rw [hlenI]; exact hm') = q := by
      have := List.getElem?_eq_getElem (l := is) (i := m) (by rw [hlenI]; exact hm')
      rw [hq] at this; exact (Option.some.inj this).symm
    exact ⟨tk, by simp [this, hu]⟩
  refine call_meets F.slot_list_index ⟨_, e, rfl⟩ F.entry_list_index (F.args_list_index_2 _ _) (MeetsSeq.list_index r us.toArray n (.int i t) eq (fun y hy => ?_) (is.idxOf i) (by simp; omega) (by omega) ?_ ?_) ⟨e, k.same sr (.int _ _)⟩
  · obtain ⟨m, hm, rfl⟩ := Array.mem_iff_getElem.mp hy
    obtain ⟨tk, hu⟩ := at_ m hm
    rw [hu]; exact MeetsSeq.EqGives.int _ _ _ _
  · obtain ⟨tk, hu⟩ := at_ (is.idxOf i) (by simp; omega)
    rw [hu]; simp [eq]
  · intro m hm hlt
    obtain ⟨tk, hu⟩ := at_ m hm
    rw [hu]
    have : is[m]'(by rw [hlenI]; simpa using hm) ≠ i := fun q => by
      have := List.not_of_lt_findIdx (p := (· == i)) (xs := is) (i := m) hlt
      simp [q] at this
    simpa [eq] using this

end
end Mine

namespace Mine
open PySem

noncomputable def cmpOf : Cmp → CmpOp
  | .eq => .Eq | .ne => .NotEq | .lt => .Lt | .le => .LtE | .gt => .Gt | .ge => .GtE | .is_ => .Is | .isNot => .IsNot | .in_ => .In | .notIn => .NotIn
noncomputable def binOf : Bin → Operator
  | .add => .Add | .sub => .Sub | .mul => .Mult | .mod => .Mod | .fdiv => .FloorDiv

noncomputable def isVar (sc : Scope) (x : Str) : Bool := match sc.names.lookup x with
  | some .local | some .cell | some .free => x != (".0" : Str) && x != ("__debug__" : Str) && x != ("__classdict__" : Str)
  | _ => false
noncomputable def isGlb (sc : Scope) (x : Str) : Bool := match sc.names.lookup x with
  | some .globalImplicit => x != ("__debug__" : Str)
  | _ => false
noncomputable def methName : Prim → Option String
  | .append => some "append" | .pop => some "pop" | .index => some "index"
  | _ => none

noncomputable def isSlice : Expr → Bool
  | .Slice .. => true
  | _ => false

/-- the operands of a word of the text -/
inductive OpA (sc : Scope) : Prim → Expr → List Expr → Prop where
  | bin (o : Bin) {l r : Expr} {p : Pos} : OpA sc (.bin o) (.BinOp l (binOf o) r p) [l, r]
  | neg {x : Expr} {p : Pos} : OpA sc .neg (.UnaryOp .USub x p) [x]
  | cmp (o : Cmp) {l r : Expr} {p : Pos} : behindInMarks (cmpOf o) r = false → OpA sc (.cmp o) (.Compare l [cmpOf o] [r] p) [l, r]
  | len {xs : List Expr} {p pos : Pos} : isGlb sc (Str.ofString "len") = true → OpA sc .len (.Call (.Name (Str.ofString "len") p) xs [] pos) xs
  | list {xs : List Expr} {p pos : Pos} : isGlb sc (Str.ofString "list") = true → OpA sc .list (.Call (.Name (Str.ofString "list") p) xs [] pos) xs
  | attr {x : Str} {n : String} {xp pos : Pos} : n ∈ attrNames → OpA sc (.attr n) (.Attribute (.Name x xp) (Str.ofString n) pos) [.Name x xp]
  | isinst (t : String) {x : Expr} {p p' pos : Pos} : isGlb sc (Str.ofString "isinstance") = true → isGlb sc (Str.ofString t) = true → t ∈ plainTypes → OpA sc (.isinst [t]) (.Call (.Name (Str.ofString "isinstance") p) [x, .Name (Str.ofString t) p'] [] pos) [x]
  | item {v i : Expr} {p : Pos} : isSlice i = false → OpA sc .item (.Subscript v i p) [v, i]
  | sliceTo {v u : Expr} {p pos : Pos} : OpA sc (.slice false true) (.Subscript v (.Slice none (some u) none p) pos) [v, u]
  | sliceFrom {v u : Expr} {p pos : Pos} : OpA sc (.slice true false) (.Subscript v (.Slice (some u) none none p) pos) [v, u]
  | sliceBoth {v l u : Expr} {p pos : Pos} : OpA sc (.slice true true) (.Subscript v (.Slice (some l) (some u) none p) pos) [v, l, u]
  | mkList {xs : List Expr} {p : Pos} : OpA sc .mkList (.List xs p) xs
  | mkTuple {xs : List Expr} {b : Nat} {p : Pos} : OpA sc .mkTuple (.Tuple xs b p) xs
  | int {xs : List Expr} {p pos : Pos} : isGlb sc (Str.ofString "int") = true → OpA sc .int (.Call (.Name (Str.ofString "int") p) xs [] pos) xs
  | all {xs : List Expr} {p pos : Pos} : isGlb sc (Str.ofString "all") = true → OpA sc .all (.Call (.Name (Str.ofString "all") p) xs [] pos) xs

noncomputable def opA? (sc : Scope) (p : Prim) (x : Expr) : Option { xs : List Expr // OpA sc p x xs } := match p, x with
  | .bin o, .BinOp l op r _ => if h : op = binOf o then some ⟨[l, r], by subst h; exact .bin o⟩ else none
  | .neg, .UnaryOp .USub y _ => some ⟨[y], .neg⟩
  | .cmp o, .Compare l [op] [r] _ => if h : op = cmpOf o ∧ behindInMarks (cmpOf o) r = false then some ⟨[l, r], by obtain ⟨rfl, h⟩ := h; exact .cmp o h⟩ else none
  | .len, .Call (.Name id _) xs [] _ => if h : id = Str.ofString "len" ∧ isGlb sc (Str.ofString "len") = true then some ⟨xs, by obtain ⟨rfl, h⟩ := h; exact .len h⟩ else none
  | .list, .Call (.Name id _) xs [] _ => if h : id = Str.ofString "list" ∧ isGlb sc (Str.ofString "list") = true then some ⟨xs, by obtain ⟨rfl, h⟩ := h; exact .list h⟩ else none
  | .attr n, .Attribute (.Name x xp) y _ => if h : y = Str.ofString n ∧ n ∈ attrNames then some ⟨[.Name x xp], by obtain ⟨rfl, h⟩ := h; exact .attr h⟩ else none
  | .isinst [t], .Call (.Name id _) [y, .Name id' _] [] _ => if h : id = Str.ofString "isinstance" ∧ id' = Str.ofString t ∧ isGlb sc (Str.ofString "isinstance") = true ∧ isGlb sc (Str.ofString t) = true ∧ t ∈ plainTypes then some ⟨[y], by obtain ⟨rfl, rfl, h1, h2, h3⟩ := h; exact .isinst t h1 h2 h3⟩ else none
  | .item, .Subscript v i _ => if h : isSlice i = false then some ⟨[v, i], .item h⟩ else none
  | .slice false true, .Subscript v (.Slice none (some u) none _) _ => some ⟨[v, u], .sliceTo⟩
  | .slice true false, .Subscript v (.Slice (some u) none none _) _ => some ⟨[v, u], .sliceFrom⟩
  | .slice true true, .Subscript v (.Slice (some l) (some u) none _) _ => some ⟨[v, l, u], .sliceBoth⟩
  | .mkList, .List xs _ => some ⟨xs, .mkList⟩
  | .mkTuple, .Tuple xs _ _ => some ⟨xs, .mkTuple⟩
  | .int, .Call (.Name id _) xs [] _ => if h : id = Str.ofString "int" ∧ isGlb sc (Str.ofString "int") = true then some ⟨xs, by obtain ⟨rfl, h⟩ := h; exact .int h⟩ else none
  | .all, .Call (.Name id _) xs [] _ => if h : id = Str.ofString "all" ∧ isGlb sc (Str.ofString "all") = true then some ⟨xs, by obtain ⟨rfl, h⟩ := h; exact .all h⟩ else none
  | _, _ => none

/-- the scope of a comprehension over one name -/
noncomputable def compOk (sc scope : Scope) (xs : List Str) : Bool :=
  decide (scope.kind = .function) && xs.all (fun x => scope.names.lookup x == some .local && x != (".0" : Str)) &&
  scope.names.all fun nk => match nk.2 with
    | .local => (xs.contains nk.1 || nk.1 == (".0" : Str)) && scope.names.lookup nk.1 == some .local
    | .free => (match sc.names.lookup nk.1 with | some .cell | some .free => true | _ => false)
    | .globalImplicit => true
    | _ => false

/-- no call without arguments: the receiver of a method is evaluated as it stands -/
noncomputable def plainBase : Expr → Bool
  | .Call (.Name _ _) [] [] _ => false
  | _ => true

mutual
/-- an expression of the text is a mini expression -/
inductive ME (fs : Tab) : Scope → E → Expr → Prop where
  | none {sc : Scope} {k : Nat} {p : Pos} : ME fs sc .none (.Constant .none k p)
  | bool {sc : Scope} {b : Bool} {k : Nat} {p : Pos} : ME fs sc (.bool b) (.Constant (.bool b) k p)
  | int {sc : Scope} {i : Int} {k : Nat} {p : Pos} : ME fs sc (.int i) (.Constant (.int i) k p)
  | str {sc : Scope} {x : String} {k : Nat} {p : Pos} : ME fs sc (.str x) (.Constant (.str (Str.ofString x)) k p)
  | var {sc : Scope} {x : String} {p : Pos} : isVar sc (Str.ofString x) = true → ME fs sc (.var x) (.Name (Str.ofString x) p)
  | glob {sc : Scope} {x : String} {p : Pos} : isGlb sc (Str.ofString x) = true → ME fs sc (.glob x) (.Name (Str.ofString x) p)
  | op {sc : Scope} {p : Prim} {args : List E} {x : Expr} {xs : List Expr} : OpA sc p x xs → MEs fs sc args xs → ME fs sc (.op p args) x
  | mcall {sc : Scope} {p : Prim} {m : String} {o : E} {o' x1 : Expr} {args : List E} {apos pos : Pos} : methName p = some m → (apos.endLine == pos.line) = true → plainBase o' = true → ME fs sc o o' → MEs fs sc args [x1] →
      ME fs sc (.mcall p o args) (.Call (.Attribute o' (Str.ofString m) apos) [x1] [] pos)
  | and_ {sc : Scope} {es : List E} {x : Expr} {xs : List Expr} {p : Pos} : MEs fs sc es (x :: xs) → ME fs sc (.and_ es) (.BoolOp .And (x :: xs) p)
  | or_ {sc : Scope} {es : List E} {x : Expr} {xs : List Expr} {p : Pos} : MEs fs sc es (x :: xs) → ME fs sc (.or_ es) (.BoolOp .Or (x :: xs) p)
  | not_ {sc : Scope} {e : E} {x : Expr} {p : Pos} : ME fs sc e x → ME fs sc (.not_ e) (.UnaryOp .Not x p)
  | ife {sc : Scope} {c a b : E} {t x y : Expr} {p : Pos} : ME fs sc c t → ME fs sc a x → ME fs sc b y → ME fs sc (.ife c a b) (.IfExp t x y p)
  | chain {sc : Scope} {a b c : E} {o o' : Cmp} {l r r' : Expr} {p : Pos} : behindInMarks (cmpOf o) r = false → behindInMarks (cmpOf o') r' = false → ME fs sc a l → ME fs sc b r → ME fs sc c r' →
      ME fs sc (.chain a o b o' c) (.Compare l [cmpOf o, cmpOf o'] [r, r'] p)
  | call {sc : Scope} {f : String} {args : List E} {xs : List Expr} {p pos : Pos} : f ∈ fs.fns → isGlb sc (Str.ofString f) = true → MEs fs sc args xs → ME fs sc (.call f args) (.Call (.Name (Str.ofString f) p) xs [] pos)
  | newX {sc : Scope} {c : String} {args : List E} {x : Expr} {xs : List Expr} {p pos : Pos} : c ∈ fs.cls → isGlb sc (Str.ofString c) = true → MEs fs sc args (x :: xs) → ME fs sc (.newX c args) (.Call (.Name (Str.ofString c) p) (x :: xs) [] pos)
  | new {sc : Scope} {args : List E} {x : Expr} {xs : List Expr} {p pos : Pos} : ("Inn", "__init__") ∈ fs.meths → isGlb sc (Str.ofString "Inn") = true → MEs fs sc args (x :: xs) → ME fs sc (.new "Inn" args) (.Call (.Name (Str.ofString "Inn") p) (x :: xs) [] pos)
  | meth {sc : Scope} {m : String} {o : E} {o' : Expr} {args : List E} {xs : List Expr} {apos pos : Pos} : m ∈ methNames → ("Inn", m) ∈ fs.meths → (apos.endLine == pos.line) = true → plainBase o' = true → xs.length < 29 → ME fs sc o o' → MEs fs sc args xs →
      ME fs sc (.meth m o args) (.Call (.Attribute o' (Str.ofString m) apos) xs [] pos)
  | compR {sc scope : Scope} {elt : E} {x : String} {args conds : List E} {el : Expr} {xs ifs : List Expr} {tp gp cp pos : Pos} : isGlb sc (Str.ofString "range") = true → compOk sc scope [Str.ofString x] = true → ifs.length ≤ 1 →
      MEs fs sc args xs → ME fs scope elt el → MEs fs scope conds ifs → ME fs sc (.compR elt x args conds) (.ListComp el [⟨.Name (Str.ofString x) tp, .Call (.Name (Str.ofString "range") gp) xs [] cp, ifs, 0⟩] scope pos)
  | compS {sc scope : Scope} {elt src : E} {x : String} {conds : List E} {el it : Expr} {ifs : List Expr} {tp pos : Pos} : compOk sc scope [Str.ofString x] = true → ifs.length ≤ 1 →
      ME fs sc src it → ME fs scope elt el → MEs fs scope conds ifs → ME fs sc (.compS elt (.one x) src conds) (.ListComp el [⟨.Name (Str.ofString x) tp, it, ifs, 0⟩] scope pos)
  | compS2 {sc scope : Scope} {elt src : E} {x y : String} {conds : List E} {el it : Expr} {ifs : List Expr} {px py : Pos} {b : Nat} {tp pos : Pos} : x ≠ y → compOk sc scope [Str.ofString x, Str.ofString y] = true → ifs.length ≤ 1 →
      ME fs sc src it → ME fs scope elt el → MEs fs scope conds ifs → ME fs sc (.compS elt (.two x y) src conds) (.ListComp el [⟨.Tuple [.Name (Str.ofString x) px, .Name (Str.ofString y) py] b tp, it, ifs, 0⟩] scope pos)
inductive MEs (fs : Tab) : Scope → List E → List Expr → Prop where
  | nil {sc : Scope} : MEs fs sc [] []
  | cons {sc : Scope} {e : E} {es : List E} {x : Expr} {xs : List Expr} : ME fs sc e x → MEs fs sc es xs → MEs fs sc (e :: es) (x :: xs)
end

abbrev Ok (p : Prop) := Option (PLift p)
noncomputable def o1 {p r : Prop} (a : Ok p) (f : p → r) : Ok r := a.map fun h => ⟨f h.down⟩
noncomputable def o2 {p q r : Prop} (a : Ok p) (b : Ok q) (f : p → q → r) : Ok r := a.bind fun h => b.map fun k => ⟨f h.down k.down⟩
noncomputable def o3 {p q t r : Prop} (a : Ok p) (b : Ok q) (c : Ok t) (f : p → q → t → r) : Ok r := a.bind fun h => b.bind fun k => c.map fun l => ⟨f h.down k.down l.down⟩
noncomputable def oif {r : Prop} (c : Prop) [Decidable c] (f : c → Ok r) : Ok r := if h : c then f h else none

mutual
noncomputable def chkE (fs : Tab) (sc : Scope) : (e : E) → (x : Expr) → Ok (ME fs sc e x)
  | .none, .Constant .none _ _ => some ⟨.none⟩
  | .bool b, .Constant (.bool c) _ _ => oif (b = c) fun h => some ⟨by subst h; exact .bool⟩
  | .int b, .Constant (.int c) _ _ => oif (b = c) fun h => some ⟨by subst h; exact .int⟩
  | .str b, .Constant (.str c) _ _ => oif (c = Str.ofString b) fun h => some ⟨by subst h; exact .str⟩
  | .var x, .Name id _ => oif (id = Str.ofString x ∧ isVar sc (Str.ofString x) = true) fun h => some ⟨by obtain ⟨rfl, h⟩ := h; exact .var h⟩
  | .glob x, .Name id _ => oif (id = Str.ofString x ∧ isGlb sc (Str.ofString x) = true) fun h => some ⟨by obtain ⟨rfl, h⟩ := h; exact .glob h⟩
  | .op p args, x => (opA? sc p x).bind fun xs => o1 (chkEs fs sc args xs.1) fun h => .op xs.2 h
  | .mcall p o args, .Call (.Attribute o' name apos) [x1] [] pos => (match hm : methName p with
    | some m => oif (name = Str.ofString m ∧ (apos.endLine == pos.line) = true ∧ plainBase o' = true) fun h => o2 (chkE fs sc o o') (chkEs fs sc args [x1]) fun h1 h2 => by obtain ⟨rfl, a, b⟩ := h; exact .mcall hm a b h1 h2
    | none => none)
  | .and_ es, .BoolOp .And (x :: xs) _ => o1 (chkEs fs sc es (x :: xs)) .and_
  | .or_ es, .BoolOp .Or (x :: xs) _ => o1 (chkEs fs sc es (x :: xs)) .or_
  | .not_ e, .UnaryOp .Not x _ => o1 (chkE fs sc e x) .not_
  | .ife c a b, .IfExp t x y _ => o3 (chkE fs sc c t) (chkE fs sc a x) (chkE fs sc b y) .ife
  | .chain a o b o' c, .Compare l [p, p'] [r, r'] _ => oif ((p = cmpOf o ∧ p' = cmpOf o') ∧ behindInMarks (cmpOf o) r = false ∧ behindInMarks (cmpOf o') r' = false) fun h => o3 (chkE fs sc a l) (chkE fs sc b r) (chkE fs sc c r') fun h1 h2 h3 => by
      obtain ⟨⟨rfl, rfl⟩, h, h'⟩ := h; exact .chain h h' h1 h2 h3
  | .call f args, .Call (.Name id _) xs [] _ => oif ((id = Str.ofString f ∧ f ∈ fs.fns) ∧ isGlb sc (Str.ofString f) = true) fun h => o1 (chkEs fs sc args xs) fun h1 => by obtain ⟨⟨rfl, h⟩, h'⟩ := h; exact .call h h' h1
  | .newX c args, .Call (.Name id _) (x :: xs) [] _ => oif ((id = Str.ofString c ∧ c ∈ fs.cls) ∧ isGlb sc (Str.ofString c) = true) fun h => o1 (chkEs fs sc args (x :: xs)) fun h1 => by obtain ⟨⟨rfl, h⟩, h'⟩ := h; exact .newX h h' h1
  | .new c args, .Call (.Name id _) (x :: xs) [] _ => oif ((c = "Inn" ∧ id = Str.ofString "Inn") ∧ ("Inn", "__init__") ∈ fs.meths ∧ isGlb sc (Str.ofString "Inn") = true) fun h => o1 (chkEs fs sc args (x :: xs)) fun h1 => by obtain ⟨⟨rfl, rfl⟩, a, b⟩ := h; exact .new a b h1
  | .meth m o args, .Call (.Attribute o' name apos) xs [] pos => oif (name = Str.ofString m ∧ m ∈ methNames ∧ ("Inn", m) ∈ fs.meths ∧ (apos.endLine == pos.line) = true ∧ plainBase o' = true ∧ xs.length < 29) fun h => o2 (chkE fs sc o o') (chkEs fs sc args xs) fun h1 h2 => by obtain ⟨rfl, a, b, c, d, e⟩ := h; exact .meth a b c d e h1 h2
  | .compR elt x args conds, .ListComp el [⟨.Name t _, .Call (.Name g _) xs [] _, ifs, 0⟩] scope _ => oif ((t = Str.ofString x ∧ g = Str.ofString "range") ∧ isGlb sc (Str.ofString "range") = true ∧ compOk sc scope [Str.ofString x] = true ∧ ifs.length ≤ 1) fun h =>
      o3 (chkEs fs sc args xs) (chkE fs scope elt el) (chkEs fs scope conds ifs) fun h1 h2 h3 => by obtain ⟨⟨rfl, rfl⟩, a, b, c⟩ := h; exact .compR a b c h1 h2 h3
  | .compS elt (.one x) src conds, .ListComp el [⟨.Name t _, it, ifs, 0⟩] scope _ => oif (t = Str.ofString x ∧ compOk sc scope [Str.ofString x] = true ∧ ifs.length ≤ 1) fun h =>
      o3 (chkE fs sc src it) (chkE fs scope elt el) (chkEs fs scope conds ifs) fun h1 h2 h3 => by obtain ⟨rfl, b, c⟩ := h; exact .compS b c h1 h2 h3
  | .compS elt (.two x y) src conds, .ListComp el [⟨.Tuple [.Name t _, .Name u _] _ _, it, ifs, 0⟩] scope _ => oif ((t = Str.ofString x ∧ u = Str.ofString y) ∧ x ≠ y ∧ compOk sc scope [Str.ofString x, Str.ofString y] = true ∧ ifs.length ≤ 1) fun h =>
      o3 (chkE fs sc src it) (chkE fs scope elt el) (chkEs fs scope conds ifs) fun h1 h2 h3 => by obtain ⟨⟨rfl, rfl⟩, a, b, c⟩ := h; exact .compS2 a b c h1 h2 h3
  | _, _ => none
noncomputable def chkEs (fs : Tab) (sc : Scope) : (es : List E) → (xs : List Expr) → Ok (MEs fs sc es xs)
  | [], [] => some ⟨.nil⟩
  | e :: es, x :: xs => o2 (chkE fs sc e x) (chkEs fs sc es xs) .cons
  | _, _ => none
end

/-- a name's kind, as the mini programs see it -/
noncomputable def kcls : Option NameKind → Nat
  | some .local => 1
  | some .cell | some .free => 2
  | some .globalImplicit => 3
  | _ => 0

noncomputable def ScR (sc : Scope) (env : PySem.Env) : Prop := ∀ x : Str, kcls (env.kindOf x) = kcls (sc.names.lookup x)

structure Amb (n : Nat) (A : Around) : Prop where
  handled : A.handled = none
  depth : A.depth + 2 * n + 1 < 900
  units : A.units + 20 * n + 10 < 9000
/-- where a call may be -/
structure AmbC (n : Nat) (A : Around) : Prop where
  handled : A.handled = none
  depth : A.depth + 2 * n < 900
  units : A.units + 20 * n < 9000
theorem Amb.c {n : Nat} {A : Around} (a : Amb n A) : AmbC n A := ⟨a.handled, by have := a.depth; omega, by have := a.units; omega⟩

/-- the names of the top, as the mini programs use them -/
noncomputable def bltn : String → Option Value
  | "len" => some (.builtin "len")
  | "isinstance" => some (.builtin "isinstance")
  | "list" => some (.type "list")
  | "tuple" => some (.type "tuple")
  | "range" => some (.type "range")
  | "int" => some (.type "int")
  | "bool" => some (.type "bool")
  | "str" => some (.type "str")
  | "min" => some (.builtin "min")
  | "any" => some (.builtin "any")
  | "all" => some (.builtin "all")
  | "sum" => some (.builtin "sum")
  | _ => none

/-- what stands behind an exception class in its order of bases -/
noncomputable def excBm : List Value := [.type "ValueError", .type "Exception", .type "BaseException", .type "object"]

/-- a method of a class -/
noncomputable def MethAt (mg : Str → Option Value) (h : Heap) (c m : String) (r : Addr) : Prop :=
  ∃ C N mN o, mg (Str.ofString c) = some (.ref C) ∧ PyProof.Rows.ClsAt h C N mN ∧ mN (Str.ofString m) = some (.ref r) ∧ h.get? r = some o ∧ o.cls = .type "function"
/-- the first method of a class -/
noncomputable def InitAt (mg : Str → Option Value) (h : Heap) (c : String) (r : Addr) : Prop := MethAt mg h c "__init__" r
/-- the class of the objects -/
inductive InnOk (mg : Str → Option Value) (h : Heap) : Prop
  | mk (C N : Addr) (mN : Str → Option Value) : mg (Str.ofString "Inn") = some (.ref C) → PyProof.Rows.ClsAt h C N mN → (mN "__setattr__" = none ∧ mN "__getattribute__" = none ∧ mN "__getattr__" = none) → (∀ n ∈ attrNames, mN (Str.ofString n) = none) →
      (∀ m ∈ methNames, ∃ f o fd, mN (Str.ofString m) = some (.ref f) ∧ h.get? f = some o ∧ o.cls = .type "function" ∧ o.data = .func fd) → InnOk mg h
theorem InnOk.keeps {mg : Str → Option Value} {h h' : Heap} (x : InnOk mg h) (hk : ∀ b o, h.get? b = some o → h'.get? b = some o) : InnOk mg h' :=
  let ⟨C, N, mN, a, b, c, d, e⟩ := x; ⟨C, N, mN, a, b.keeps hk, c, d, fun m hm => let ⟨f, o, fd, p, q, r, t⟩ := e m hm; ⟨f, o, fd, p, hk _ _ q, r, t⟩⟩
theorem InitAt.keeps {mg : Str → Option Value} {h h' : Heap} {c : String} {r : Addr} (x : InitAt mg h c r) (hk : ∀ b o, h.get? b = some o → h'.get? b = some o) : InitAt mg h' c r :=
  let ⟨C, N, mN, o, a, X, b, d, e⟩ := x; ⟨C, N, mN, o, a, X.keeps hk, b, hk _ _ d, e⟩

structure Names (P : Prog) (fs : Tab) (mg mb : Str → Option Value) (h : Heap) : Prop where
  g : h.Ns mainGlobals mg
  b : h.Ns builtinsNs mb
  nolimit : h.NoLimit
  blt : ∀ x v, bltn x = some v → mg (Str.ofString x) = none ∧ mb (Str.ofString x) = some v
  glob : ∀ x v, P.glob x = some v → ∃ u, mg (Str.ofString x) = some u ∧ VR [] v u
  fn : ∀ f ∈ fs.fns, ∃ r ob fd, mg (Str.ofString f) = some (.ref r) ∧ h.get? r = some ob ∧ ob.data = .func fd
  cls : ∀ c ∈ fs.excs, ∃ C, PyProof.Rows.OwnClsQ (Str.ofString c) C excBm "ValueError.__new__" mg h
  init : ∀ c ∈ fs.cls, ∃ r, InitAt mg h c r
  inn : InnOk mg h

theorem Names.keeps {P : Prog} {fs : Tab} {mg mb : Str → Option Value} {h h' : Heap} (x : Names P fs mg mb h) (hk : ∀ b o, h.get? b = some o → h'.get? b = some o) : Names P fs mg mb h' :=
  ⟨x.g.keeps hk, x.b.keeps hk, x.nolimit.keeps hk, x.blt, x.glob, fun f hf => let ⟨r, ob, fd, a, b, c⟩ := x.fn f hf; ⟨r, ob, fd, a, hk _ _ b, c⟩, fun c hc => let ⟨C, o⟩ := x.cls c hc; ⟨C, o.keeps hk⟩, fun c hc => let ⟨r, y⟩ := x.init c hc; ⟨r, y.keeps hk⟩
  , x.inn.keeps hk
  ⟩

section
variable {prog : Program} {w : World} {A : Around} {E : Value → Shared → Prop} {s : Shared} {env : PySem.Env} {Q : Value → Shared → Prop}

noncomputable def wpList (prog : Program) (w : World) (A : Around) (env : PySem.Env) : List Expr → (List Value → Shared → Prop) → (Value → Shared → Prop) → Shared → Prop
  | [], Q, _, s => Q [] s
  | x :: xs, Q, E, s => wpAny (model prog w) A (eval x env) (fun u s1 => wpList prog w A env xs (fun us s2 => Q (u :: us) s2) E s1) E s

theorem wpList_mono {xs : List Expr} {Q Q' : List Value → Shared → Prop} {s : Shared} (h : wpList prog w A env xs Q E s) (hQ : ∀ us s, Q us s → Q' us s) : wpList prog w A env xs Q' E s := by
  induction xs generalizing Q Q' s with
  | nil => exact hQ _ _ h
  | cons x xs ih => exact wpAny_mono h (fun u s1 h1 => ih h1 fun us s2 h2 => hQ _ _ h2) fun _ _ e => e

/-- no star -/
noncomputable def plainE : Expr → Bool
  | .Starred .. => false
  | _ => true
theorem starEach_plain {e : Expr} {rest : List Expr} (h : plainE e = true) : starEach (e :: rest) env = (false, eval e env) :: starEach rest env := by
  cases e <;> first | rfl | cases h

theorem wpList_spliced {pos : Pos} {xs : List Expr} {Q : List Value → Shared → Prop} {s : Shared} (hp : xs.all plainE = true) (h : wpList prog w A env xs Q E s) : wpAny (model prog w) A (spliced (backTo pos (starEach xs env))) Q E s := by
  induction xs generalizing Q s with
  | nil => exact wpAny_items_nil h
  | cons x xs ih =>
    rw [List.all_cons, Bool.and_eq_true] at hp
    exact wpAny_items_cons (wpAny_mono h (fun u s1 h1 => ih hp.2 h1) fun _ _ e => e) (starEach_plain hp.1)

theorem backTo_any {pos : Pos} {xs : List Expr} (hp : xs.all plainE = true) : (backTo pos (starEach xs env)).any (·.1) = false := by
  induction xs with
  | nil => rfl
  | cons x xs ih =>
    rw [List.all_cons, Bool.and_eq_true] at hp
    rw [starEach_plain hp.1]
    show (false || (backTo pos (starEach xs env)).any (·.1)) = false
    rw [ih hp.2]; rfl

theorem wpList_args {f : Value} {pos : Pos} {xs : List Expr} {Q : Args → Shared → Prop} (hp : xs.all plainE = true) (h : wpList prog w A env xs (fun us s1 => Q ⟨us, []⟩ s1) E s) :
    wpAny (model prog w) A (evalArgs f true (backTo pos (starEach xs env)) []) Q E s := by
  cases xs with
  | nil => exact evalArgs_none h
  | cons x xs =>
    have hp' := hp
    rw [List.all_cons, Bool.and_eq_true] at hp
    have := wpList_spliced (pos := pos) hp' h
    rw [starEach_plain hp.1] at this ⊢
    exact Calls.evalArgs_plain this

theorem call_builtinE {id : String} {pos : Pos} {xs : List Expr} (hp : xs.all plainE = true) (h : wpList prog w A env xs (fun us s1 => wpAny (model prog w) A (call (.builtin id) us) Q E s1) E s) :
    wpAny (model prog w) A (callWith pos (.builtin id) [] (backTo pos (starEach xs env)) []) Q E s :=
  Calls.callWith_builtin (backTo_any hp) (wpList_args hp h)
theorem call_typeE {T : String} {pos : Pos} {xs : List Expr} (hp : xs.all plainE = true) (h : wpList prog w A env xs (fun us s1 => wpAny (model prog w) A (call (.type T) us) Q E s1) E s) :
    wpAny (model prog w) A (callWith pos (.type T) [] (backTo pos (starEach xs env)) []) Q E s :=
  callWith_type (backTo_any hp) (wpList_args hp h)

theorem name_global {id : Str} {pos : Pos} {mg : Str → Option Value} {u : Value} (hk : env.scope.kind = .function) (hg : env.globals = mainGlobals) (hn : s.heap.Ns mainGlobals mg) (hx : env.kindOf id = some .globalImplicit)
    (hd : (id == ("__debug__" : Str)) = false) (hv : mg id = some u) (h : Q u s) : wpAny (model prog w) A (eval (.Name id pos) env) Q E s :=
  Calls.Name_function_global hk hx (Calls.loadGlobal_global (hg ▸ hn) hv h) hd
theorem name_builtin {id : Str} {pos : Pos} {mg mb : Str → Option Value} {u : Value} (hk : env.scope.kind = .function) (hg : env.globals = mainGlobals) (hb : env.builtins = builtinsNs) (hn : s.heap.Ns mainGlobals mg) (hm : s.heap.Ns builtinsNs mb)
    (hx : env.kindOf id = some .globalImplicit) (hd : (id == ("__debug__" : Str)) = false) (h0 : mg id = none) (hv : mb id = some u) (h : Q u s) : wpAny (model prog w) A (eval (.Name id pos) env) Q E s :=
  Calls.Name_function_global hk hx (Calls.loadGlobal_builtin (hg ▸ hn) h0 (hb ▸ hm) hv h) hd
end
end Mine

namespace Mine
open PySem

section
variable {prog : Program} {w : World} {A : Around} {E : Value → Shared → Prop} {s : Shared} {env : PySem.Env} {Q : Value → Shared → Prop}

theorem isGlb_kind {sc : Scope} {id : Str} (h : isGlb sc id = true) (hs : ScR sc env) : env.kindOf id = some .globalImplicit ∧ (id == ("__debug__" : Str)) = false := by
  unfold isGlb at h
  split at h
  · rename_i e
    have := hs id
    rw [e] at this
    refine ⟨?_, by simpa using h⟩
    cases hk : env.kindOf id with
    | none => (first | exact clash hk this | exact clash this hk | (rw [hk] at this; cases this))
    | some k => rw [hk] at this; cases k <;> first | rfl | cases this
  · cases h

structure Frm (P : Prog) (fs : Tab) (mg mb : Str → Option Value) (sc : Scope) (env : PySem.Env) (h : Heap) : Prop where
  names : Names P fs mg mb h
  kind : env.scope.kind = .function
  glob : env.globals = mainGlobals
  bltn : env.builtins = builtinsNs
  sc : ScR sc env

variable {P : Prog} {fs : Tab} {mg mb : Str → Option Value} {sc : Scope}

theorem Frm.keeps {h h' : Heap} (f : Frm P fs mg mb sc env h) (hk : ∀ b o, h.get? b = some o → h'.get? b = some o) : Frm P fs mg mb sc env h' := ⟨f.names.keeps hk, f.kind, f.glob, f.bltn, f.sc⟩

theorem Frm.builtin (f : Frm P fs mg mb sc env s.heap) {x : String} {v : Value} {pos : Pos} (hg : isGlb sc (Str.ofString x) = true) (hv : Mine.bltn x = some v) (h : Q v s) :
    wpAny (model prog w) A (eval (.Name (Str.ofString x) pos) env) Q E s := by
  obtain ⟨hk, hd⟩ := isGlb_kind hg f.sc
  obtain ⟨h0, h1⟩ := f.names.blt x v hv
  exact name_builtin f.kind f.glob f.bltn f.names.g f.names.b hk hd h0 h1 h

/-- a built-in function called by its name -/
theorem Frm.callB (f : Frm P fs mg mb sc env s.heap) {x id : String} {xs : List Expr} {p pos : Pos} (hg : isGlb sc (Str.ofString x) = true) (hv : Mine.bltn x = some (.builtin id)) (hp : xs.all plainE = true)
    (h : wpList prog w A env xs (fun us s1 => wpAny (model prog w) A (call (.builtin id) us) Q E s1) E s) : wpAny (model prog w) A (eval (.Call (.Name (Str.ofString x) p) xs [] pos) env) Q E s :=
  wpAny_Call_Name_kw (f.builtin hg hv (call_builtinE hp h))
theorem Frm.callT (f : Frm P fs mg mb sc env s.heap) {x T : String} {xs : List Expr} {p pos : Pos} (hg : isGlb sc (Str.ofString x) = true) (hv : Mine.bltn x = some (.type T)) (hp : xs.all plainE = true)
    (h : wpList prog w A env xs (fun us s1 => wpAny (model prog w) A (call (.type T) us) Q E s1) E s) : wpAny (model prog w) A (eval (.Call (.Name (Str.ofString x) p) xs [] pos) env) Q E s :=
  wpAny_Call_Name_kw (f.builtin hg hv (call_typeE hp h))

theorem sub_any {value slice : Expr} {pos : Pos} (hs : isSlice slice = false)
    (h : wpAny (model prog w) A (eval value env) (fun o s₁ => wpAny (model prog w) A (eval slice env) (fun i s₂ => SubscriptOn (model prog w) A o i Q E s₂) E s₁) E s) :
    wpAny (model prog w) A (eval (.Subscript value slice pos) env) Q E s := by
  rw [eval_Subscript]
  refine wpAny_bind (wpAny_mono h (fun o s₁ h₁ => wpAny_bind (wpAny_holding (wpAny_mono h₁ (fun i s₂ h₂ => wpAny_bind (wpAny_standAt ?_)) fun _ _ x => x))) fun _ _ x => x)
  obtain ⟨T, id, hl, hT, hg⟩ := h₂
  refine wpAny_bind ?_
  rw [getitemInPython_of_ne hT.not_modules]
  refine wpAny_bind (wpAny_specialOf hT hl ?_)
  have hsub : subscripted slice false o i = operate [o, i] (getItem o i) := by
    cases slice <;> first | rfl | cases hs
  refine wpAny_pure (wpAny_bind ?_)
  rw [hsub]
  exact wpAny_operating (wpAny_mono hg (fun r s₃ h₃ => wpAny_bind (wpAny_letTemporaryGo (wpAny_pure h₃))) fun _ _ x => x)

theorem sub_slice {value : Expr} {lower upper : Option Expr} {p pos : Pos}
    (h : wpAny (model prog w) A (eval value env) (fun o s₁ => wpAny (model prog w) A (eval (.Slice lower upper none p) env) (fun i s₂ => SubscriptOn (model prog w) A o i Q E s₂) E s₁) E s) :
    wpAny (model prog w) A (eval (.Subscript value (.Slice lower upper none p) pos) env) Q E s := by
  rw [eval_Subscript]
  refine wpAny_bind (wpAny_mono h (fun o s₁ h₁ => wpAny_bind (wpAny_holding (wpAny_mono h₁ (fun i s₂ h₂ => wpAny_bind (wpAny_standAt ?_)) fun _ _ x => x))) fun _ _ x => x)
  obtain ⟨T, id, hl, hT, hg⟩ := h₂
  refine wpAny_bind ?_
  rw [getitemInPython_of_ne hT.not_modules]
  refine wpAny_bind (wpAny_specialOf hT hl ?_)
  refine wpAny_pure (wpAny_bind ?_)
  show wpAny _ _ (operate [i, o] (getItem o i)) _ _ _
  exact wpAny_operating (wpAny_mono hg (fun r s₃ h₃ => wpAny_bind (wpAny_letTemporaryGo (wpAny_pure h₃))) fun _ _ x => x)

variable {h₀ : Heap} {β : List Addr} {H : Hp}

theorem slicePick_cut (us : List Value) (lo hi : Option Int) : slicePick us.toArray lo hi none = (cut us lo hi).toArray := by
  rw [slicePick_plain]
  simp only [cut, List.size_toArray]
  rfl

theorem All2.cut {α β : Type} {R : α → β → Prop} {as : List α} {bs : List β} (h : All2 R as bs) (lo hi : Option Int) : All2 R (Mine.cut as lo hi) (Mine.cut bs lo hi) := by
  unfold Mine.cut
  rw [h.length]
  exact (h.drop _).take _
theorem cut_length {α : Type} (xs : List α) (lo hi : Option Int) : (cut xs lo hi).length ≤ xs.length := by
  unfold cut
  rw [List.length_take, List.length_drop]; omega

theorem SR.listOf (x : SR h₀ β H s.heap) {a : Nat} {r : Addr} {xs : List V} (ha : H[a]? = some (.list xs) ∨ H[a]? = some (.frozen xs)) (hr : β[a]? = some r) :
    ∃ us, s.heap.IsList r us.toArray ∧ VRs β xs us ∧ xs.length ≤ lim := by
  rcases ha with ha | ha
  · obtain ⟨us, n, _, e, vr, hl⟩ := x.list ha hr
    exact ⟨us, ⟨_, e, rfl, n, rfl⟩, vr, hl⟩
  · obtain ⟨r', e', sl⟩ := x.at ha
    (first | exact clash hr e' | exact clash e' hr | (rw [hr] at e'; cases e'))
    cases sl with
    | frozen a b c d l => exact ⟨_, ⟨_, x.kept _ _ a, b, _, c⟩, d, l⟩
    | own a b c => cases c

/-- a slice of a list: the slice object, then the list -/
theorem p_sliceL {a : Nat} {r : Addr} {xs : List V} {vl vu : Value} {lo hi : Option Int} (ha : H[a]? = some (.list xs) ∨ H[a]? = some (.frozen xs)) (hr : β[a]? = some r) (pl : IsPart vl lo) (pu : IsPart vu hi)
    (k : Cont h₀ β s (.ref H.length) (H ++ [.list (cut xs lo hi)]) Q) (sr : SR h₀ β H s.heap) :
    SubscriptOn (model prog w) A (.ref r) (.ref s.heap.objs.size) Q E { s with heap := s.heap.push { cls := .type "slice", data := .fields #[vl, vu, .none] } } := by
  obtain ⟨us, hl, vr, hle⟩ := sr.listOf ha hr
  have hlen := vr.length
  have hl' := hl.push { cls := .type "slice", data := .fields #[vl, vu, .none] }
  refine ⟨"list", "list.__getitem__", list_getitem_lookup, hl'.typeIs, ?_⟩
  refine wpAny_getItem_list_slice hl' (Heap.IsSliceOf.new _ _ _ _) pl pu .none (by simp) ?_ (by rw [List.size_toArray, ← hlen]; exact lim_line _ hle)
  rw [slicePick_cut]
  dsimp only
  refine Cont.newAt (t := s.toks) k sr (r := (s.heap.push _).objs.size) (get_none_of_le (by rw [Heap.size_push]; omega)) (fun b o e => Heap.get?_push_of_some _ (Heap.get?_push_of_some _ e)) (Heap.get?_push_size _ rfl)
    (.list (vr.cut lo hi) (by have := cut_length xs lo hi; omega))

theorem list_on {a : Nat} {r : Addr} {xs : List V} {i : Value} (sr : SR h₀ β H s.heap) (ha : seqOf H a = some xs) (hr : β[a]? = some r) (hg : wpAny (model prog w) A (getItem (.ref r) i) Q E s) : SubscriptOn (model prog w) A (.ref r) i Q E s := by
  obtain ⟨us, hq, _, _⟩ := sr.isSeq ha hr
  rcases hq with hq | hq
  · exact ⟨"list", "list.__getitem__", list_getitem_lookup, hq.typeIs, hg⟩
  · exact ⟨"tuple", "tuple.__getitem__", PyProof.Rows.slot_tuple_getitem.lookup, hq.typeIs, hg⟩

end
end Mine

namespace Mine
open PySem
open AutoSeq1 (wpAny_loadPart')
open MeetsSeq3 (plain_eq_loop entry_eq_loop)

section
variable {prog : Program} {w : World} {A : Around} {E : Value → Shared → Prop} {s : Shared} {h₀ : Heap} {β : List Addr} {H H' : Hp} {v : V} {Q : Value → Shared → Prop}

end
end Mine

namespace Mine
open PySem

section
variable {prog : Program} {w : World} {A : Around} {E : Value → Shared → Prop} {s : Shared} {env : PySem.Env} {h₀ : Heap} {β : List Addr} {H H' : Hp} {v : V} {Q : Value → Shared → Prop}

theorem rangeI_length (a b c : Int) : (rangeI a b c).length = (if a < b then (b - a - 1) / c + 1 else 0).toNat := by simp [rangeI]
theorem rangeSize_pos {a b c : Int} (hc : 0 < c) : Builtin.Range.rangeSize a b c = ((rangeI a b c).length : Int) := by
  rw [rangeI_length]
  unfold Builtin.Range.rangeSize
  rw [if_pos hc]
  split
  · have : 0 ≤ (b - a - 1) / c := Int.ediv_nonneg (by omega) (by omega)
    omega
  · rfl

theorem size_lim {a b c : Int} (ha : a.natAbs ≤ lim) (hb : b.natAbs ≤ lim) (hc0 : 0 < c) : Builtin.Range.rangeSize a b c ≤ 300000 ∧ 0 ≤ Builtin.Range.rangeSize a b c := by
  unfold lim at ha hb
  unfold Builtin.Range.rangeSize
  rw [if_pos hc0]
  split
  · have h1 : 0 ≤ (b - a - 1) / c := Int.ediv_nonneg (by omega) (by omega)
    have h2 : (b - a - 1) / c ≤ b - a - 1 := Int.ediv_le_self _ (by omega)
    omega
  · omega
theorem fits {i : Int} (h : i.natAbs ≤ 1000000) : Builtin.Range.rangeFitsLong i = true := by
  unfold Builtin.Range.rangeFitsLong
  simp only [Bool.and_eq_true, decide_eq_true_eq]
  omega
theorem small_lim {a b c : Int} (ha : a.natAbs ≤ lim) (hb : b.natAbs ≤ lim) (hc : c.natAbs ≤ lim) (hc0 : 0 < c) : Builtin.Range.small a b c = true := by
  have h1 := size_lim ha hb hc0
  have up {i : Int} (h : i.natAbs ≤ lim) : i.natAbs ≤ 1000000 := Nat.le_trans h (by decide)
  unfold Builtin.Range.small
  rw [fits (up ha), fits (up hb), fits (up hc), fits (i := Builtin.Range.rangeSize a b c) (by omega), if_pos hc0, fits (i := b + (c - 1)) (by unfold lim at hb hc; omega)]
  exact Bool.or_true _

/-- the heap has grown, and nothing else -/
theorem Cont.junk {u : Value} {t : Nat} {h' : Heap} (k : Cont h₀ β s v H Q) (sr : SR h₀ β H s.heap) (hk : ∀ b o, s.heap.get? b = some o → h'.get? b = some o) (vr : VR β v u) : Q u { s with heap := h', toks := t } :=
  k u _ β (Step.of_heap hk) (sr.keeps hk) vr

theorem p_intB {b : Bool} (k : Cont h₀ β s (.int (if b then 1 else 0)) H Q) (sr : SR h₀ β H s.heap) : wpAny (model prog w) A (call (.type "int") [.bool b]) Q E s := by
  refine call_int_bool ?_
  cases b
  · exact k.same sr (.int _ _)
  · exact k.same sr (.int _ _)

theorem All2.rev {α γ : Type} {R : α → γ → Prop} {as : List α} {bs : List γ} (h : All2 R as bs) : All2 R as.reverse bs.reverse := by
  induction h with
  | nil => exact .nil
  | cons hr _ ih => rw [List.reverse_cons, List.reverse_cons]; exact ih.append (.cons hr .nil)

end
end Mine

namespace Mine
open PySem
set_option maxRecDepth 100000

section
variable {prog : Program} {w : World} {A : Around} {E : Value → Shared → Prop} {s : Shared} {h₀ : Heap} {β : List Addr} {H H' : Hp} {v : V} {Q : Value → Shared → Prop}

end
end Mine

namespace Mine
open PySem

section
variable {prog : Program} {w : World} {A : Around} {E : Value → Shared → Prop} {s : Shared} {h₀ : Heap} {β : List Addr} {H H' : Hp} {v : V} {Q : Value → Shared → Prop}

theorem bools_of : ∀ {xs : List V} {us : List Value} {bs : List Bool}, VRs β xs us → xs.mapM asBool = some bs → us = bs.map Value.bool := by
  intro xs us bs hv
  induction hv generalizing bs with
  | nil => intro h; rw [mapM_nil_some h]; rfl
  | cons h _ ih =>
    intro hm
    obtain ⟨y, r, h1, h2, rfl⟩ := mapM_cons_some hm
    rw [ih h2]
    cases h <;> simp only [asBool] at h1 <;> cases h1
    rfl

theorem p_all {a : Nat} {r : Addr} {xs : List V} {bs : List Bool} (hh : A.handled = none) (ha : H[a]? = some (.list xs)) (hr : β[a]? = some r) (hi : xs.mapM asBool = some bs)
    (k : Cont h₀ β s (.bool (bs.all id)) H Q) (sr : SR h₀ β H s.heap) : wpAny (model prog w) A (call (.builtin "all") [.ref r]) Q E s := by
  obtain ⟨us, n, _, e, vr, _⟩ := sr.list ha hr
  have := bools_of vr hi
  subst this
  have hl : s.heap.IsList r (bs.map Value.bool).toArray := ⟨_, e, rfl, n, rfl⟩
  have hne : r ≠ s.heap.objs.size := Nat.ne_of_lt (Heap.lt_size e)
  refine call_all_walk (wpAny_pyIter_list hl ⟨s.heap.objs.size, _, _, _, _, _, fun i => bs.getD i false, rfl, Walks.list (A := A.in1) hh _ r hne (bs.map Value.bool).toArray, ⟨⟨_, Heap.get?_push_size _ rfl, rfl, rfl⟩, hl.push _⟩, fun i v s' Q' E' hv hQ => ?_, fun h' tk hk => ?_⟩)
  · simp only [List.getElem?_toArray, List.getElem?_map, Option.map_eq_some_iff] at hv
    obtain ⟨b, hb, rfl⟩ := hv
    have : bs.getD i false = b := by rw [List.getD_eq_getElem?_getD, hb]; rfl
    dsimp only at hQ
    rw [this] at hQ
    exact wpAny_truthy_bool hQ
  · have ea : ((List.range (bs.map Value.bool).toArray.size).all fun i => bs.getD i false) = bs.all id := by
      rw [List.size_toArray, List.length_map]
      rw [Bool.eq_iff_iff, List.all_eq_true, List.all_eq_true]
      constructor
      · intro h x hx
        obtain ⟨i, hi, rfl⟩ := List.mem_iff_getElem.mp hx
        have := h i (by simpa using hi)
        rw [List.getD_eq_getElem?_getD, List.getElem?_eq_getElem hi] at this; exact this
      · intro h i hi
        have hi : i < bs.length := by simpa using hi
        rw [List.getD_eq_getElem?_getD, List.getElem?_eq_getElem hi]
        exact h _ (List.getElem_mem hi)
    rw [ea]
    refine k.junk sr (fun b o eb => hk b o (fun hm => ?_) (Heap.get?_push_of_some _ eb)) (.bool _)
    simp at hm; subst hm; exact Nat.lt_irrefl _ (Heap.lt_size eb)
end
end Mine

namespace Mine
open PySem

theorem ns_uniq {h : Heap} {a : Addr} {m m' : Str → Option Value} (x : h.Ns a m) (y : h.Ns a m') (n : Str) : m n = m' n := by
  obtain ⟨o, es, ep, e, d, _, f⟩ := x
  obtain ⟨o', es', ep', e', d', _, f'⟩ := y
  cases e.symm.trans e'
  cases d.symm.trans d'
  rw [← f n, f' n]

theorem obj_none {n : String} (h : n ∈ attrNames) : typeLookup (.type "object") (Str.ofString n) = pure none := by
  simp only [attrNames, List.mem_cons, List.not_mem_nil, or_false] at h
  rcases h with rfl | rfl
  · rw [typeLookup_type, builtinLookup_eq_fast]; kernel_rfl
  · rw [typeLookup_type, builtinLookup_eq_fast]; kernel_rfl
theorem obj_meth {n : String} (h : n ∈ methNames) : ∃ y, typeLookup (.type "object") (Str.ofString n) = pure y := by
  simp only [methNames, List.mem_cons, List.not_mem_nil, or_false] at h
  rcases h with rfl | rfl | rfl | rfl
  · exact ⟨some (.builtin "object.__init__"), by rw [typeLookup_type, builtinLookup_eq_fast]; kernel_rfl⟩
  · exact ⟨none, by rw [typeLookup_type, builtinLookup_eq_fast]; kernel_rfl⟩
  · exact ⟨none, by rw [typeLookup_type, builtinLookup_eq_fast]; kernel_rfl⟩
  · exact ⟨none, by rw [typeLookup_type, builtinLookup_eq_fast]; kernel_rfl⟩
theorem meth_attr {n m : String} (hn : n ∈ attrNames) (hm : m ∈ methNames) : n ≠ m := by
  simp only [attrNames, methNames, List.mem_cons, List.not_mem_nil, or_false] at hn hm
  rcases hn with rfl | rfl <;> rcases hm with rfl | rfl | rfl | rfl <;> decide

theorem setF_lookup (fs : List (String × V)) (n : String) (v : V) (y : String) : (setF fs n v).lookup y = if y = n then some v else fs.lookup y := by
  have aux : ∀ fs : List (String × V), (fs.map fun f => if (f.1 == n) = true then (n, v) else f).lookup y = if y = n then (fs.lookup n).map fun _ => v else fs.lookup y := by
    intro fs
    induction fs with
    | nil => split <;> rfl
    | cons f fs ih =>
      obtain ⟨k, u⟩ := f
      rw [List.map_cons]
      by_cases hk : k = n
      · subst hk
        simp only [beq_self_eq_true, if_true, List.lookup_cons]
        by_cases hy : y = k
        · subst hy; simp
        · simp only [beq_eq_false_iff_ne.mpr hy, hy, if_false] at ih ⊢; exact ih
      · simp only [beq_eq_false_iff_ne.mpr hk, Bool.false_eq_true, if_false, List.lookup_cons]
        by_cases hy : y = n
        · subst hy
          have : (y == k) = false := beq_eq_false_iff_ne.mpr (Ne.symm hk)
          simp only [this, if_true] at ih ⊢; exact ih
        · simp only [hy, if_false] at ih ⊢
          cases y == k
          · exact ih
          · rfl
  unfold setF
  split
  · rename_i h
    rw [aux]
    split
    · rename_i hy
      have : ∃ u, fs.lookup n = some u := by
        clear aux
        induction fs with
        | nil => simp at h
        | cons f fs ih =>
          obtain ⟨k, u⟩ := f
          rw [List.lookup_cons]
          by_cases hk : n = k
          · subst hk; simp
          · have hk' : (k == n) = false := beq_eq_false_iff_ne.mpr (Ne.symm hk)
            rw [beq_eq_false_iff_ne.mpr hk]
            simp only [List.any_cons, hk', Bool.false_or] at h
            exact ih h
      obtain ⟨u, hu⟩ := this
      rw [hu]; rfl
    · rfl
  · rename_i h
    have hno : fs.lookup n = none := by
      clear aux
      induction fs with
      | nil => rfl
      | cons f fs ih =>
        obtain ⟨k, u⟩ := f
        simp only [List.any_cons, Bool.or_eq_true, not_or] at h
        rw [List.lookup_cons]
        have : (n == k) = false := by
          rw [beq_eq_false_iff_ne]; rintro rfl; exact h.1 (by simp)
        rw [this]
        exact ih h.2
    have app : ∀ fs : List (String × V), (fs ++ [(n, v)]).lookup y = (fs.lookup y).or (if y = n then some v else none) := by
      intro fs
      induction fs with
      | nil =>
        rw [List.nil_append, List.lookup_cons]
        by_cases hy : y = n
        · subst hy; simp
        · simp [beq_eq_false_iff_ne.mpr hy, hy]
      | cons f fs ih =>
        obtain ⟨k, u⟩ := f
        rw [List.cons_append, List.lookup_cons, List.lookup_cons, ih]
        cases y == k <;> rfl
    rw [app]
    by_cases hy : y = n
    · subst hy; rw [hno]; simp
    · simp [hy]

section
variable {prog : Program} {w : World} {A : Around} {E : Value → Shared → Prop} {s : Shared} {h₀ : Heap} {β : List Addr} {H : Hp} {Q : Value → Shared → Prop}

/-- an object in the model -/
inductive ObjAt (h₀ h : Heap) (β : List Addr) (d : Nat) (fs : List (String × V)) (x : Addr) : Prop
  | mk (dx C : Addr) (m mgl : Str → Option Value) (ob : Obj) : β[d]? = some dx → dx ≠ x → h₀.Ns mainGlobals mgl → mgl (Str.ofString "Inn") = some (.ref C) → h.get? x = some ob → ob.dict = some dx → h.Inst x C m → FR β fs m → h₀.get? dx = none → h₀.get? x = none → ObjAt h₀ h β d fs x

theorem SR.obj (sr : SR h₀ β H s.heap) {a d : Nat} {c : String} {fs : List (String × V)} {x : Addr} (ha : H[a]? = some (.inst c d)) (hd : H[d]? = some (.fdict fs)) (hr : β[a]? = some x) : c = "Inn" ∧ ObjAt h₀ s.heap β d fs x := by
  obtain ⟨r, e, sl⟩ := sr.at ha
  cases hr.symm.trans e
  obtain ⟨r', e', sl'⟩ := sr.at hd
  cases sl with
  | own _ _ c => cases c
  | inst a1 a2 a3 a4 a5 a6 a7 a8 a9 =>
    cases e'.symm.trans a2
    cases sl' with
    | own _ _ c => cases c
    | fdict b1 b2 b3 => exact ⟨rfl, _, _, _, _, _, a2, a3, a6, a7, a4, a8, ⟨_, a4, a5, a9, .inr ⟨_, a8, a3, b2⟩⟩, b3, b1, a1⟩

theorem VR.handed {v : V} {u : Value} (h : VR β v u) : handedOut u = pure u := by cases h <;> rfl

theorem attr_some {n : String} {a : Nat} {v : V} (h : attrV n (.ref a) H = some v) : ∃ c d fs, H[a]? = some (.inst c d) ∧ H[d]? = some (.fdict fs) ∧ fs.lookup n = some v := by
  unfold attrV at h
  dsimp only at h
  split at h
  · rename_i c d e
    split at h
    · rename_i fs e'; exact ⟨c, d, fs, e, e', h⟩
    · cases h
  · cases h

/-- an object's attribute -/
theorem p_attr {mg : Str → Option Value} (io : InnOk mg h₀) (hg : h₀.Ns mainGlobals mg) {n : String} (hn : n ∈ attrNames) {a : Nat} {x : Addr} {v : V} (hv : attrV n (.ref a) H = some v) (hr : β[a]? = some x) (k : Cont h₀ β s v H Q) (sr : SR h₀ β H s.heap) {b : Bool} : wpAny (model prog w) A (getAttr (.ref x) (Str.ofString n) b) Q E s := by
  obtain ⟨c, d, fs, e1, e2, e3⟩ := attr_some hv
  obtain ⟨_, dx, C, m, mgl, ob, o1, o2, o3, o4, o5, o6, o7, o8, o9, o10⟩ := sr.obj e1 e2 hr
  obtain ⟨C', N, mN, i1, i2, i3, i4, i5⟩ := io
  cases o4.symm.trans ((ns_uniq o3 hg _).trans i1)
  obtain ⟨u, hu, vr⟩ := o8.val n v e3
  obtain ⟨nm, q, bs, sn, sub, col, dd, k0, k1, k2, k3, k5, hC⟩ := (i2.keeps sr.kept).obj
  have kk := fun t => k.same (t := t) sr vr
  obtain ⟨hh, g, dr, t, os⟩ := s
  exact load_attr hC (i2.keeps sr.kept).ns i3.2.1 (i4 n hn) (obj_none hn) o7 hu vr.handed (kk (t + 1))

/-- an attribute is stored -/
theorem p_setAttr {mg : Str → Option Value} (io : InnOk mg h₀) (hg : h₀.Ns mainGlobals mg) {n : String} (hn : n ∈ attrNames) {a : Nat} {x : Addr} {v : V} {u : Value} {H' : Hp} (hs : setAttrV (.ref a) n v H = some H') (hr : β[a]? = some x) (vr : VR β v u) {Qu : Unit → Shared → Prop}
    (k : Cont h₀ β s .none H' (fun _ s' => Qu () s')) (sr : SR h₀ β H s.heap) : wpAny (model prog w) A (setAttr (.ref x) (Str.ofString n) u) Qu E s := by
  unfold setAttrV at hs
  dsimp only at hs
  split at hs
  · rename_i c d e1
    split at hs
    · rename_i fs e2
      cases hs
      obtain ⟨_, dx, C, m, mgl, ob, o1, o2, o3, o4, o5, o6, o7, o8, o9, o10⟩ := sr.obj e1 e2 hr
      obtain ⟨C', N, mN, i1, i2, i3, i4, i5⟩ := io
      cases o4.symm.trans ((ns_uniq o3 hg _).trans i1)
      obtain ⟨nm, q, bs, sn, sub, col, dd, k0, k1, k2, k3, k5, hC⟩ := (i2.keeps sr.kept).obj
      have hxC : x ≠ C := by
        rintro rfl
        obtain ⟨_, _, _, _, _, _, _, _, _, _, _, _, hC0⟩ := i2.obj
        exact clash hC0 o10
      obtain ⟨hh, g, dr, t, os⟩ := s
      refine store_attr (ns := attrNames.map Str.ofString) PySem.F.store_object hC (i2.keeps sr.kept).ns i3.1 (i4 n hn) (obj_none hn) hxC o7 (fun h' tk' I' hk hsame => ?_) (fun y hy => ?_) (by show 2 ≤ sizeLine; decide)
      · obtain ⟨ob1, f1, f2, f3, f4, f5⟩ := hsame ob o5
        have eob : ob1 = ob := by
          have := f5 dx o6
          cases ob1; cases ob
          simp only at f2 f3 f4 this o6
          subst f2 f3 f4; rw [this, o6]
        subst eob
        have keep : ∀ b o, b ≠ dx → hh.get? b = some o → h'.get? b = some o := fun b o hb q => by
          by_cases hx : b = x
          · subst hx; cases o5.symm.trans q; exact f1
          · exact hk b o hx (fun o₀ d' q0 qd => by cases o5.symm.trans q0; cases o6.symm.trans qd; exact hb) q
        have ns' : h'.Ns1 dx (fun y => if y = Str.ofString n then some u else m y) := by
          obtain ⟨o', q1, _, _, q4⟩ := I'
          cases f1.symm.trans q1
          rcases q4 with ⟨q5, _⟩ | ⟨d', q5, _, q6⟩
          · cases o6.symm.trans q5
          · cases o6.symm.trans q5; exact q6
        have mem : dx ∈ β := List.mem_of_getElem? o1
        refine k .none ⟨h', g, dr, tk', os⟩ β ⟨⟨_, _, rfl⟩, List.prefix_refl _, fun b hb => .of fun o q => keep b o (by rintro rfl; exact hb mem) q, fun _ hb => .inl hb⟩ ?_ .none
        refine sr.updS (h' := h') o1 o9 (fun b o hb q => keep b o hb q) (.fdict o9 ns' ⟨fun y v' hy => ?_, fun y hy => ?_⟩)
        · rw [setF_lookup] at hy
          by_cases hyn : y = n
          · subst hyn; rw [if_pos rfl] at hy; cases hy; exact ⟨u, if_pos rfl, vr⟩
          · rw [if_neg hyn] at hy
            obtain ⟨u', hu', vr'⟩ := o8.val y v' hy
            exact ⟨u', by rw [if_neg (ofString_ne hyn)]; exact hu', vr'⟩
        · by_cases hyn : y = Str.ofString n
          · exact ⟨n, hn, hyn⟩
          · rw [if_neg hyn] at hy; exact o8.only y hy
      · obtain ⟨n', h1, h2⟩ := o8.only y hy
        exact List.mem_map.mpr ⟨n', h1, h2.symm⟩
    · cases hs
  · cases hs

/-- a method of an object -/
theorem p_method {mg : Str → Option Value} (io : InnOk mg h₀) (hg : h₀.Ns mainGlobals mg) {m : String} (hm : m ∈ methNames) {a d : Nat} {c : String} {fs : List (String × V)} {x : Addr} (ha : H[a]? = some (.inst c d)) (hd : H[d]? = some (.fdict fs)) (hr : β[a]? = some x) (sr : SR h₀ β H s.heap) :
    c = "Inn" ∧ ∃ f o fd, MethAt mg h₀ "Inn" m f ∧ h₀.get? f = some o ∧ o.data = .func fd ∧ ∀ {pl : Sem Bool} {Q : Value × List Value → Shared → Prop} {E : Value → Shared → Prop}, Q (.ref f, [.ref x]) s → wpAny (model prog w) A (getMethod (.ref x) (Str.ofString m) pl) Q E s := by
  obtain ⟨ec, dx, C, mA, mgl, ob, o1, o2, o3, o4, o5, o6, o7, o8, o9, o10⟩ := sr.obj ha hd hr
  obtain ⟨C', N, mN, i1, i2, i3, i4, i5⟩ := io
  cases o4.symm.trans ((ns_uniq o3 hg _).trans i1)
  obtain ⟨f, o, fd, j1, j2, j3, j4⟩ := i5 m hm
  obtain ⟨y, hy⟩ := obj_meth hm
  refine ⟨ec, f, o, fd, ⟨C, N, mN, o, i1, i2, j1, j2, j3⟩, j2, j4, fun {pl Q E} hq => ?_⟩
  obtain ⟨nm, q, bs, sn, sub, col, dd, k0, k1, k2, k3, k5, hC⟩ := (i2.keeps sr.kept).obj
  obtain ⟨hh, g, dr, t, os⟩ := s
  refine method_of hC (i2.keeps sr.kept).ns i3.2.1 i3.2.2 j1 (sr.kept _ _ j2) j3 hy o7 ?_ hq
  cases e : mA (Str.ofString m) with
  | none => rfl
  | some u =>
    obtain ⟨n', h1, h2⟩ := o8.only (Str.ofString m) (by rw [e]; simp)
    exact absurd (ofString_inj h2).symm (meth_attr h1 hm)
end
end Mine

namespace Mine
open PySem

section
variable {prog : Program} {w : World} {A : Around} {E : Value → Shared → Prop} {s : Shared} {env : PySem.Env} {Q : Value → Shared → Prop} {P : Prog} {fs : Tab} {mg mb : Str → Option Value} {sc : Scope} {h₀ : Heap} {β : List Addr} {H : Hp} {n : Nat}

theorem vrs1 {vs : List V} {u : Value} (h : VRs β vs [u]) : ∃ v, vs = [v] ∧ VR β v u := by
  cases h with | cons a b => cases b; exact ⟨_, rfl, a⟩
theorem vrs2 {vs : List V} {u u' : Value} (h : VRs β vs [u, u']) : ∃ v v', vs = [v, v'] ∧ VR β v u ∧ VR β v' u' := by
  cases h with | cons a b => cases b with | cons b c => cases c; exact ⟨_, _, rfl, a, b⟩
theorem vrs3 {vs : List V} {u u' u'' : Value} (h : VRs β vs [u, u', u'']) : ∃ v v' v'', vs = [v, v', v''] ∧ VR β v u ∧ VR β v' u' ∧ VR β v'' u'' := by
  cases h with | cons a b => cases b with | cons b c => cases c with | cons c d => cases d; exact ⟨_, _, _, rfl, a, b, c⟩

theorem add_sound {a b : V} {ua ub : Value} {v : V} {H' : Hp} (h : addV a b H = some (v, H')) (ha : VR β a ua) (hb : VR β b ub) (k : Cont h₀ β s v H' Q) (sr : SR h₀ β H s.heap) :
    wpAny (model prog w) A (binaryOp .Add ua ub) Q E s := by
  cases ha with
  | int i t =>
    cases hb with
    | int j u => cases h; exact p_addI k sr
    | _ => exact no_ns h
  | str x t =>
    cases hb with
    | str y u =>
      change ite _ _ _ = _ at h
      split at h
      · rename_i hl; cases h; exact p_addS hl k sr
      · exact no_ns h
    | _ => exact no_ns h
  | ref ea =>
    cases hb with
    | ref eb =>
      obtain ⟨xs, e1, h⟩ := Option.bind_eq_some_iff.mp h
      obtain ⟨ys, e2, h⟩ := Option.bind_eq_some_iff.mp h
      split at h
      · rename_i hl; cases h
        exact p_addL (listOf_some e1) (listOf_some e2) ea eb hl k sr
      · exact no_ns h
    | _ => exact no_ns h
  | _ => exact no_ns h

theorem mul_sound {a b : V} {ua ub : Value} {v : V} {H' : Hp} (h : mulV a b H = some (v, H')) (ha : VR β a ua) (hb : VR β b ub) (k : Cont h₀ β s v H' Q) (sr : SR h₀ β H s.heap) :
    wpAny (model prog w) A (binaryOp .Mult ua ub) Q E s := by
  cases ha with
  | int i t =>
    cases hb with
    | int j u =>
      change ite _ _ _ = _ at h
      split at h
      · rename_i hl; cases h
        simp only [Bool.and_eq_true, decide_eq_true_eq] at hl
        exact p_mulI hl.1 k sr
      · exact no_ns h
    | _ => exact no_ns h
  | ref ea =>
    cases hb with
    | int j u =>
      obtain ⟨xs, e1, h⟩ := Option.bind_eq_some_iff.mp h
      cases xs with
      | nil => exact no_ns h
      | cons x r =>
        cases r with
        | cons _ _ => exact no_ns h
        | nil =>
          change ite _ _ _ = _ at h
          split at h
          · rename_i hl; cases h
            exact p_mulL (listOf_some e1) ea hl k sr
          · exact no_ns h
    | _ => exact no_ns h
  | _ => exact no_ns h

theorem bin_sound {o : Bin} {a b : V} {ua ub : Value} {v : V} {H' : Hp} (h : binV o a b H = some (v, H')) (ha : VR β a ua) (hb : VR β b ub) (k : Cont h₀ β s v H' Q) (sr : SR h₀ β H s.heap) :
    wpAny (model prog w) A (binaryOp (binOf o) ua ub) Q E s := by
  cases o with
  | add => exact add_sound h ha hb k sr
  | mul => exact mul_sound h ha hb k sr
  | sub =>
    cases ha with
    | int i t =>
      cases hb with
      | int j u => cases h; exact p_sub k sr
      | _ => exact no_ns h
    | _ => exact no_ns h
  | mod =>
    cases ha with
    | int i t =>
      cases hb with
      | int j u =>
        change ite _ _ _ = _ at h
        split at h
        · exact no_ns h
        · rename_i hj; cases h; exact p_mod hj k sr
      | _ => exact no_ns h
    | _ => exact no_ns h
  | fdiv =>
    cases ha with
    | int i t =>
      cases hb with
      | int j u =>
        change ite _ _ _ = _ at h
        split at h
        · exact no_ns h
        · rename_i hj; cases h; exact p_fdiv (by omega) (by omega) k sr
      | _ => exact no_ns h
    | _ => exact no_ns h

theorem mem_sound {x c : V} {ux uc : Value} {b : Bool} (h : mem H x c = some b) (hx : VR β x ux) (hc : VR β c uc) (hu : A.units + 100 < cLine) (sr : SR h₀ β H s.heap) :
    (∀ k : Cont h₀ β s (.bool b) H Q, wpAny (model prog w) A (compareOp .In ux uc) Q E s) ∧ (∀ k : Cont h₀ β s (.bool (!b)) H Q, wpAny (model prog w) A (compareOp .NotIn ux uc) Q E s) := by
  cases hc with
  | @ref a r hr =>
    have key : ∀ xs, seqOf H a = some xs → inD H x xs = some b → (∀ k : Cont h₀ β s (.bool b) H Q, wpAny (model prog w) A (compareOp .In ux (.ref r)) Q E s) ∧ (∀ k : Cont h₀ β s (.bool (!b)) H Q, wpAny (model prog w) A (compareOp .NotIn ux (.ref r)) Q E s) :=
      fun xs e h => ⟨fun k => p_in hx e hr h hu k sr, fun k => p_notIn hx e hr h hu k sr⟩
    obtain ⟨o, e, h⟩ := Option.bind_eq_some_iff.mp h
    cases o with
    | list xs => exact key xs (by unfold seqOf; rw [e]) h
    | frozen xs => exact key xs (by unfold seqOf; rw [e]) h
    | tuple xs => exact key xs (by unfold seqOf; rw [e]) h
    | dict es =>
      obtain ⟨r', e', sl⟩ := sr.at e
      rw [hr] at e'; cases e'
      cases sl with
      | own a b c => cases c
    | _ => exact no_ns h
  | _ => exact no_ns h

theorem cmp_sound {o : Cmp} {a b : V} {ua ub : Value} {r : Bool} (h : cmpV o a b H = some r) (ha : VR β a ua) (hb : VR β b ub) (hu : A.units + 100 < cLine) (k : Cont h₀ β s (.bool r) H Q) (sr : SR h₀ β H s.heap) :
    wpAny (model prog w) A (compareOp (cmpOf o) ua ub) Q E s := by
  cases o with
  | eq => exact p_eq ha hb h hu k sr
  | ne =>
    obtain ⟨r', e, rfl⟩ := Option.map_eq_some_iff.mp h
    exact p_ne ha hb e hu k sr
  | lt =>
    cases ha with
    | int i t =>
      cases hb with
      | int j u => cases h; exact p_lt k sr
      | _ => exact no_ns h
    | _ => exact no_ns h
  | le =>
    cases ha with
    | int i t =>
      cases hb with
      | int j u => cases h; exact p_le k sr
      | _ => exact no_ns h
    | _ => exact no_ns h
  | gt =>
    cases ha with
    | int i t =>
      cases hb with
      | int j u => cases h; exact p_gt k sr
      | _ => exact no_ns h
    | _ => exact no_ns h
  | ge =>
    cases ha with
    | int i t =>
      cases hb with
      | int j u => cases h; exact p_ge k sr
      | _ => exact no_ns h
    | _ => exact no_ns h
  | is_ =>
    cases hb with
    | none => cases h; exact p_isNone ha k sr
    | bool c =>
      cases c with
      | true => cases h; exact p_isTrue ha k sr
      | false => exact no_ns h
    | _ => exact no_ns h
  | isNot =>
    cases hb with
    | none => cases h; exact p_isNotNone ha k sr
    | bool c =>
      cases c with
      | true => cases h; exact p_isNotTrue ha k sr
      | false => exact no_ns h
    | _ => exact no_ns h
  | in_ => exact (mem_sound h ha hb hu sr).1 k
  | notIn =>
    obtain ⟨r', e, rfl⟩ := Option.map_eq_some_iff.mp h
    exact (mem_sound e ha hb hu sr).2 k

/-- the state behind the operands -/
inductive Ready (h₀ : Heap) (p : Prim) (Q : Value → Shared → Prop) (us : List Value) (s1 : Shared) : Prop
  | mk (β1 : List Addr) (vs : List V) (H1 : Hp) (v : V) (H2 : Hp) : prim p vs H1 = some (v, H2) → VRs β1 vs us → SR h₀ β1 H1 s1.heap → Cont h₀ β1 s1 v H2 Q → Ready h₀ p Q us s1

theorem Amb.room (a : Amb n A) : A.units + 100 < cLine := by have := a.units; unfold cLine; omega

theorem slice_sound {β1 : List Addr} {H1 H2 : Hp} {s : Shared} {v1 v : V} {ua vl vu : Value} {lo hi : Option Int} (hpr : sliceV v1 lo hi H1 = some (v, H2)) (va : VR β1 v1 ua) (pl : IsPart vl lo) (pu : IsPart vu hi) (k : Cont h₀ β1 s v H2 Q) (sr : SR h₀ β1 H1 s.heap) :
    SubscriptOn (model prog w) A ua (.ref s.heap.objs.size) Q E { s with heap := s.heap.push { cls := .type "slice", data := .fields #[vl, vu, .none] } } := by
  cases va with
  | ref ea =>
    obtain ⟨ys, e, hpr⟩ := Option.bind_eq_some_iff.mp hpr
    obtain ⟨o, e, e2⟩ := Option.bind_eq_some_iff.mp e
    cases hpr
    cases o with
    | list xs => cases e2; exact p_sliceL (.inl e) ea pl pu k sr
    | frozen xs => cases e2; exact p_sliceL (.inr e) ea pl pu k sr
    | _ => cases e2
  | _ => exact no_ns hpr

theorem VR.ref_inv {β : List Addr} {a : Nat} {u : Value} (h : VR β (.ref a) u) : ∃ r, u = .ref r ∧ β[a]? = some r := by
  cases h with | ref e => exact ⟨_, rfl, e⟩
theorem VR.int_inv {β : List Addr} {i : Int} {u : Value} (h : VR β (.int i) u) : ∃ t, u = .int i t := by
  cases h with | int _ t => exact ⟨t, rfl⟩
theorem on1_vr {α : Type} {β : List Addr} {vs : List V} {us : List Value} {g : V → Option α} {r : α} (vr : VRs β vs us) (h : on1 vs g = some r) : ∃ v u, us = [u] ∧ VR β v u ∧ g v = some r := by
  match vs, h with
  | [v], h =>
    cases vr with
    | cons a b => cases b; exact ⟨v, _, rfl, a, h⟩
theorem on1r_vr {α : Type} {β : List Addr} {vs : List V} {us : List Value} {g : Nat → Option α} {r : α} (vr : VRs β vs us) (h : on1r vs g = some r) : ∃ a u, us = [.ref u] ∧ β[a]? = some u ∧ g a = some r := by
  match vs, h with
  | [.ref a], h =>
    cases vr with
    | cons x b =>
      cases b
      obtain ⟨u, rfl, e⟩ := x.ref_inv
      exact ⟨a, u, rfl, e, h⟩
theorem sl_inv1 {lo : Bool} {v1 v2 : V} {H : Hp} {r : V × Hp} (h : prim (.slice lo (!lo)) [v1, v2] H = some r) : ∃ j, v2 = .int j ∧ sliceV v1 (if lo then some j else none) (if lo then none else some j) H = some r := by
  cases v2 with
  | int j => cases lo <;> exact ⟨j, rfl, h⟩
  | _ => cases lo <;> exact no_ns h

theorem op_sound {p : Prim} {x : Expr} {xs : List Expr} (ho : OpA sc p x xs) (hp : xs.all plainE = true) (f₀ : Frm P fs mg mb sc env h₀) (hk₀ : ∀ b o, h₀.get? b = some o → s.heap.get? b = some o) (am : Amb n A)
    (h : wpList prog w A env xs (Ready h₀ p Q) E s) : wpAny (model prog w) A (eval x env) Q E s := by
  have f := f₀.keeps hk₀
  cases ho with
  | bin o =>
    refine wpAny_BinOp (wpAny_mono h (fun a s1 h1 => wpAny_mono h1 (fun b s2 h2 => ?_) fun _ _ e => e) fun _ _ e => e)
    obtain ⟨β1, vs, H1, v, H2, hpr, vr, sr, k⟩ := h2
    obtain ⟨v1, v2, rfl, va, vb⟩ := vrs2 vr
    exact bin_sound hpr va vb k sr
  | neg =>
    refine wpAny_UnaryOp (wpAny_mono h (fun a s1 h1 => ?_) fun _ _ e => e)
    obtain ⟨β1, vs, H1, v, H2, hpr, vr, sr, k⟩ := h1
    obtain ⟨v1, rfl, va⟩ := vrs1 vr
    cases va with
    | int i t => cases hpr; exact p_neg k sr
    | _ => exact no_ns hpr
  | cmp o hm =>
    refine wpAny_Compare1 (wpAny_mono h (fun a s1 h1 => wpAny_mono h1 (fun b s2 h2 => ?_) fun _ _ e => e) fun _ _ e => e) hm
    obtain ⟨β1, vs, H1, v, H2, hpr, vr, sr, k⟩ := h2
    obtain ⟨v1, v2, rfl, va, vb⟩ := vrs2 vr
    obtain ⟨r, hr, e⟩ := Option.map_eq_some_iff.mp hpr
    cases e
    exact cmp_sound hr va vb am.room k sr
  | len hg =>
    refine f.callB hg rfl hp (wpList_mono h fun us s1 h1 => ?_)
    obtain ⟨β1, vs, H1, v, H2, hpr, vr, sr, k⟩ := h1
    obtain ⟨v1, u1, rfl, va, hpr⟩ := on1_vr vr hpr
    obtain ⟨m, hm, e⟩ := Option.map_eq_some_iff.mp hpr
    cases e
    cases va with
    | str x t =>
      change ite _ _ _ = _ at hm
      split at hm
      · rename_i hl; cases hm; exact p_lenS hl k sr
      · exact no_ns hm
    | ref e =>
      obtain ⟨ys, hy, rfl⟩ := Option.map_eq_some_iff.mp hm
      exact p_lenL hy e k sr
    | _ => exact no_ns hm
  | isinst t hg hT ht =>
    rename_i x _ _ _
    have hpx : plainE x = true := by simpa using hp
    refine f.callB hg rfl (by simp [hpx]; rfl) ?_
    refine wpAny_mono h (fun u s1 h1 => ?_) fun _ _ e => e
    obtain ⟨β1, vs, H1, v, H2, hpr, vr, sr, k⟩ := h1
    have f1 : Frm P fs mg mb sc env s1.heap := f₀.keeps sr.kept
    have hb : bltn t = some (.type t) := by
      simp only [plainTypes, List.mem_cons, List.not_mem_nil, or_false] at ht
      rcases ht with rfl | rfl | rfl | rfl | rfl <;> rfl
    refine f1.builtin hT hb ?_
    obtain ⟨v1, rfl, va⟩ := vrs1 vr
    obtain ⟨bb, hbb, hpr⟩ := Option.map_eq_some_iff.mp hpr
    cases hpr
    exact p_isinst hbb va ht k sr
  | list hg =>
    refine f.callT hg rfl hp (wpList_mono h fun us s1 h1 => ?_)
    obtain ⟨β1, vs, H1, v, H2, hpr, vr, sr, k⟩ := h1
    obtain ⟨a, r, rfl, e, hpr⟩ := on1r_vr vr hpr
    obtain ⟨ys, hy, hz⟩ := Option.bind_eq_some_iff.mp hpr
    cases hz
    exact p_list hy e k sr
  | attr hn =>
    refine PyProof.Rows.Attribute_Name_ (wpAny_mono h (fun u s1 h1 => ?_) fun _ _ e => e)
    obtain ⟨β1, vs, H1, v, H2, hpr, vr, sr, k⟩ := h1
    obtain ⟨v1, u1, e0, va, hpr⟩ := on1_vr vr hpr
    cases e0
    obtain ⟨y, hy, e⟩ := Option.map_eq_some_iff.mp hpr
    cases e
    cases va with
    | ref ea => exact p_attr f₀.names.inn f₀.names.g hn hy ea k sr
    | _ => exact no_ns hy
  | item hs =>
    refine sub_any hs (wpAny_mono h (fun a s1 h1 => wpAny_mono h1 (fun b s2 h2 => ?_) fun _ _ e => e) fun _ _ e => e)
    obtain ⟨β1, vs, H1, v, H2, hpr, vr, sr, k⟩ := h2
    obtain ⟨v1, v2, rfl, va, vb⟩ := vrs2 vr
    obtain ⟨y, hy, e⟩ := Option.map_eq_some_iff.mp hpr
    cases e
    cases vb with
    | int i t =>
      cases va with
      | ref ea =>
        obtain ⟨ys, h1, h2⟩ := Option.bind_eq_some_iff.mp hy
        obtain ⟨kk, h3, h4⟩ := Option.bind_eq_some_iff.mp h2
        exact list_on sr h1 ea (p_itemL h1 ea h3 h4 k sr)
      | _ => exact no_ns hy
    | _ => exact no_ns hy
  | int hg =>
    refine f.callT hg rfl hp (wpList_mono h fun us s1 h1 => ?_)
    obtain ⟨β1, vs, H1, v, H2, hpr, vr, sr, k⟩ := h1
    obtain ⟨v1, u1, rfl, va, hpr⟩ := on1_vr vr hpr
    cases va with
    | bool c => cases hpr; exact p_intB k sr
    | _ => exact no_ns hpr
  | all hg =>
    refine f.callB hg rfl hp (wpList_mono h fun us s1 h1 => ?_)
    obtain ⟨β1, vs, H1, v, H2, hpr, vr, sr, k⟩ := h1
    obtain ⟨a, r, rfl, e, hpr⟩ := on1r_vr vr hpr
    obtain ⟨xs, hx, hz⟩ := Option.bind_eq_some_iff.mp hpr
    obtain ⟨bs, hi, hz⟩ := Option.map_eq_some_iff.mp hz
    cases hz
    exact p_all am.handled (listOf_some hx) e hi k sr
  | sliceTo =>
    refine sub_slice (wpAny_mono h (fun a s1 h1 => wpAny_Slice (wpAny_pure (wpAny_mono h1 (fun b s2 h2 => wpAny_pure ?_) fun _ _ e => e))) fun _ _ e => e)
    obtain ⟨β1, vs, H1, v, H2, hpr, vr, sr, k⟩ := h2
    obtain ⟨v1, v2, rfl, va, vb⟩ := vrs2 vr
    obtain ⟨j, rfl, hpr⟩ := sl_inv1 (lo := false) hpr
    obtain ⟨t, rfl⟩ := vb.int_inv
    exact slice_sound hpr va .none (.int _ _) k sr
  | sliceFrom =>
    refine sub_slice (wpAny_mono h (fun a s1 h1 => wpAny_Slice (wpAny_mono h1 (fun b s2 h2 => wpAny_pure (wpAny_pure ?_)) fun _ _ e => e)) fun _ _ e => e)
    obtain ⟨β1, vs, H1, v, H2, hpr, vr, sr, k⟩ := h2
    obtain ⟨v1, v2, rfl, va, vb⟩ := vrs2 vr
    obtain ⟨j, rfl, hpr⟩ := sl_inv1 (lo := true) hpr
    obtain ⟨t, rfl⟩ := vb.int_inv
    exact slice_sound hpr va (.int _ _) .none k sr
  | sliceBoth =>
    refine sub_slice (wpAny_mono h (fun a s1 h1 => wpAny_Slice (wpAny_mono h1 (fun b s2 h2 => wpAny_mono h2 (fun c s3 h3 => wpAny_pure ?_) fun _ _ e => e) fun _ _ e => e)) fun _ _ e => e)
    obtain ⟨β1, vs, H1, v, H2, hpr, vr, sr, k⟩ := h3
    obtain ⟨v1, v2, v3, rfl, va, vb, vc⟩ := vrs3 vr
    cases vb with
    | int j tk =>
      cases vc with
      | int j' tk' => exact slice_sound hpr va (.int _ _) (.int _ _) k sr
      | _ => exact no_ns hpr
    | _ => exact no_ns hpr
  | mkList =>
    refine wpAny_List (wpList_spliced hp (wpList_mono h fun us s1 h1 => ?_))
    obtain ⟨β1, vs, H1, v, H2, hpr, vr, sr, k⟩ := h1
    rw [p_mkL] at hpr
    split at hpr
    · rename_i hl
      cases hpr
      exact ⟨by rw [← vr.length]; exact lim_line _ hl, p_mkList vr hl k sr⟩
    · exact no_ns hpr
  | mkTuple =>
    refine wpAny_Tuple (wpList_spliced hp (wpList_mono h fun us s1 h1 => ?_))
    obtain ⟨β1, vs, H1, v, H2, hpr, vr, sr, k⟩ := h1
    rw [p_mkT] at hpr
    split at hpr
    · rename_i hl
      cases hpr
      exact ⟨by rw [← vr.length]; exact lim_line _ hl, p_mkTuple vr hl k sr⟩
    · exact no_ns hpr

end
end Mine

namespace Mine
open PySem

inductive PE (h₀ : Heap) (β : List Addr) (s : Shared) (Q : Post) (u : Value) (s' : Shared) : Prop
  | mk (β' : List Addr) (v : V) (H' : Hp) : Q v H' → Step β s β' s' → SR h₀ β' H' s'.heap → VR β' v u → PE h₀ β s Q u s'
inductive PEs (h₀ : Heap) (β : List Addr) (s : Shared) (Q : List V → Hp → Prop) (us : List Value) (s' : Shared) : Prop
  | mk (β' : List Addr) (vs : List V) (H' : Hp) : Q vs H' → Step β s β' s' → SR h₀ β' H' s'.heap → VRs β' vs us → PEs h₀ β s Q us s'
inductive PB (h₀ : Heap) (β : List Addr) (s : Shared) (k : Bool → Hp → Prop) (b : Bool) (s' : Shared) : Prop
  | mk (β' : List Addr) (H' : Hp) : k b H' → Step β s β' s' → SR h₀ β' H' s'.heap → PB h₀ β s k b s'

theorem PE.after {h₀ : Heap} {β β' : List Addr} {s s' s'' : Shared} {Q : Post} {u : Value} (t : Step β s β' s') (h : PE h₀ β' s' Q u s'') : PE h₀ β s Q u s'' :=
  let ⟨b, v, H, a, c, d, e⟩ := h; ⟨b, v, H, a, t.trans c, d, e⟩
theorem PB.after {h₀ : Heap} {β β' : List Addr} {s s' s'' : Shared} {k : Bool → Hp → Prop} {u : Bool} (t : Step β s β' s') (h : PB h₀ β' s' k u s'') : PB h₀ β s k u s'' :=
  let ⟨b, H, a, c, d⟩ := h; ⟨b, H, a, t.trans c, d⟩
theorem PEs.after {h₀ : Heap} {β β' : List Addr} {s s' s'' : Shared} {Q : List V → Hp → Prop} {u : List Value} (t : Step β s β' s') (h : PEs h₀ β' s' Q u s'') : PEs h₀ β s Q u s'' :=
  let ⟨b, v, H, a, c, d, e⟩ := h; ⟨b, v, H, a, t.trans c, d, e⟩

/-- the frame's own objects -/
noncomputable def Own (env : PySem.Env) (b : Addr) : Prop := b = env.locals ∨ ∃ x, env.cells.lookup x = some b

/-- a table of names stays one -/
noncomputable def DAt (h h' : Heap) (b : Addr) : Prop := ∀ o, h.get? b = some o → ∃ o', h'.get? b = some o' ∧ ((∃ es ep, o.data = .dict es ep) → ∃ es ep, o'.data = .dict es ep) ∧ ((∃ es ep, o.data = .dict es ep ∧ StrKeys es) → ∃ es ep, o'.data = .dict es ep ∧ StrKeys es)
theorem KAt.d {h h' : Heap} {b : Addr} (x : KAt h h' b) : DAt h h' b := fun o e => let ⟨o', e', k⟩ := x o e; ⟨o', e', fun ⟨es, ep, q⟩ => ⟨es, ep, k.data.trans q⟩, fun ⟨es, ep, q, r⟩ => ⟨es, ep, k.data.trans q, r⟩⟩
theorem DAt.trans {h h' h'' : Heap} {b : Addr} (x : DAt h h' b) (y : DAt h' h'' b) : DAt h h'' b := fun o e =>
  let ⟨o1, e1, k1⟩ := x o e; let ⟨o2, e2, k2⟩ := y o1 e1; ⟨o2, e2, fun q => k2.1 (k1.1 q), fun q => k2.2 (k1.2 q)⟩
theorem DAt.live {h h' : Heap} {b : Addr} (x : DAt h h' b) (e : ∃ o, h.get? b = some o) : ∃ o, h'.get? b = some o :=
  let ⟨o, e⟩ := e; let ⟨o', e', _⟩ := x o e; ⟨o', e'⟩

structure StepF (env : PySem.Env) (β : List Addr) (s : Shared) (β' : List Addr) (s' : Shared) : Prop where
  same : ∃ h tk, s' = { s with heap := h, toks := tk }
  grow : β <+: β'
  keep : ∀ b, b ∉ β → ¬ Own env b → KAt s.heap s'.heap b
  fresh : ∀ b ∈ β', b ∈ β ∨ s.heap.get? b = Option.none
  own : ∀ b, Own env b → DAt s.heap s'.heap b

theorem Step.toF {env : PySem.Env} {β β' : List Addr} {s s' : Shared} (t : Step β s β' s') (hd : ∀ b, Own env b → b ∉ β) : StepF env β s β' s' :=
  ⟨t.same, t.grow, fun b hb _ => t.keep b hb, t.fresh, fun b ho => (t.keep b (hd b ho)).d⟩

theorem StepF.refl (env : PySem.Env) (β : List Addr) (s : Shared) : StepF env β s β s := ⟨⟨s.heap, s.toks, rfl⟩, List.prefix_refl _, fun _ _ _ => .of fun _ e => e, fun _ hb => .inl hb, fun _ _ => (KAt.of fun _ e => e).d⟩

theorem StepF.trans {env : PySem.Env} {β₁ β₂ β₃ : List Addr} {s₁ s₂ s₃ : Shared} (x : StepF env β₁ s₁ β₂ s₂) (y : StepF env β₂ s₂ β₃ s₃) : StepF env β₁ s₁ β₃ s₃ := by
  obtain ⟨⟨h, t, rfl⟩, g, k, f, w⟩ := x
  obtain ⟨⟨h', t', rfl⟩, g', k', f', w'⟩ := y
  refine ⟨⟨h', t', rfl⟩, g.trans g', fun b hb ho o e => KAt.trans (k b hb ho) (k' b (fun hm => ?_) ho) o e, fun b hb => ?_, fun b ho => (w b ho).trans (w' b ho)⟩
  · rcases f b hm with q | q
    · exact hb q
    · (first | exact clash e q | exact clash q e | (rw [e] at q; cases q))
  · rcases f' b hb with q | q
    · exact f b q
    · by_cases hm : b ∈ β₁
      · exact .inl hm
      · refine .inr ?_
        have q : h.get? b = Option.none := q
        cases e : s₁.heap.get? b with
        | none => rfl
        | some o =>
          have : ∃ o', h.get? b = some o' := by
            by_cases ho : Own env b
            · exact (w b ho).live ⟨o, e⟩
            · exact (k b hm ho).live ⟨o, e⟩
          obtain ⟨o', e'⟩ := this; (first | exact clash e' q | exact clash q e' | (rw [e'] at q; cases q))

/-- what stood, stands -/
theorem StepF.live {env : PySem.Env} {h₀ : Heap} {β β' : List Addr} {H' : Hp} {s s' : Shared} (t : StepF env β s β' s') (sr : SR h₀ β' H' s'.heap) {b : Addr} (hx : ∃ o, s.heap.get? b = some o) : ∃ o, s'.heap.get? b = some o := by
  by_cases hm : b ∈ β
  · exact sr.mem (t.grow.subset hm)
  · by_cases ho : Own env b
    · exact (t.own b ho).live hx
    · exact (t.keep b hm ho).live hx

theorem ER.disj {env : PySem.Env} {ρ : Env} {β : List Addr} {h : Heap} (x : ER env ρ β h) : ∀ b, Own env b → b ∉ β := fun b hb => by
  rcases hb with rfl | ⟨y, hy⟩
  · exact x.locs
  · exact (x.cells y b hy).1

/-- the frames on the stack -/
inductive Fr1 (h₀ : Heap) (env : PySem.Env) (β : List Addr) (h : Heap) : Prop
  | mk : env.scope.kind ≠ .module → (L : Addr) → env.frame = some L → L ∉ β → h₀.get? L = Option.none → (o : Obj) → (es : _) → (ep : _) → h.get? L = some o → o.data = .dict es ep → Fr1 h₀ env β h
noncomputable def FrOK (h₀ : Heap) (l : List PySem.Env) (β : List Addr) (h : Heap) : Prop := ∀ env ∈ l, Fr1 h₀ env β h

theorem FrOK.at {h₀ : Heap} {l : List PySem.Env} {β β' : List Addr} {h h' : Heap} (x : FrOK h₀ l β h) (hb : ∀ env ∈ l, ∀ L, env.frame = some L → L ∉ β → (∃ o, h.get? L = some o) → L ∉ β')
    (hk : ∀ env ∈ l, ∀ L, env.frame = some L → L ∉ β → h₀.get? L = Option.none → KAt h h' L) : FrOK h₀ l β' h' := fun env he => by
  obtain ⟨a, L, b, c, d, o, es, ep, e, f⟩ := x env he
  obtain ⟨o', e', k⟩ := hk env he L b c d o e
  exact ⟨a, L, b, hb env he L b c ⟨o, e⟩, d, o', es, ep, e', k.data.trans f⟩
theorem FrOK.step {h₀ : Heap} {l : List PySem.Env} {β β' : List Addr} {s s' : Shared} (x : FrOK h₀ l β s.heap) (t : Step β s β' s') : FrOK h₀ l β' s'.heap :=
  x.at (fun _ _ L _ hL ⟨o, e⟩ hm => by
    rcases t.fresh L hm with q | q
    · exact hL q
    · (first | exact clash e q | exact clash q e | (rw [e] at q; cases q))) fun _ _ L _ hL _ => t.keep L hL

/-- an exception of class c is under way: its objects are new since the heap hs -/
inductive TrAt (h₀ : Heap) (β : List Addr) (hs : Heap) (ea : Addr) (vs : Array Value) (h : Heap) : Prop
  | mk (T : Addr) (oT : Obj) (ts : Array Value) : vs[1]? = some (.ref T) → T ∉ β → h₀.get? T = Option.none → hs.get? T = Option.none → T ≠ ea → h.get? T = some oT → oT.data = .fields ts → ts[3]? = some .none → TrAt h₀ β hs ea vs h
/-- the classes that are raised while another exception is handled -/
noncomputable def chained : List String := ["NoNote"]
inductive ExcAt (h₀ : Heap) (mg : Str → Option Value) (β : List Addr) (hs : Heap) (c : String) (e : Value) (h : Heap) : Prop
  | mk (ea C : Addr) (ob : Obj) (vs : Array Value) : e = .ref ea → mg (Str.ofString c) = some (.ref C) → ea ∉ β → h₀.get? ea = Option.none → hs.get? ea = Option.none → h.get? ea = some ob → ob.cls = .ref C → ob.data = .fields vs → (vs[2]? = some .none ∨ c ∈ chained) →
    (vs[1]? = some .none ∨ TrAt h₀ β hs ea vs h) → ExcAt h₀ mg β hs c e h

theorem ExcAt.back {h₀ : Heap} {mg : Str → Option Value} {β : List Addr} {hs hs' h : Heap} {c : String} {e : Value} (x : ExcAt h₀ mg β hs' c e h) (hk : ∀ b, b ∉ β → hs'.get? b = Option.none → hs.get? b = Option.none) : ExcAt h₀ mg β hs c e h := by
  obtain ⟨ea, C, ob, vs, a, b, c, d, e, f1, f2, f3, f5, f4⟩ := x
  refine ⟨ea, C, ob, vs, a, b, c, d, hk _ c e, f1, f2, f3, f5, ?_⟩
  rcases f4 with q | ⟨T, oT, ts, t1, t2, t3, t4, r1, r2, r3, r4⟩
  · exact .inl q
  · exact .inr ⟨T, oT, ts, t1, t2, t3, hk _ t2 t4, r1, r2, r3, r4⟩

/-- what is known where an exception goes on -/
noncomputable def ExcK (h₀ : Heap) (mg : Str → Option Value) (env : PySem.Env) (β : List Addr) (s : Shared) (X : XP) (E : Value → Shared → Prop) : Prop :=
  ∀ c β' H' s' e, X c H' → StepF env β s β' s' → SR h₀ β' H' s'.heap → ExcAt h₀ mg β' s.heap c e s'.heap → E e s'

theorem ExcK.step {h₀ : Heap} {mg : Str → Option Value} {env : PySem.Env} {β β' : List Addr} {s s' : Shared} {X : XP} {E : Value → Shared → Prop} (x : ExcK h₀ mg env β s X E) (t : StepF env β s β' s') {H' : Hp} (sr : SR h₀ β' H' s'.heap) : ExcK h₀ mg env β' s' X E :=
  fun c β'' H'' s'' e hx t' sr' ex => x c β'' H'' s'' e hx (t.trans t') sr' (ex.back fun b _ hn => by
    cases q : s.heap.get? b with
    | none => rfl
    | some o => obtain ⟨o', e'⟩ := t.live sr ⟨o, q⟩; (first | exact clash hn e' | exact clash e' hn | (rw [hn] at e'; cases e')))

/-- a def of the text runs as c says -/
noncomputable def Runs (prog : Program) (w : World) (h₀ : Heap) (mg : Str → Option Value) (n : Nat) (r : Addr) (pv : List Value) (c : List V → Hp → Post → XP → Prop) : Prop :=
  ∀ vs H Q X, c vs H Q X → ∀ A β s E us, AmbC n A → SR h₀ β H s.heap → VRs β vs us →
    (∃ l, A.frames = some l ∧ FrOK h₀ l β s.heap) → (∀ c β' H' s' e, X c H' → Step β s β' s' → SR h₀ β' H' s'.heap → ExcAt h₀ mg β' s.heap c e s'.heap → E e s') →
    wpAny (model prog w) A (PySem.call (.ref r) (pv ++ us)) (PE h₀ β s Q) E s
/-- the calls of the text's own defs -/
noncomputable def CallOK (prog : Program) (w : World) (h₀ : Heap) (fs : Tab) (mg : Str → Option Value) (n : Nat) (call : String → List V → Hp → Post → XP → Prop) : Prop :=
  (∀ f ∈ fs.fns, ∀ r, mg (Str.ofString f) = some (.ref r) → Runs prog w h₀ mg n r [] (call f)) ∧ (∀ c ∈ fs.cls, ∀ r, InitAt mg h₀ c r → ∀ x, Runs prog w h₀ mg n r [.ref x] (call (c ++ ".__init__"))) ∧ ∀ cm ∈ fs.meths, ∀ r, MethAt mg h₀ cm.1 cm.2 r → Runs prog w h₀ mg n r [] (call (cm.1 ++ "." ++ cm.2))

section
variable {prog : Program} {w : World} {h₀ : Heap} {P : Prog} {fs : Tab} {mg mb : Str → Option Value} {n : Nat} {C : Ctx}

/-- everything about one evaluation's start -/
structure At (P : Prog) (fs : Tab) (mg mb : Str → Option Value) (h₀ : Heap) (n : Nat) (sc : Scope) (env : PySem.Env) (ρ : Env) (β : List Addr) (H : Hp) (s : Shared) (A : Around) (X : XP) (E' : Value → Shared → Prop) : Prop where
  names : Names P fs mg mb h₀
  amb : Amb n A
  sr : SR h₀ β H s.heap
  er : ER env ρ β s.heap
  sc : ScR sc env
  frs : ∃ l, A.frames = some l ∧ FrOK h₀ l β s.heap
  exc : ExcK h₀ mg env β s X E'

theorem At.frm {sc env ρ β H s A} {X : XP} {E' : Value → Shared → Prop} (x : At P fs mg mb h₀ n sc env ρ β H s A X E') : Frm P fs mg mb sc env h₀ := ⟨x.names, x.er.kind, x.er.glob, x.er.bltn, x.sc⟩
theorem At.step {sc env ρ β H s A β' H' s'} {X : XP} {E' : Value → Shared → Prop} (x : At P fs mg mb h₀ n sc env ρ β H s A X E') (t : Step β s β' s') (sr : SR h₀ β' H' s'.heap) : At P fs mg mb h₀ n sc env ρ β' H' s' A X E' :=
  ⟨x.names, x.amb, sr, x.er.step t, x.sc, let ⟨l, a, b⟩ := x.frs; ⟨l, a, b.step t⟩, x.exc.step (t.toF x.er.disj) sr⟩

noncomputable def SoundE (prog : Program) (w : World) (h₀ : Heap) (P : Prog) (fs : Tab) (mg mb : Str → Option Value) (n : Nat) (C : Ctx) (e : E) (x : Expr) (sc : Scope) : Prop :=
  ∀ env ρ β H s A Q X E', At P fs mg mb h₀ n sc env ρ β H s A X E' → wE C e ρ H Q X → wpAny (model prog w) A (eval x env) (PE h₀ β s Q) E' s
noncomputable def SoundT (prog : Program) (w : World) (h₀ : Heap) (P : Prog) (fs : Tab) (mg mb : Str → Option Value) (n : Nat) (C : Ctx) (e : E) (x : Expr) (sc : Scope) : Prop :=
  ∀ env ρ β H s A k X E', At P fs mg mb h₀ n sc env ρ β H s A X E' → wE C e ρ H (fun v H1 => wB v fun b => k b H1) X → wpAny (model prog w) A (isTrue x env (eval x env)) (PB h₀ β s k) E' s

theorem truthy_of {A : Around} {β β' : List Addr} {s s' : Shared} {v : V} {H : Hp} {u : Value} {k : Bool → Hp → Prop} {E : Value → Shared → Prop} (h : wB v fun b => k b H) (t : Step β s β' s') (sr : SR h₀ β' H s'.heap) (vr : VR β' v u) :
    wpAny (model prog w) A (truthy u) (PB h₀ β s k) E s' := by
  cases vr with
  | bool b => exact wpAny_truthy_bool ⟨β', H, h, t, sr⟩
  | _ => exact h.elim

theorem SoundE.toT {e : E} {x : Expr} {sc : Scope} (h : SoundE prog w h₀ P fs mg mb n C e x sc) (hx : ∀ env, isTrue x env (eval x env) = (do let v ← eval x env; standAt x.pos; holding [v] (truthy v))) :
    SoundT prog w h₀ P fs mg mb n C e x sc := fun env ρ β H s A k X E' a hw =>
  wpAny_isTrue_value (wpAny_mono (h env ρ β H s A _ X E' a hw) (fun u s' h' => by obtain ⟨β', v, H', hb, t, sr, vr⟩ := h'; exact truthy_of hb t sr vr) fun _ _ e => e) (hx env)

theorem op_facts {sc : Scope} {p : Prim} {x : Expr} {xs : List Expr} (ho : OpA sc p x xs) : plainE x = true ∧ (∀ env v, foldedSetIterable x env v = pure v) ∧ ((∀ o, p ≠ .cmp o) → ∀ env, isTrue x env (eval x env) = (do let v ← eval x env; standAt x.pos; holding [v] (truthy v))) := by
  cases ho with
  | cmp o _ => exact ⟨rfl, fun _ _ => rfl, fun h => absurd rfl (h _)⟩
  | _ => exact ⟨rfl, fun _ _ => rfl, fun _ _ => rfl⟩
theorem ME.facts {sc : Scope} {e : E} {x : Expr} (h : ME fs sc e x) : plainE x = true ∧ ∀ env v, foldedSetIterable x env v = pure v := by
  cases h with
  | op ho _ => exact ⟨(op_facts ho).1, (op_facts ho).2.1⟩
  | _ => exact ⟨rfl, fun _ _ => rfl⟩
theorem ME.plain {sc : Scope} {e : E} {x : Expr} (h : ME fs sc e x) : plainE x = true := h.facts.1
theorem MEs.plain {sc : Scope} {es : List E} {xs : List Expr} (h : MEs fs sc es xs) : xs.all plainE = true := by
  induction xs generalizing es with
  | nil => rfl
  | cons x xs ih =>
    cases h with
    | cons h1 h2 => rw [List.all_cons, h1.plain, ih h2]; rfl

theorem isVar_kind {sc : Scope} {env : PySem.Env} {id : Str} (h : isVar sc id = true) (hs : ScR sc env) :
    (env.kindOf id = some .local ∨ env.kindOf id = some .cell ∨ env.kindOf id = some .free) ∧ id ≠ (".0" : Str) ∧ (id == ("__debug__" : Str)) = false ∧ (id == ("__classdict__" : Str)) = false := by
  unfold isVar at h
  have := hs id
  have key : kcls (sc.names.lookup id) = 1 ∨ kcls (sc.names.lookup id) = 2 → (env.kindOf id = some .local ∨ env.kindOf id = some .cell ∨ env.kindOf id = some .free) := by
    intro q
    rw [← this] at q
    cases hk : env.kindOf id with
    | none => rw [hk] at q; simp [kcls] at q
    | some k => rw [hk] at q; cases k <;> simp [kcls] at q ⊢
  split at h
  · rename_i e; simp only [Bool.and_eq_true, bne_iff_ne] at h; exact ⟨key (by rw [e]; simp [kcls]), h.1.1, by simpa using h.1.2, by simpa using h.2⟩
  · rename_i e; simp only [Bool.and_eq_true, bne_iff_ne] at h; exact ⟨key (by rw [e]; simp [kcls]), h.1.1, by simpa using h.1.2, by simpa using h.2⟩
  · rename_i e; simp only [Bool.and_eq_true, bne_iff_ne] at h; exact ⟨key (by rw [e]; simp [kcls]), h.1.1, by simpa using h.1.2, by simpa using h.2⟩
  · cases h

theorem sound_var {sc : Scope} {env : PySem.Env} {ρ : Env} {β : List Addr} {H : Hp} {s : Shared} {A : Around} {x : String} {pos : Pos} {v : V} {Q : Value → Shared → Prop} {E : Value → Shared → Prop} {X : XP} {E' : Value → Shared → Prop} (a : At P fs mg mb h₀ n sc env ρ β H s A X E') (hv : isVar sc (Str.ofString x) = true) (hx : ρ x = some v)
    (h : ∀ u, VR β v u → Q u s) : wpAny (model prog w) A (eval (.Name (Str.ofString x) pos) env) Q E s := by
  obtain ⟨hk, h0, hd, hc⟩ := isVar_kind hv a.sc
  refine wpAny_Name ?_ hd
  rcases hk with hk | hk | hk
  · obtain ⟨m, hn, hm⟩ := a.er.ns
    obtain ⟨u, hu, hr⟩ := hm x v hx hk h0
    exact wpAny_loadName_local a.er.kind hk hn hu (h u hr)
  · obtain ⟨c, u, hcl, hic, hr⟩ := a.er.held x v hx (.inl hk)
    exact wpAny_loadName_cell a.er.kind hk hcl hic (h u hr)
  · obtain ⟨c, u, hcl, hic, hr⟩ := a.er.held x v hx (.inr hk)
    exact wpAny_loadName_free a.er.kind hk hcl hic (h u hr) hc

theorem VR.nil_any {v : V} {u : Value} {β : List Addr} (h : VR [] v u) : VR β v u := h.mono (List.nil_prefix)

theorem plainBase_eq {o : Expr} {name : Str} {env : PySem.Env} (h : plainBase o = true) : attributeBase o name env (eval o env) = eval o env := by
  cases o with
  | Call f args kws pos =>
    cases f with
    | Name id p =>
      cases args with
      | nil => cases kws with
        | nil => cases h
        | cons _ _ => rfl
      | cons _ _ => rfl
    | _ => rfl
  | _ => rfl

theorem recv_list {β1 : List Addr} {v : V} {H1 : Hp} {ov : Value} {s₁ : Shared} (vr : VR β1 v ov) (sr : SR h₀ β1 H1 s₁.heap) (hr : recvOk .append v H1 = true) :
    s₁.TypeIs ov "list" ∧ (∀ a, ov = .ref a → ∃ ob, s₁.heap.get? a = some ob ∧ ob.dict = none) := by
  cases vr with
  | ref e =>
    simp only [recvOk] at hr
    split at hr
    · rename_i xs ha
      obtain ⟨us, m, _, eo, _, _⟩ := sr.list ha e
      exact ⟨⟨_, eo, rfl⟩, fun a ea => by cases ea; exact ⟨_, eo, rfl⟩⟩
    · cases hr
  | _ => cases hr

/-- the receiver of a built-in method -/
theorem meth_sound {env : PySem.Env} {s : Shared} {A : Around} {p : Prim} {m : String} {o x : Expr} {apos pos : Pos} {Q : Value → Shared → Prop} {E : Value → Shared → Prop} (hm : methName p = some m) (hl : (apos.endLine == pos.line) = true) (hpl : plainE x = true)
    (hbase : plainBase o = true)
    (h : wpAny (model prog w) A (eval o env) (fun ov s₁ => (∃ β1 v H1, recvOk p v H1 = true ∧ VR β1 v ov ∧ SR h₀ β1 H1 s₁.heap) ∧
      wpAny (model prog w) A (eval x env) (fun u s2 => Ready h₀ p Q [ov, u] s2) E s₁) E s) :
    wpAny (model prog w) A (eval (.Call (.Attribute o (Str.ofString m) apos) [x] [] pos) env) Q E s := by
  have hstar : starEach [x] env = [(false, eval x env)] := starEach_plain hpl
  have hfew : ((backTo pos (starEach [x] env)).all (fun x => !x.1) && (backToKw pos (keywordEach [] env)).all (fun x => x.1.isSome) && decide ([x].length + ([] : List Keyword).length + (if ([] : List Keyword).isEmpty then 0 else 1) < 30)) = true := by
    rw [hstar]; rfl
  have tail : ∀ {id : String} {ov : Value} {s₁ : Shared}, (∀ u s2, Ready h₀ p Q [ov, u] s2 → wpAny (model prog w) A (call (.builtin id) [ov, u]) Q E s2) → wpAny (model prog w) A (eval x env) (fun u s2 => Ready h₀ p Q [ov, u] s2) E s₁ →
      wpAny (model prog w) A (callWith pos (.builtin id) [ov] (backTo pos (starEach [x] env)) []) Q E s₁ := fun hc hx => by
    refine Calls.callWith_builtin (backTo_any (by simp [hpl])) ?_
    rw [hstar]
    exact Calls.evalArgs_plain (Calls.spliced_cons (wpAny_mono hx (fun u s2 h2 => Calls.spliced_nil (hc u s2 h2)) fun _ _ e => e))
  cases p <;> simp only [methName] at hm <;> (try cases hm)
  · -- append
    refine wpAny_Call_method (T := "list") (id := "list.append") (plainBase_eq hbase) hfew hl F.plainAttrs_list F.slot_list_append F.type_list_append (wpAny_mono h (fun ov s₁ h₁ => ?_) fun _ _ e => e)
    obtain ⟨⟨β1, v, H1, hr, vr, sr⟩, hx⟩ := h₁
    obtain ⟨hT, hd⟩ := recv_list vr sr hr
    refine ⟨hT, hd, tail (fun u s2 h2 => ?_) hx⟩
    obtain ⟨β1, vs, H1, v, H2, hpr, vr, sr, k⟩ := h2
    obtain ⟨v1, v2, rfl, va, vb⟩ := vrs2 vr
    cases va with
    | ref ea =>
      rw [p_app, m_app] at hpr
      obtain ⟨xs, e, hpr⟩ := Option.bind_eq_some_iff.mp hpr
      split at hpr
      · rename_i hlim; cases hpr; exact p_append (listOf_some e) ea hlim vb k sr
      · exact no_ns hpr
    | _ => exact no_ns hpr
  · -- pop
    refine wpAny_Call_method (T := "list") (id := "list.pop") (plainBase_eq hbase) hfew hl F.plainAttrs_list F.slot_list_pop F.type_list_pop (wpAny_mono h (fun ov s₁ h₁ => ?_) fun _ _ e => e)
    obtain ⟨⟨β1, v, H1, hr, vr, sr⟩, hx⟩ := h₁
    obtain ⟨hT, hd⟩ := recv_list vr sr hr
    refine ⟨hT, hd, tail (fun u s2 h2 => ?_) hx⟩
    obtain ⟨β1, vs, H1, v, H2, hpr, vr, sr, k⟩ := h2
    obtain ⟨v1, v2, rfl, va, vb⟩ := vrs2 vr
    cases va with
    | ref ea =>
      cases vb with
      | int i t =>
        rw [p_popP, m_pop] at hpr
        obtain ⟨xs, e, hpr⟩ := Option.bind_eq_some_iff.mp hpr
        obtain ⟨kk, h1, h2⟩ := Option.bind_eq_some_iff.mp hpr
        obtain ⟨y, h3, h4⟩ := Option.map_eq_some_iff.mp h2
        cases h4
        exact p_pop (listOf_some e) ea h1 h3 k sr
      | _ => exact no_ns hpr
    | _ => exact no_ns hpr
  · -- index
    refine wpAny_Call_method (T := "list") (id := "list.index") (plainBase_eq hbase) hfew hl F.plainAttrs_list F.slot_list_index F.type_list_index (wpAny_mono h (fun ov s₁ h₁ => ?_) fun _ _ e => e)
    obtain ⟨⟨β1, v, H1, hr, vr, sr⟩, hx⟩ := h₁
    obtain ⟨hT, hd⟩ := recv_list vr sr hr
    refine ⟨hT, hd, tail (fun u s2 h2 => ?_) hx⟩
    obtain ⟨β1, vs, H1, v, H2, hpr, vr, sr, k⟩ := h2
    obtain ⟨v1, v2, rfl, va, vb⟩ := vrs2 vr
    cases va with
    | ref ea =>
      cases vb with
      | int i t =>
        rw [p_idx, m_idx] at hpr
        obtain ⟨xs, e, hpr⟩ := Option.bind_eq_some_iff.mp hpr
        obtain ⟨is, h1, h2⟩ := Option.bind_eq_some_iff.mp hpr
        split at h2
        · rename_i hmem; cases h2; exact p_index (listOf_some e) ea h1 hmem k sr
        · exact no_ns h2
      | _ => exact no_ns hpr
    | _ => exact no_ns hpr

end
end Mine

namespace Mine
open PySem

structure Itr (prog : Program) (w : World) (A : Around) (h₀ : Heap) (β₀ : List Addr) (I : Addr) (G : Hp → Prop) (items : List V) (St : Nat → Heap → Prop) : Prop where
  frame : ∀ i h h', St i h → (∀ o, h.get? I = some o → h'.get? I = some o) → St i h'
  live : ∀ i h, St i h → ∃ o, h.get? I = some o
  nd : ∀ i h, St i h → ∀ o, h.get? I = some o → ∀ es ep, o.data ≠ .dict es ep
  item : ∀ i v β H (s : Shared) (Q : Option Value → Shared → Prop) E, items[i]? = some v → St i s.heap → β₀ <+: β → SR h₀ β H s.heap → G H → I ∉ β →
    (∀ u h' tk, VR β v u → St (i + 1) h' → (∀ b o, b ≠ I → s.heap.get? b = some o → h'.get? b = some o) → Q (some u) { s with heap := h', toks := tk }) → wpAny (model prog w) A (pyNext (.ref I)) Q E s
  done : ∀ β H (s : Shared) (Q : Option Value → Shared → Prop) E, St items.length s.heap → β₀ <+: β → SR h₀ β H s.heap → G H → I ∉ β →
    (∀ h' tk, (∀ b o, b ≠ I → s.heap.get? b = some o → h'.get? b = some o) → Q none { s with heap := h', toks := tk }) → wpAny (model prog w) A (pyNext (.ref I)) Q E s
  self : ∀ i (s : Shared) (Q : Value → Shared → Prop) E, St i s.heap → Q (.ref I) s → wpAny (model prog w) A (pyIter (.ref I)) Q E s
  owned : ∀ i (s : Shared), St i s.heap → ∃ o, s.heap.get? I = some o ∧ ∀ n, o.cls = .type n → ["enumerate", "zip", "dict_itemiterator", "dict_reverseitemiterator", "odict_iterator", "itertools.zip_longest", "itertools.pairwise"].contains n = false

theorem Itr.stay {prog : Program} {w : World} {A : Around} {h₀ : Heap} {β₀ : List Addr} {I : Addr} {G : Hp → Prop} {items : List V} {St : Nat → Heap → Prop} (x : Itr prog w A h₀ β₀ I G items St) {i : Nat} {h h' : Heap} (st : St i h) (k : KAt h h' I) : St i h' :=
  x.frame _ _ _ st fun o e => k.exact e (x.nd _ _ st o e)

section
variable {prog : Program} {w : World} {A : Around} {h₀ : Heap} {β₀ : List Addr} {I : Addr}

theorem prefix_get {β β' : List Addr} (h : β <+: β') {a : Nat} {r : Addr} (e : β[a]? = some r) : β'[a]? = some r := by
  obtain ⟨t, rfl⟩ := h
  rw [List.getElem?_append_left (List.getElem?_eq_some_iff.mp e).1]; exact e

theorem itr_list (hh : A.handled = none) {a : Nat} {r : Addr} {items : List V} {o : O} (hr : β₀[a]? = some r) (ho : o = .list items ∨ o = .frozen items) :
    Itr prog w A h₀ β₀ I (fun H => H[a]? = some o) items (fun i h => h.IsListIter I r i) where
  frame := fun _ _ _ st hk => let ⟨o, e, x⟩ := st; ⟨o, hk _ e, x⟩
  live := fun _ _ st => let ⟨o, e, _⟩ := st; ⟨o, e⟩
  nd := fun _ _ st o e es ep q => by obtain ⟨o', e', _, d⟩ := st; (first | exact clash e e' | exact clash e' e | (rw [e] at e'; cases e')); (first | exact clash q d | exact clash d q | (rw [q] at d; cases d))
  item := fun i v β H s Q E hv st hp sr hG hI hQ => by
    have hr' := prefix_get hp hr
    obtain ⟨us, hl, vr, _⟩ := sr.listOf (ho.imp (fun e => e ▸ hG) (fun e => e ▸ hG)) hr'
    obtain ⟨u, hu, hvu⟩ := vr.get hv
    exact wpAny_pyNext_list_item st hl (by rw [List.getElem?_toArray]; exact hu) fun h' st' hs' => hQ u h' s.toks hvu st' fun b o hb e => hs'.extBut b o hb e
  done := fun β H s Q E st hp sr hG hI hQ => by
    have hr' := prefix_get hp hr
    obtain ⟨us, hl, vr, _⟩ := sr.listOf (ho.imp (fun e => e ▸ hG) (fun e => e ▸ hG)) hr'
    exact wpAny_pyNext_list_end hh st hl (by rw [List.getElem?_toArray, ← Option.not_isSome_iff_eq_none]; simp [vr.length]) fun h' he => hQ h' s.toks fun b o hb e => he b o hb e
  self := fun i s Q E st hQ => wpAny_pyIter_listiter st hQ
  owned := fun _ _ st => by obtain ⟨o, e, c, _⟩ := st; exact ⟨o, e, fun n hn => by cases c.symm.trans hn; decide⟩

theorem SR.tupleOf {s : Shared} {β : List Addr} {H : Hp} (x : SR h₀ β H s.heap) {a : Nat} {r : Addr} {xs : List V} (ha : H[a]? = some (.tuple xs)) (hr : β[a]? = some r) :
    ∃ us, s.heap.IsTuple r us.toArray ∧ VRs β xs us ∧ xs.length ≤ lim := by
  obtain ⟨r', e', sl⟩ := x.at ha
  (first | exact clash hr e' | exact clash e' hr | (rw [hr] at e'; cases e'))
  cases sl with
  | own a b c => cases c with | tuple p q => exact ⟨_, ⟨_, b, rfl, _, rfl⟩, p, q⟩

theorem itr_tuple (hh : A.handled = none) {a : Nat} {r : Addr} {items : List V} (hr : β₀[a]? = some r) :
    Itr prog w A h₀ β₀ I (fun H => H[a]? = some (.tuple items)) items (fun i h => h.IsTupleIter I r i) where
  frame := fun _ _ _ st hk => let ⟨o, e, x⟩ := st; ⟨o, hk _ e, x⟩
  live := fun _ _ st => let ⟨o, e, _⟩ := st; ⟨o, e⟩
  nd := fun _ _ st o e es ep q => by obtain ⟨o', e', _, d⟩ := st; (first | exact clash e e' | exact clash e' e | (rw [e] at e'; cases e')); (first | exact clash q d | exact clash d q | (rw [q] at d; cases d))
  item := fun i v β H s Q E hv st hp sr hG hI hQ => by
    obtain ⟨us, hl, vr, _⟩ := sr.tupleOf hG (prefix_get hp hr)
    obtain ⟨u, hu, hvu⟩ := vr.get hv
    exact wpAny_pyNext_tuple_item st hl (by rw [List.getElem?_toArray]; exact hu) fun h' st' hs' => hQ u h' s.toks hvu st' fun b o hb e => hs'.extBut b o hb e
  done := fun β H s Q E st hp sr hG hI hQ => by
    obtain ⟨us, hl, vr, _⟩ := sr.tupleOf hG (prefix_get hp hr)
    exact wpAny_pyNext_tuple_end hh st hl (by rw [List.getElem?_toArray, ← Option.not_isSome_iff_eq_none]; simp [vr.length]) fun h' he => hQ h' s.toks fun b o hb e => he b o hb e
  self := fun i s Q E st hQ => wpAny_pyIter_tupleiter st hQ
  owned := fun _ _ st => by obtain ⟨o, e, c, _⟩ := st; exact ⟨o, e, fun n hn => by cases c.symm.trans hn; decide⟩

theorem rangeI_get {a b c : Int} {i : Nat} {v : V} (h : ((rangeI a b c).map V.int)[i]? = some v) : v = .int (a + i * c) ∧ i < (rangeI a b c).length := by
  rw [List.getElem?_map] at h
  obtain ⟨x, hx, rfl⟩ := Option.map_eq_some_iff.mp h
  have hlt := (List.getElem?_eq_some_iff.mp hx).1
  simp only [rangeI, List.getElem?_map] at hx
  obtain ⟨y, hy, rfl⟩ := Option.map_eq_some_iff.mp hx
  rw [List.getElem?_range (by simpa [rangeI] using hlt)] at hy
  cases hy
  exact ⟨rfl, hlt⟩

theorem itr_range (hh : A.handled = none) (a b c : Int) :
    Itr prog w A h₀ β₀ I (fun _ => True) ((rangeI a b c).map .int) (fun i h => IsRangeIter h I (a + (i : Nat) * c) (((rangeI a b c).length : Int) - (i : Nat)) c) where
  frame := fun _ _ _ st hk => hk _ st
  live := fun _ _ st => ⟨_, st⟩
  nd := fun _ _ st o e es ep q => by
    have e' := st
    unfold IsRangeIter at e'
    (first | exact clash e e' | exact clash e' e | (rw [e] at e'; cases e')); cases q
  item := fun i v β H s Q E hv st hp sr hG hI hQ => by
    obtain ⟨rfl, hlt⟩ := rangeI_get hv
    refine wpAny_pyNext_range_item st (by omega) fun h' hit' hs' => ?_
    refine hQ _ h' _ (.int _ _) ?_ fun b o hb e => hs'.extBut b o hb e
    have e1 : a + ((i + 1 : Nat) : Int) * c = a + (i : Int) * c + c := by rw [Int.natCast_add, Int.add_mul]; simp; omega
    have e2 : ((rangeI a b c).length : Int) - ((i + 1 : Nat) : Int) = ((rangeI a b c).length : Int) - (i : Int) - 1 := by omega
    rw [e1, e2]; exact hit'
  done := fun β H s Q E st hp sr hG hI hQ => by
    rw [List.length_map] at st
    exact wpAny_pyNext_range_end hh st (by omega) fun h' he' => hQ h' s.toks fun b o hb e => he' b o hb e
  self := fun _ _ _ _ st hQ => wpAny_pyIter_rangeiter st hQ
  owned := fun _ _ st => ⟨_, st, fun n hn => by cases hn; decide⟩

/-- an iterator made, at its start -/
inductive Made (prog : Program) (w : World) (A : Around) (h₀ : Heap) (β : List Addr) (s : Shared) (G : Hp → Prop) (items : List V) (it : Value) (s' : Shared) : Prop
  | mk (I : Addr) (St : Nat → Heap → Prop) (h : Heap) (tk : Nat) : it = .ref I → s' = { s with heap := h, toks := tk } → (∀ b o, s.heap.get? b = some o → h.get? b = some o) → s.heap.get? I = Option.none → St 0 h → Itr prog w A h₀ β I G items St → Made prog w A h₀ β s G items it s'

theorem iter_seq {β : List Addr} {H : Hp} {s : Shared} {a : Nat} {r : Addr} {items : List V} {E : Value → Shared → Prop} (hh : A.handled = none) (sr : SR h₀ β H s.heap) (hr : β[a]? = some r) (ha : seqOf H a = some items) :
    wpAny (model prog w) A (pyIter (.ref r)) (Made prog w A h₀ β s (fun H' => H'[a]? = H[a]?) items) E s := by
  have fresh : s.heap.get? s.heap.objs.size = Option.none := get_none_of_le (Nat.le_refl _)
  unfold seqOf at ha
  split at ha
  · rename_i xs e; cases ha
    obtain ⟨us, hl, vr, _⟩ := sr.listOf (.inl e) hr
    refine wpAny_pyIter_list hl ⟨_, fun i h => h.IsListIter s.heap.objs.size r i, _, s.toks, rfl, rfl, fun b o e => Heap.get?_push_of_some _ e, fresh, ⟨_, Heap.get?_push_size _ rfl, rfl, rfl⟩, ?_⟩
    rw [e]; exact itr_list hh hr (.inl rfl)
  · rename_i xs e; cases ha
    obtain ⟨us, hl, vr, _⟩ := sr.listOf (.inr e) hr
    refine wpAny_pyIter_list hl ⟨_, fun i h => h.IsListIter s.heap.objs.size r i, _, s.toks, rfl, rfl, fun b o e => Heap.get?_push_of_some _ e, fresh, ⟨_, Heap.get?_push_size _ rfl, rfl, rfl⟩, ?_⟩
    rw [e]; exact itr_list hh hr (.inr rfl)
  · rename_i xs e; cases ha
    obtain ⟨us, hl, vr, _⟩ := sr.tupleOf e hr
    refine wpAny_pyIter_tuple hl ⟨_, fun i h => h.IsTupleIter s.heap.objs.size r i, _, s.toks, rfl, rfl, fun b o e => Heap.get?_push_of_some _ e, fresh, ⟨_, Heap.get?_push_size _ rfl, rfl, rfl⟩, ?_⟩
    rw [e]; exact itr_tuple hh hr
  · cases ha

/-- range( .. ), then its iterator -/
theorem iter_range {β : List Addr} {s : Shared} {vs : List V} {us : List Value} {is : List Int} {E : Value → Shared → Prop} (hh : A.handled = none) (vr : VRs β vs us) (hr : rangeOf vs = some is) :
    wpAny (model prog w) A (call (.type "range") us) (fun x s1 => wpAny (model prog w) A (pyIter x) (Made prog w A h₀ β s (fun _ => True) (is.map .int)) E s1) E s := by
  have fin : ∀ (a b c : Int) (t u v : Tok) (tk : Nat), 0 < c → a.natAbs ≤ lim → b.natAbs ≤ lim → c.natAbs ≤ lim → wpAny (model prog w) A (pyIter (.ref s.heap.objs.size)) (Made prog w A h₀ β s (fun _ => True) ((rangeI a b c).map .int)) E
      { s with heap := s.heap.push { cls := .type "range", data := .fields #[.int a t, .int b u, .int c v] }, toks := tk } := by
    intro a b c t u v tk hc ha hb hcl
    refine wpAny_pyIter_range (IsRange.new ..) (small_lim ha hb hcl hc) ⟨_, _, _, tk, rfl, rfl, fun b o e => Heap.get?_push_of_some _ (Heap.get?_push_of_some _ e), get_none_of_le (by simp [Heap.size_push]), ?_, itr_range hh a b c⟩
    have e1 : (a + ((0 : Nat) : Int) * c) = a := by simp
    have e2 : (((rangeI a b c).length : Int) - ((0 : Nat) : Int)) = Builtin.Range.rangeSize a b c := by rw [rangeSize_pos hc]; simp
    rw [e1, e2]
    exact Heap.get?_push_size _ rfl
  unfold rangeOf at hr
  split at hr
  · split at hr
    · rename_i hb; cases hr
      cases vr with | cons va vr => cases vr; cases va with | int _ t => exact call_range_1 (fin 0 _ 1 _ _ _ _ (by omega) (by decide) hb (by decide))
    · cases hr
  · split at hr
    · rename_i hb; cases hr
      cases vr with | cons va vr => cases vr with | cons vb vr => cases vr; cases va with | int _ t => cases vb with | int _ u => exact call_range_2 (fin _ _ 1 _ _ _ _ (by omega) hb.2.1 hb.2.2 (by decide))
    · cases hr
  · split at hr
    · rename_i hb; cases hr
      cases vr with | cons va vr => cases vr with | cons vb vr => cases vr with | cons vc vr => cases vr; cases va with | int _ t => cases vb with | int _ u => cases vc with | int _ v =>
        exact call_range_3 (by omega) (fin _ _ _ _ _ _ _ hb.2.2.2.1 hb.2.1 hb.2.2.1 hb.2.2.2.2) (.inl (PyProof.noPylong_small (by have := hb.2.2.2.2; unfold lim at this; omega)))
    · cases hr
  · cases hr

end
end Mine

namespace Mine
open PySem

noncomputable def clFrom (cells : List (Str × Addr)) : List (Str × NameKind) → List (Str × Addr) → List (Str × Addr)
  | [], acc => acc
  | (n, k) :: r, acc => if k == .free then clFrom cells r (match cells.lookup n with | some c => (n, c) :: acc | none => acc) else clFrom cells r acc

theorem closure_eq {scope : Scope} {env : PySem.Env} (h : ∀ n, (n, NameKind.free) ∈ scope.names → ∃ c, env.cells.lookup n = some c) : closureFor scope env = pure (clFrom env.cells scope.names []) := by
  have key : ∀ (names : List (Str × NameKind)) (acc : List (Str × Addr)), (∀ n, (n, NameKind.free) ∈ names → ∃ c, env.cells.lookup n = some c) →
      (forIn (m := Sem) names acc fun (x : Str × NameKind) cs => match x with | (name, kind) => if kind == .free then (do let c ← cellOf env name; pure (.yield ((name, c) :: cs))) else pure (.yield cs)) = pure (clFrom env.cells names acc) := by
    intro names
    induction names with
    | nil => intro acc _; rfl
    | cons x r ih =>
      intro acc hx
      obtain ⟨n, k⟩ := x
      rw [List.forIn_cons]
      have hr : ∀ n, (n, NameKind.free) ∈ r → ∃ c, env.cells.lookup n = some c := fun n hn => hx n (List.mem_cons_of_mem _ hn)
      cases hk : (k == NameKind.free) with
      | true =>
        have : k = .free := beq_iff_eq.mp hk
        subst this
        obtain ⟨c, hc⟩ := hx n List.mem_cons_self
        simp only [hk, if_true, cellOf, hc, clFrom, pure_bind]
        exact ih _ hr
      | false =>
        simp only [hk, Bool.false_eq_true, if_false, clFrom, pure_bind]
        exact ih _ hr
  unfold closureFor
  have := key scope.names [] h
  simp only [bind_pure]
  exact this

theorem clFrom_lookup {cells : List (Str × Addr)} {y : Str} : ∀ {names : List (Str × NameKind)} {acc : List (Str × Addr)} {c : Addr}, (clFrom cells names acc).lookup y = some c →
    acc.lookup y = some c ∨ cells.lookup y = some c := by
  intro names
  induction names with
  | nil => intro acc c h; exact .inl h
  | cons x r ih =>
    intro acc c h
    obtain ⟨n, k⟩ := x
    simp only [clFrom] at h
    split at h
    · rcases ih h with q | q
      · split at q
        · rename_i c' hc
          rw [List.lookup_cons] at q
          split at q
          · rename_i e; cases q; rw [beq_iff_eq.mp e]; exact .inr hc
          · exact .inl q
        · exact .inl q
      · exact .inr q
    · exact ih h

theorem clFrom_has {cells : List (Str × Addr)} {y : Str} {c : Addr} (hc : cells.lookup y = some c) : ∀ {names : List (Str × NameKind)} {acc : List (Str × Addr)}, (y, NameKind.free) ∈ names ∨ acc.lookup y = some c →
    (∀ c', acc.lookup y = some c' → c' = c) → (clFrom cells names acc).lookup y = some c := by
  intro names
  induction names with
  | nil => intro acc h _; exact h.elim (fun q => nomatch q) id
  | cons x r ih =>
    intro acc h hu
    obtain ⟨n, k⟩ := x
    simp only [clFrom]
    split
    · rename_i hk
      split
      · rename_i c' hc'
        have hu' : ∀ c'', List.lookup y ((n, c') :: acc) = some c'' → c'' = c := fun c'' q => by
          rw [List.lookup_cons] at q
          split at q
          · rename_i e; cases q; rw [← beq_iff_eq.mp e, hc] at hc'; cases hc'; rfl
          · exact hu _ q
        refine ih ?_ hu'
        rcases h with h | h
        · rcases List.mem_cons.mp h with q | q
          · cases q
            right; rw [List.lookup_cons]; simp; (first | exact clash hc hc' | exact clash hc' hc | (rw [hc] at hc'; cases hc')); rfl
          · exact .inl q
        · right
          rw [List.lookup_cons]
          split
          · rename_i e; rw [← beq_iff_eq.mp e, hc] at hc'; cases hc'; rfl
          · exact h
      · rename_i hn
        refine ih ?_ hu
        rcases h with h | h
        · rcases List.mem_cons.mp h with q | q
          · cases q; (first | exact clash hc hn | exact clash hn hc | (rw [hc] at hn; cases hn))
          · exact .inl q
        · exact .inr h
    · rename_i hk
      refine ih ?_ hu
      rcases h with h | h
      · rcases List.mem_cons.mp h with q | q
        · cases q; exact absurd rfl hk
        · exact .inl q
      · exact .inr h

theorem lookup_map (g : Str → NameKind → NameKind) {x : Str} : ∀ (names : List (Str × NameKind)), (names.map fun nk => (nk.1, g nk.1 nk.2)).lookup x = (names.lookup x).map (g x)
  | [] => rfl
  | (n, k) :: r => by
    rw [List.map_cons, List.lookup_cons, List.lookup_cons]
    cases hx : x == n with
    | true => rw [beq_iff_eq.mp hx]; rfl
    | false => exact lookup_map g r

theorem lookup_relabel {env : PySem.Env} {x : Str} (names : List (Str × NameKind)) :
    (names.map fun (n, k) => if (k == NameKind.free && env.scope.kind == .function && env.kindOf n == some .cell) then (n, NameKind.cell) else (n, k)).lookup x =
      (names.lookup x).map fun k => if (k == NameKind.free && env.scope.kind == .function && env.kindOf x == some .cell) then NameKind.cell else k := by
  rw [← lookup_map (fun n k => if (k == NameKind.free && env.scope.kind == .function && env.kindOf n == some .cell) then NameKind.cell else k) names]
  congr 2
  funext nk
  obtain ⟨n, k⟩ := nk
  dsimp only
  split <;> rfl

theorem compEnv_kind (scope : Scope) (cl : List (Str × Addr)) (Cf : Addr) (env : PySem.Env) (x : Str) :
    (compEnvC scope cl Cf env).kindOf x = (scope.names.lookup x).map fun k => if (k == NameKind.free && env.scope.kind == .function && env.kindOf x == some .cell) then NameKind.cell else k :=
  lookup_relabel scope.names

theorem comp_scr (scope : Scope) (cl : List (Str × Addr)) (Cf : Addr) (env : PySem.Env) : ScR scope (compEnvC scope cl Cf env) := by
  intro x
  rw [compEnv_kind]
  cases h : scope.names.lookup x with
  | none => rfl
  | some k =>
    show kcls (some (if _ then _ else _)) = _
    split
    · rename_i hc
      simp only [Bool.and_eq_true] at hc
      rw [beq_iff_eq.mp hc.1.1]; rfl
    · rfl

theorem mem_of_lookup' {names : List (Str × NameKind)} {x : Str} {k : NameKind} (h : names.lookup x = some k) : (x, k) ∈ names := mem_of_lookup h

structure CompOk (sc scope : Scope) (xs : List Str) : Prop where
  kind : scope.kind = .function
  loc : ∀ x ∈ xs, scope.names.lookup x = some .local
  dot : ∀ x ∈ xs, x ≠ (".0" : Str)
  nocell : ∀ y ∈ scope.names, y.2 ≠ .cell
  names : ∀ y ∈ scope.names, y.2 = .local → scope.names.lookup y.1 = some .local
  only : ∀ y, (y, NameKind.local) ∈ scope.names → y ∈ xs ∨ y = (".0" : Str)
  free : ∀ y, (y, NameKind.free) ∈ scope.names → kcls (sc.names.lookup y) = 2

theorem compOk_of {sc scope : Scope} {xs : List Str} (h : compOk sc scope xs = true) : CompOk sc scope xs := by
  unfold compOk at h
  simp only [Bool.and_eq_true, decide_eq_true_eq, bne_iff_ne, List.all_eq_true] at h
  obtain ⟨⟨h1, h2⟩, h4⟩ := h
  refine ⟨h1, fun x hx => beq_iff_eq.mp (h2 x hx).1, fun x hx => (h2 x hx).2, fun y hy e => ?_, fun y hy e => ?_, fun y hy => ?_, fun y hy => ?_⟩
  · have := h4 y hy; (first | exact clash e this | exact clash this e | (rw [e] at this; cases this))
  · have := h4 y hy; rw [e] at this; simp only [Bool.and_eq_true] at this; exact beq_iff_eq.mp this.2
  · have := h4 _ hy
    simp only [Bool.and_eq_true, Bool.or_eq_true, beq_iff_eq, List.contains_iff_mem] at this
    exact this.1
  · have := h4 _ hy
    simp only at this
    split at this
    · rename_i e; rw [e]; rfl
    · rename_i e; rw [e]; rfl
    · cases this

section
variable {prog : Program} {w : World} {h₀ : Heap} {P : Prog} {fs : Tab} {mg mb : Str → Option Value} {n : Nat} {C : Ctx}

theorem comp_er {sc scope : Scope} {env : PySem.Env} {ρ ρ' : Env} {β : List Addr} {h : Heap} {xs : List String} {Cf : Addr} {m : Str → Option Value} (er : ER env ρ β h) (hs : ScR sc env) (ok : CompOk sc scope (xs.map Str.ofString))
    (hn : h.Ns Cf m) (hm : ∀ y ∈ xs, ∀ v, ρ' y = some v → ∃ u, m (Str.ofString y) = some u ∧ VR β v u) (hρ : ∀ y, y ∉ xs → ρ' y = ρ y) (hC : Cf ∉ β) (hcl : ∀ y c, env.cells.lookup y = some c → c ≠ Cf) :
    ER (compEnvC scope (clFrom env.cells scope.names []) Cf env) ρ' β h := by
  have lk : ∀ {y c}, (clFrom env.cells scope.names []).lookup y = some c → env.cells.lookup y = some c := fun q => by
    rcases clFrom_lookup q with q | q
    · cases q
    · exact q
  have lk' : ∀ {y c}, env.cells.lookup y = some c → (y, NameKind.free) ∈ scope.names → (clFrom env.cells scope.names []).lookup y = some c := fun hc hf => clFrom_has hc (.inl hf) fun _ q => nomatch q
  have isFree : ∀ {y : Str}, (compEnvC scope (clFrom env.cells scope.names []) Cf env).kindOf y = some .cell ∨ (compEnvC scope (clFrom env.cells scope.names []) Cf env).kindOf y = some .free → (y, NameKind.free) ∈ scope.names := by
    intro y q
    rw [compEnv_kind] at q
    cases hk : scope.names.lookup y with
    | none => rw [hk] at q; simp at q
    | some k =>
      rw [hk] at q
      simp only [Option.map_some] at q
      have hmem := mem_of_lookup' hk
      split at q
      · rename_i hc
        simp only [Bool.and_eq_true] at hc
        rw [beq_iff_eq.mp hc.1.1] at hmem; exact hmem
      · rcases q with q | q
        · cases q; exact absurd rfl (ok.nocell _ hmem)
        · cases q; exact hmem
  have envKind : ∀ {y : Str}, (y, NameKind.free) ∈ scope.names → env.kindOf y = some .cell ∨ env.kindOf y = some .free := by
    intro y hy
    have h1 := ok.free y hy
    rw [← hs y] at h1
    cases hk : env.kindOf y with
    | none => (first | exact clash hk h1 | exact clash h1 hk | (rw [hk] at h1; cases h1))
    | some k => rw [hk] at h1; cases k <;> first | exact .inl rfl | exact .inr rfl | cases h1
  refine ⟨ok.kind, er.glob, er.bltn, ⟨m, hn, fun y v' hy hk hd => ?_⟩, fun y c hc => er.cell y c (lk hc), fun y v' hy hk => ?_, fun y hk => ?_, fun y z c h1 h2 => er.apart y z c (lk h1) (lk h2), hC, fun y c hc => ⟨(er.cells y c (lk hc)).1, hcl y c (lk hc)⟩⟩
  · have hl : (Str.ofString y, NameKind.local) ∈ scope.names := by
      rw [compEnv_kind] at hk
      cases hk' : scope.names.lookup (Str.ofString y) with
      | none => (first | exact clash hk' hk | exact clash hk hk' | (rw [hk'] at hk; cases hk))
      | some k =>
        rw [hk'] at hk
        simp only [Option.map_some, Option.some.injEq] at hk
        split at hk
        · cases hk
        · subst hk; exact mem_of_lookup' hk'
    rcases ok.only _ hl with e | e
    · obtain ⟨z, hz, ez⟩ := List.mem_map.mp e
      exact hm y (ofString_inj ez ▸ hz) v' hy
    · exact absurd e hd
  · have hf := isFree hk
    by_cases e : y ∈ xs
    · rw [compEnv_kind, ok.loc _ (List.mem_map.mpr ⟨y, e, rfl⟩)] at hk
      simp at hk
    · have hy' : ρ y = some v' := (hρ y e).symm.trans hy
      obtain ⟨c, u', hc, hic, hr⟩ := er.held y v' hy' (envKind hf)
      exact ⟨c, u', lk' hc hf, hic, hr⟩
  · have hf := isFree hk
    obtain ⟨c, hc⟩ := er.has y (envKind hf)
    exact ⟨c, lk' hc hf⟩

end
end Mine

namespace Mine
open PySem

section
variable {prog : Program} {w : World} {h₀ : Heap} {P : Prog} {fs : Tab} {mg mb : Str → Option Value} {n : Nat} {C : Ctx}

/-- an object that stands in the heap is taken into the mini heap -/
theorem SR.adopt {h : Heap} {β : List Addr} {H : Hp} (x : SR h₀ β H h) {r : Addr} {o : O} {ob : Obj} (hr : r ∉ β) (hn : h₀.get? r = Option.none) (hg : h.get? r = some ob) (ho : OR β o ob) : SR h₀ (β ++ [r]) (H ++ [o]) h := by
  have hp : β <+: β ++ [r] := List.prefix_append _ _
  refine ⟨x.kept, ?_, (x.objs.mono fun _ _ => Slot1.grow hp).append (.cons (.own hn hg (ho.mono hp)) .nil)⟩
  rw [List.nodup_append]
  refine ⟨x.nodup, by simp, fun a ha b hb => ?_⟩
  simp at hb; subst hb; rintro rfl; exact hr ha

theorem SR.other {h h' : Heap} {β : List Addr} {H : Hp} (x : SR h₀ β H h) (hk : ∀ b o, h.get? b = some o → (b ∈ β ∨ ∃ o', h₀.get? b = some o') → h'.get? b = some o) : SR h₀ β H h' := by
  refine ⟨fun b o e => hk b o (x.kept b o e) (.inr ⟨o, e⟩), x.nodup, ?_⟩
  have : ∀ (H : Hp) (γ : List Addr), (∀ b ∈ γ, b ∈ β) → All2 (Slot1 h₀ h β) H γ → All2 (Slot1 h₀ h' β) H γ := by
    intro H γ hs hA
    induction hA with
    | nil => exact .nil
    | cons q _ ih =>
      refine .cons ?_ (ih fun b hb => hs b (List.mem_cons_of_mem _ hb))
      exact q.at fun o e => hk _ o e (.inl (hs _ List.mem_cons_self))
  exact this H β (fun _ hb => hb) x.objs

theorem ER.other {env : PySem.Env} {ρ : Env} {β : List Addr} {h h' : Heap} (x : ER env ρ β h) (hl : KAt h h' env.locals) (hc : ∀ y c, env.cells.lookup y = some c → KAt h h' c) : ER env ρ β h' := by
  obtain ⟨m, hn, hm⟩ := x.ns
  refine ⟨x.kind, x.glob, x.bltn, ⟨m, Heap_Ns_at hn hl, hm⟩, fun y c hy => ?_, fun y v hv hk => ?_, x.has, x.apart, x.locs, x.cells⟩
  · obtain ⟨u, hu⟩ := x.cell y c hy; exact ⟨u, Heap_IsCell_at hu (hc y c hy)⟩
  · obtain ⟨c, u, hy, hu, hr⟩ := x.held y v hv hk; exact ⟨c, u, hy, Heap_IsCell_at hu (hc _ c hy), hr⟩

theorem ER.grow {env : PySem.Env} {ρ : Env} {β β' : List Addr} {h : Heap} (x : ER env ρ β h) (hp : β <+: β') (hl : env.locals ∉ β') (hc : ∀ y c, env.cells.lookup y = some c → c ∉ β') : ER env ρ β' h := by
  obtain ⟨m, hn, hm⟩ := x.ns
  refine ⟨x.kind, x.glob, x.bltn, ⟨m, hn, fun y v hv hk hd => ?_⟩, x.cell, fun y v hv hk => ?_, x.has, x.apart, hl, fun y c hy => ⟨hc y c hy, (x.cells y c hy).2⟩⟩
  · obtain ⟨u, hu, hr⟩ := hm y v hv hk hd; exact ⟨u, hu, hr.mono hp⟩
  · obtain ⟨c, u, hy, hu, hr⟩ := x.held y v hv hk; exact ⟨c, u, hy, hu, hr.mono hp⟩

noncomputable def compStep (C : Ctx) (elt : E) (conds : List E) (bd : V → Hp → Option Env) (X : XP) : V → Hp → (Option V → Hp → Prop) → Prop := fun v H2 k =>
  oE (bd v H2) fun ρ' => wAnd C conds ρ' H2 (fun b H3 => wIf b (wE C elt ρ' H3 (fun u H4 => k (some u) H4) X) (k none H3)) X

/-- the target of a comprehension binds the names xs -/
noncomputable def Asg (prog : Program) (w : World) (A : Around) (h₀ : Heap) (cenv : PySem.Env) (Cf : Addr) (tgt : Expr) (xs : List String) (bd : V → Hp → Option Env) : Prop :=
  ∀ (β : List Addr) (H : Hp) (v : V) (ρ' : Env) (u : Value) (s : Shared) (m : Str → Option Value) (Q : Unit → Shared → Prop) (E : Value → Shared → Prop), bd v H = some ρ' → SR h₀ β H s.heap → VR β v u → s.heap.Ns Cf m →
    (∀ h₂ tk m₂, h₂.Ns Cf m₂ → (∀ b o, b ≠ Cf → s.heap.get? b = some o → h₂.get? b = some o) → (∀ y ∈ xs, ∀ v', ρ' y = some v' → ∃ u', m₂ (Str.ofString y) = some u' ∧ VR β v' u') → Q () { s with heap := h₂, toks := tk }) →
    wpAny (model prog w) A (assign tgt cenv u) Q E s

theorem comp_kind {sc scope : Scope} {env : PySem.Env} {Cf : Addr} {xs : List Str} {x : Str} (ok : CompOk sc scope xs) (hx : x ∈ xs) : (compEnvC scope (clFrom env.cells scope.names []) Cf env).kindOf x = some .local ∧
    ((compEnvC scope (clFrom env.cells scope.names []) Cf env).scope.kind == .class || ((compEnvC scope (clFrom env.cells scope.names []) Cf env).scope.kind == .module && (compEnvC scope (clFrom env.cells scope.names []) Cf env).locals != (compEnvC scope (clFrom env.cells scope.names []) Cf env).globals)) = false := by
  refine ⟨by rw [compEnv_kind, ok.loc x hx]; simp, ?_⟩
  show (scope.kind == .class || (scope.kind == .module && _)) = false
  rw [ok.kind]; rfl

theorem asg_one {A : Around} {sc scope : Scope} {env : PySem.Env} {ρ : Env} {Cf : Addr} {x : String} {px : Pos} (ok : CompOk sc scope ([x].map Str.ofString)) : Asg prog w A h₀ (compEnvC scope (clFrom env.cells scope.names []) Cf env) Cf (.Name (Str.ofString x) px) [x] (fun v _ => some (ρ.set x v)) := by
  intro β H v ρ' u s m Q E hb sr hv hn h
  cases hb
  obtain ⟨kind, hp⟩ := comp_kind (env := env) (Cf := Cf) ok (.head _)
  refine wpAny_assign_Name (wpAny_storeName_local (m := m) kind hn (fun h₂ hn₂ hs₂ => h h₂ _ _ hn₂ (fun b o hb e => hs₂.extBut b o hb e) fun y hy v' e => ?_) hp)
  cases List.mem_singleton.mp hy
  have : v' = v := by simpa [Env.set] using e.symm
  subst this
  exact ⟨u, by simp, hv⟩
theorem one_only {ρ : Env} {x : String} {v : V} {H : Hp} {ρ' : Env} (hb : (fun (v : V) (_ : Hp) => some (Env.set ρ x v)) v H = some ρ') : ∀ y, y ∉ [x] → ρ' y = ρ y := fun y hy => by
  cases hb
  have : y ≠ x := fun e => hy (e ▸ .head _)
  simp [Env.set, beq_eq_false_iff_ne.mpr this]

theorem two_some {x y : String} {v : V} {ρ ρ' : Env} {H : Hp} (h : bindT (.two x y) v ρ H = some ρ') : ∃ a v1 v2, v = .ref a ∧ H[a]? = some (.tuple [v1, v2]) ∧ ρ' = (ρ.set x v1).set y v2 := by
  unfold bindT at h
  dsimp only at h
  split at h
  · split at h
    · rename_i e; cases h; exact ⟨_, _, _, rfl, e, rfl⟩
    · cases h
  · cases h
theorem asg_two {A : Around} {sc scope : Scope} {env : PySem.Env} {ρ : Env} {Cf : Addr} {x y : String} {px py tp : Pos} {b : Nat} (hh : A.handled = none) (hxy : x ≠ y) (ok : CompOk sc scope ([x, y].map Str.ofString)) :
    Asg prog w A h₀ (compEnvC scope (clFrom env.cells scope.names []) Cf env) Cf (.Tuple [.Name (Str.ofString x) px, .Name (Str.ofString y) py] b tp) [x, y] (fun v H => bindT (.two x y) v ρ H) := by
  intro β H v ρ' u s m Q E hb sr hv hn h
  obtain ⟨a, v1, v2, rfl, ha, rfl⟩ := two_some hb
  obtain ⟨r, rfl, hr⟩ := hv.ref_inv
  obtain ⟨us, ht, vr, _⟩ := sr.tupleOf ha hr
  obtain ⟨kx, hp⟩ := comp_kind (env := env) (Cf := Cf) ok (x := Str.ofString x) (.head _)
  obtain ⟨ky, _⟩ := comp_kind (env := env) (Cf := Cf) ok (x := Str.ofString y) (.tail _ (.head _))
  cases vr with
  | cons w1 vr =>
    cases vr with
    | cons w2 vr =>
      cases vr
      refine wpAny_assign_Tuple hh ht rfl rfl fun h' hext => ?_
      have keep : ∀ b o, s.heap.get? b = some o → h'.get? b = some o := fun b o e => hext b o (Nat.ne_of_lt (Heap.lt_size e)) e
      refine wpAny_assignInOrder_more (wpAny_assign_Name (wpAny_storeName_local (m := m) kx (hn.keeps keep) (fun h₂ hn₂ hs₂ => ?_) hp))
      refine wpAny_assignInOrder_more (wpAny_assign_Name (wpAny_storeName_local ky hn₂ (fun h₃ hn₃ hs₃ => ?_) hp))
      refine wpAny_assignInOrder_none (h h₃ _ _ hn₃ (fun b o hb e => hs₃.extBut b o hb (hs₂.extBut b o hb (keep b o e))) fun z hz v' e => ?_)
      rcases List.mem_cons.mp hz with rfl | hz
      · have : v' = v1 := by
          have hne : (z == y) = false := beq_eq_false_iff_ne.mpr hxy
          simpa [Env.set, hne] using e.symm
        subst this
        exact ⟨_, by rw [if_neg (ofString_ne hxy)]; simp, w1⟩
      · cases List.mem_singleton.mp hz
        have : v' = v2 := by simpa [Env.set] using e.symm
        subst this
        exact ⟨_, by simp, w2⟩
theorem two_only {ρ : Env} {x y : String} {v : V} {H : Hp} {ρ' : Env} (hb : (fun (v : V) (H : Hp) => bindT (.two x y) v ρ H) v H = some ρ') : ∀ z, z ∉ [x, y] → ρ' z = ρ z := fun z hz => by
  obtain ⟨a, v1, v2, _, _, rfl⟩ := two_some hb
  have h1 : (z == x) = false := beq_eq_false_iff_ne.mpr fun e => hz (e ▸ .head _)
  have h2 : (z == y) = false := beq_eq_false_iff_ne.mpr fun e => hz (e ▸ .tail _ (.head _))
  simp [Env.set, h1, h2]
/-- the tests of a comprehension -/
noncomputable def SoundIfs (prog : Program) (w : World) (h₀ : Heap) (P : Prog) (fs : Tab) (mg mb : Str → Option Value) (n : Nat) (C : Ctx) (conds : List E) (ifs : List Expr) (sc : Scope) : Prop :=
  ∀ env ρ β H s A k X E', At P fs mg mb h₀ n sc env ρ β H s A X E' → wAnd C conds ρ H k X →
    wpAny (model prog w) A (forIn ifs true fun c r => if r = true then do let ok ← isTrue c env (eval c env); pure (ForInStep.yield ok) else pure (ForInStep.yield r)) (PB h₀ β s k) E' s

/-- what stands between two turns -/
structure CompInv (h₀ : Heap) (β₂ : List Addr) (s₂ : Shared) (I D Cf : Addr) (St : Nat → Heap → Prop) (i : Nat) (β : List Addr) (H : Hp) (acc : List V) (s : Shared) : Prop where
  same : ∃ h tk, s = { s₂ with heap := h, toks := tk }
  st : St i s.heap
  sr : SR h₀ β H s.heap
  grow : β₂ <+: β
  keep : ∀ b, b ∉ β₂ → b ≠ I → KAt s₂.heap s.heap b
  fresh : ∀ b ∈ β, b ∈ β₂ ∨ s₂.heap.get? b = Option.none
  dout : D ∉ β
  cout : Cf ∉ β
  iout : I ∉ β
  list : ∃ us, s.heap.PlainList D us.toArray ∧ VRs β acc us
  len : acc.length ≤ i
  ns : ∃ m, s.heap.Ns Cf m

/-- a target that asks nothing of the iterator -/
noncomputable def TgtQuiet : Expr → Prop
  | .Name .. => True
  | .Tuple .. => True
  | _ => False
theorem own_go {A : Around} {β : List Addr} {I : Addr} {G : Hp → Prop} {items : List V} {St : Nat → Heap → Prop} (itr : Itr prog w A h₀ β I G items St) {tgt : Expr} (ht : TgtQuiet tgt) {i : Nat} {u : Value} {s : Shared} {Q : Unit → Shared → Prop} {E : Value → Shared → Prop} (st : St i s.heap) (hQ : Q () s) :
    wpAny (model prog w) A (letOwnedTupleGo tgt (.ref I) u) Q E s := by
  cases tgt with
  | Name _ _ => exact wpAny_pure hQ
  | Tuple _ _ _ =>
    obtain ⟨o, ho, hn⟩ := itr.owned i s st
    unfold letOwnedTupleGo
    cases u with
    | ref T =>
      refine wpAny_bind (wpAny_load ho ?_)
      split
      · rename_i n vs hc hd
        rw [if_neg (by rw [hn n hc, Bool.false_and]; decide)]
        exact wpAny_pure hQ
      · exact wpAny_pure hQ
    | _ => exact wpAny_pure hQ
  | _ => exact ht.elim
theorem compLoop_own {A : Around} {s : Shared} {R : Result → Shared → Prop} {elt target iter : Expr} {ifs : List Expr} {scope : Scope} {pos : Pos} {it acc : Value} {env : PySem.Env} (I : Nat → Shared → Prop)
    (turn : ∀ n s, I n s → wpAny (model prog w) A (pyNext it) (fun r s₁ => match r with
      | none => R (.ok .next) s₁
      | some v => wpAny (model prog w) A (letOwnedTupleGo target it v) (fun _ s₁ => wpAny (model prog w) A (assign target env v) (fun _ s₂ =>
          wpAny (model prog w) A (forIn ifs true fun c r => if r = true then do let ok ← isTrue c env (eval c env); pure (ForInStep.yield ok) else pure (ForInStep.yield r)) (fun ok s₃ =>
            if ok = true then wpAny (model prog w) A (eval elt env) (fun x s₄ =>
              wpAny (model prog w) A (call (.builtin "list.append") [acc, x]) (fun _ s₅ => ∃ m, m < n ∧ I m s₅) (notedBy (model prog w) A env fun e s' => R (.error e) s') s₄) (notedBy (model prog w) A env fun e s' => R (.error e) s') s₃
            else ∃ m, m < n ∧ I m s₃) (notedBy (model prog w) A env fun e s' => R (.error e) s') s₂) (notedBy (model prog w) A env fun e s' => R (.error e) s') s₁) (notedBy (model prog w) A env fun e s' => R (.error e) s') s₁) (notedBy (model prog w) A env fun e s' => R (.error e) s') s)
    (n : Nat) (h : I n s) :
    codeAny (model prog w) A (.compLoop (.ListComp elt [⟨target, iter, ifs, 0⟩] scope pos) 0 it acc env) R s := by
  refine codeAny_loop rfl I (fun n s hI => ?_) n h
  show wpAny _ A ((compTurn (.ListComp elt [⟨target, iter, ifs, 0⟩] scope pos) 0 it acc env).onRaise (fun x => do noteFrame x env; theTreesLotGoes x)) _ _ s
  refine wpAny_noted ?_
  rw [compTurn_list]
  refine wpAny_bind (wpAny_standAt (wpAny_bind (wpAny_mono (turn n s hI) (fun r s₁ h₁ => ?_) fun _ _ h' => h')))
  cases r with
  | none => exact wpAny_pure h₁
  | some v =>
    refine wpAny_bind (wpAny_mono h₁ (fun _ s₁ h₁ => ?_) fun _ _ h' => h')
    refine wpAny_bind (wpAny_mono h₁ (fun _ s₂ h₂ => wpAny_bind (wpAny_mono h₂ (fun ok s₃ h₃ => ?_) fun _ _ h' => h')) fun _ _ h' => h')
    cases ok with
    | false => exact wpAny_pure ⟨rfl, h₃⟩
    | true =>
      exact wpAny_bind (wpAny_bind (wpAny_mono h₃ (fun x s₄ h₄ => wpAny_bind (wpAny_mono h₄ (fun _ s₅ h₅ => wpAny_pure (wpAny_pure ⟨rfl, h₅⟩)) fun _ _ h' => h')) fun _ _ h' => h'))

theorem comp_loop {A : Around} {sc scope : Scope} {env : PySem.Env} {ρ : Env} {β : List Addr} {H : Hp} {s₂ s₄ : Shared} {xs : List String} {bd : V → Hp → Option Env} {tgt : Expr} {elt : E} {conds : List E} {el iter : Expr} {ifs : List Expr} {pos : Pos} {X : XP} {E' : Value → Shared → Prop}
    {G : Hp → Prop} {items : List V} {I D Cf : Addr} {St : Nat → Heap → Prop} {kfin : List V → Hp → Prop} {R : Result → Shared → Prop}
    (a : At P fs mg mb h₀ n sc env ρ β H s₂ A X E') (hIF : ∀ l, A.frames = some l → ∀ e ∈ l, e.frame ≠ some I) (itr : Itr prog w A h₀ β I G items St) (hIn : I ∉ β) (hIL : env.locals ≠ I) (hIc : ∀ y c, env.cells.lookup y = some c → c ≠ I)
    (ok : CompOk sc scope (xs.map Str.ofString)) (hTq : TgtQuiet tgt) (hAsg : Asg prog w A h₀ (compEnvC scope (clFrom env.cells scope.names []) Cf env) Cf tgt xs bd) (hρ : ∀ v H ρ', bd v H = some ρ' → ∀ y, y ∉ xs → ρ' y = ρ y) (hlen : items.length ≤ lim) (hE : SoundE prog w h₀ P fs mg mb n C elt el scope) (hT : SoundIfs prog w h₀ P fs mg mb n C conds ifs scope)
    (hI₀ : h₀.get? I = Option.none) (hD : s₂.heap.get? D = Option.none) (hC : s₂.heap.get? Cf = Option.none) (hDC : D ≠ Cf) (hDI : D ≠ I) (hCI : Cf ≠ I)
    (inv0 : CompInv h₀ β s₂ I D Cf St 0 β H [] s₄)
    (hw : wLoop G (compStep C elt conds bd noX) items [] H kfin)
    (hR : ∀ s' β' H' acc, CompInv h₀ β s₂ I D Cf (fun _ _ => True) items.length β' H' acc s' → kfin acc H' → R (.ok .next) s') :
    codeAny (model prog w) A (.compLoop (.ListComp el [⟨tgt, iter, ifs, 0⟩] scope pos) 0 (.ref I) (.ref D) (compEnvC scope (clFrom env.cells scope.names []) Cf env)) R s₄ := by
  have envO : ∃ o, s₂.heap.get? env.locals = some o := by obtain ⟨m, ⟨o, _, _, e, _⟩, _⟩ := a.er.ns; exact ⟨o, e⟩
  have cellO : ∀ y c, env.cells.lookup y = some c → ∃ o, s₂.heap.get? c = some o := fun y c hc => by obtain ⟨u, o, e, _⟩ := a.er.cell y c hc; exact ⟨o, e⟩
  have hCL : env.locals ≠ Cf := by obtain ⟨o, e⟩ := envO; rintro rfl; (first | exact clash hC e | exact clash e hC | (rw [hC] at e; cases e))
  have hCc : ∀ y c, env.cells.lookup y = some c → c ≠ Cf := fun y c hc => by obtain ⟨o, e⟩ := cellO y c hc; rintro rfl; (first | exact clash hC e | exact clash e hC | (rw [hC] at e; cases e))
  refine compLoop_own (fun k s' => ∃ i β' H' acc, k = items.length + 1 - i ∧ i ≤ items.length ∧ CompInv h₀ β s₂ I D Cf St i β' H' acc s' ∧ wLoop G (compStep C elt conds bd noX) (items.drop i) acc H' kfin) ?_ (items.length + 1)
    ⟨0, β, H, [], by omega, by omega, inv0, hw⟩
  rintro k s' ⟨i, β', H', acc, rfl, hi, inv, hwl⟩
  obtain ⟨h', tk', rfl⟩ := inv.same
  by_cases hlt : i < items.length
  · -- one more
    obtain ⟨v, hv⟩ : ∃ v, items[i]? = some v := ⟨_, List.getElem?_eq_getElem hlt⟩
    have hdrop : items.drop i = v :: items.drop (i + 1) := by
      rw [List.drop_eq_getElem_cons hlt]
      congr 1
      rw [List.getElem?_eq_getElem hlt] at hv; exact Option.some.inj hv
    rw [hdrop] at hwl
    obtain ⟨hG, hstep⟩ := hwl
    refine itr.item i v β' H' _ _ _ hv inv.st inv.grow inv.sr hG inv.iout fun u h₁ tk₁ hvu hst₁ hk₁ => ?_
    obtain ⟨m, hns⟩ := inv.ns
    have hns₁ : h₁.Ns Cf m := Heap_Ns_at hns (.of fun o e => hk₁ _ o hCI e)
    have sr₁ : SR h₀ β' H' h₁ := inv.sr.other fun b o e q => hk₁ b o (by
      rcases q with q | ⟨o', q⟩
      · rintro rfl; exact inv.iout q
      · rintro rfl; exact clash q hI₀) e
    obtain ⟨ρ', hbd, hstep⟩ := oE_ex hstep
    refine own_go itr hTq hst₁ ?_
    refine hAsg β' H' v ρ' u { s₂ with heap := h₁, toks := tk₁ } m _ _ hbd sr₁ hvu hns₁ fun h₂ tk₂ m₂ hn₂ hs₂ hb₂ => ?_
    -- the state at the element
    have k2 : ∀ b o, b ≠ I → b ≠ Cf → h'.get? b = some o → h₂.get? b = some o := fun b o hb hb' e => hs₂ b o hb' (hk₁ b o hb e)
    have notI : ∀ b ∈ β', b ≠ I := fun b hb e => inv.iout (e ▸ hb)
    have notC : ∀ b ∈ β', b ≠ Cf := fun b hb e => inv.cout (e ▸ hb)
    have hC₀ : h₀.get? Cf = Option.none := by
      cases e : h₀.get? Cf with
      | none => rfl
      | some o => have := a.sr.kept _ _ e; (first | exact clash hC this | exact clash this hC | (rw [hC] at this; cases this))
    have sr₂ : SR h₀ β' H' h₂ := inv.sr.other fun b o e q => by
      refine k2 b o ?_ ?_ e
      · rcases q with q | ⟨o', q⟩
        · exact notI b q
        · rintro rfl; (first | exact clash hI₀ q | exact clash q hI₀ | (rw [hI₀] at q; cases q))
      · rcases q with q | ⟨o', q⟩
        · exact notC b q
        · rintro rfl; (first | exact clash hC₀ q | exact clash q hC₀ | (rw [hC₀] at q; cases q))
    have hDk : h₂.get? D = h'.get? D → True := fun _ => trivial
    obtain ⟨us, hpl, hus⟩ := inv.list
    have hpl₂ : h₂.PlainList D us.toArray := let ⟨q, e⟩ := hpl; ⟨q, k2 D _ hDI hDC e⟩
    have hst₂ : St (i + 1) h₂ := itr.frame _ _ _ hst₁ fun o e => hs₂ I o (Ne.symm hCI) e
    have keep₂ : ∀ b, b ∉ β → b ≠ I → KAt s₂.heap h₂ b := fun b hb hbI o e =>
      (KAt.trans (inv.keep b hb hbI) (.of fun o' e' => k2 b o' hbI (by rintro rfl; (first | exact clash hC e | exact clash e hC | (rw [hC] at e; cases e))) e')) o e
    have er₂ : ER env ρ β' h₂ := by
      have hl' : env.locals ∉ β' := fun hm => by
        rcases inv.fresh _ hm with q | q
        · exact a.er.locs q
        · obtain ⟨o, e⟩ := envO; (first | exact clash e q | exact clash q e | (rw [e] at q; cases q))
      have hc' : ∀ y c, env.cells.lookup y = some c → c ∉ β' := fun y c hy hm => by
        rcases inv.fresh _ hm with q | q
        · exact (a.er.cells y c hy).1 q
        · obtain ⟨o, e⟩ := cellO y c hy; (first | exact clash e q | exact clash q e | (rw [e] at q; cases q))
      exact (a.er.other (keep₂ _ a.er.locs hIL) (fun y c hy => keep₂ c (a.er.cells y c hy).1 (hIc y c hy))).grow inv.grow hl' hc'
    have er' := comp_er er₂ a.sc ok hn₂ hb₂ (hρ v H' ρ' hbd) inv.cout hCc
    have at₂ : ∀ Ex, At P fs mg mb h₀ n scope (compEnvC scope (clFrom env.cells scope.names []) Cf env) ρ' β' H' { s₂ with heap := h₂, toks := tk₂ } A noX Ex := fun Ex =>
      ⟨a.names, a.amb, sr₂, er', comp_scr _ _ _ _, let ⟨l, e1, e2⟩ := a.frs; ⟨l, e1, e2.at (fun _ _ L _ hL ⟨o, e⟩ hm => by
        rcases inv.fresh L hm with q | q
        · exact hL q
        · (first | exact clash e q | exact clash q e | (rw [e] at q; cases q))) fun env' he L hL hb _ => keep₂ L hb fun e => hIF l e1 env' he (e ▸ hL)⟩, fun _ _ _ _ _ h => h.elim⟩
    have base₂ : CompInv h₀ β s₂ I D Cf St (i + 1) β' H' acc { s₂ with heap := h₂, toks := tk₂ } :=
      ⟨⟨_, _, rfl⟩, hst₂, sr₂, inv.grow, keep₂, inv.fresh, inv.dout, inv.cout, inv.iout, ⟨us, hpl₂, hus⟩, Nat.le_succ_of_le inv.len, ⟨_, hn₂⟩⟩
    -- a step of the mini heap keeps the invariant
    have go : ∀ {β₁ β₃ : List Addr} {H₁ H₃ : Hp} {s₁ s₃ : Shared}, CompInv h₀ β s₂ I D Cf St (i + 1) β₁ H₁ acc s₁ → Step β₁ s₁ β₃ s₃ → SR h₀ β₃ H₃ s₃.heap → CompInv h₀ β s₂ I D Cf St (i + 1) β₃ H₃ acc s₃ := by
      intro β₁ β₃ H₁ H₃ s₁ s₃ c t sr₃
      obtain ⟨h1, t1, rfl⟩ := c.same
      obtain ⟨h3, t3, rfl⟩ := t.same
      have out : ∀ b, b ∉ β₁ → (∃ o, h1.get? b = some o) → b ∉ β₃ := fun b hb ⟨o, e⟩ hm => by
        rcases t.fresh b hm with q | q
        · exact hb q
        · have e' : h1.get? b = Option.none := q
          (first | exact clash e e' | exact clash e' e | (rw [e] at e'; cases e'))
      obtain ⟨us, hpl, hus⟩ := c.list
      obtain ⟨m, hn⟩ := c.ns
      refine ⟨⟨_, _, rfl⟩, itr.stay c.st (t.keep I c.iout), sr₃, c.grow.trans t.grow, fun b hb hbI o e => ?_, fun b hb => ?_, out D c.dout ?_, out Cf c.cout ?_, out I c.iout (itr.live _ _ c.st),
        ⟨us, let ⟨q, e⟩ := hpl; ⟨q, (t.keep D c.dout).exact e (fun _ _ q => by cases q)⟩, VRs.mono t.grow hus⟩, c.len, ⟨m, Heap_Ns_at hn (t.keep Cf c.cout)⟩⟩
      · refine KAt.trans (c.keep b hb hbI) (t.keep b fun hm => ?_) o e
        rcases c.fresh b hm with q | q
        · exact hb q
        · (first | exact clash e q | exact clash q e | (rw [e] at q; cases q))
      · rcases t.fresh b hb with q | q
        · exact c.fresh b q
        · by_cases hm : b ∈ β
          · exact .inl hm
          · by_cases hbI : b = I
            · subst hbI; obtain ⟨o, e⟩ := itr.live _ _ c.st; have q' : h1.get? b = Option.none := q; have e' : h1.get? b = some o := e; (first | exact clash e' q' | exact clash q' e' | (rw [e'] at q'; cases q'))
            · refine .inr ?_
              cases e : s₂.heap.get? b with
              | none => rfl
              | some o => obtain ⟨o', this, _⟩ := c.keep b hm hbI o e; have q' : h1.get? b = Option.none := q; have this' : h1.get? b = some o' := this; (first | exact clash this' q' | exact clash q' this' | (rw [this'] at q'; cases q'))
      · obtain ⟨q, e⟩ := hpl; exact ⟨_, e⟩
      · obtain ⟨o, _, _, e, _⟩ := hn; exact ⟨o, e⟩
    refine wpAny_mono (hT _ _ _ _ _ _ _ noX _ (at₂ _) hstep) (fun b s₃ h₃ => ?_) fun _ _ e => e
    obtain ⟨β₃, H₃, hb, t₃, sr₃⟩ := h₃
    have inv₃ := go base₂ t₃ sr₃
    cases b with
    | false =>
      simp only [Bool.false_eq_true, if_false]
      exact ⟨items.length + 1 - (i + 1), by omega, i + 1, β₃, H₃, acc, rfl, by omega, inv₃, hb.2 rfl⟩
    | true =>
      simp only [if_true]
      refine wpAny_mono (hE _ _ _ _ _ _ _ noX _ ((at₂ _).step t₃ sr₃) (hb.1 rfl)) (fun y s₄ h₄ => ?_) fun _ _ e => e
      obtain ⟨β₄, u', H₄, hk₄, t₄, sr₄, vr₄⟩ := h₄
      have inv₄ := go inv₃ t₄ sr₄
      obtain ⟨us₄, hpl₄, hus₄⟩ := inv₄.list
      have hD₀ : h₀.get? D = Option.none := by
        cases e : h₀.get? D with
        | none => rfl
        | some o => have := a.sr.kept _ _ e; (first | exact clash hD this | exact clash this hD | (rw [hD] at this; cases this))
      refine wpAny_list_append_plain hpl₄ (fun h₅ hl₅ hs₅ => ?_) (by rw [List.size_toArray, ← hus₄.length]; have := inv₄.len; unfold sizeLine; unfold lim at hlen; omega)
      obtain ⟨h4, t4, rfl⟩ := inv₄.same
      refine ⟨items.length + 1 - (i + 1), by omega, i + 1, β₄, H₄, acc ++ [u'], rfl, by omega, ?_, hk₄⟩
      obtain ⟨m₄, hn₄⟩ := inv₄.ns
      refine ⟨⟨_, _, rfl⟩, itr.frame _ _ _ inv₄.st fun o e => hs₅.extBut I o (Ne.symm hDI) e, sr₄.other fun b o e q => hs₅.extBut b o ?_ e, inv₄.grow, fun b hb hbI o e => KAt.trans (inv₄.keep b hb hbI) (.of fun o' e' => hs₅.extBut b o' ?_ e') o e, inv₄.fresh, inv₄.dout, inv₄.cout, inv₄.iout,
        ⟨us₄ ++ [y], by rw [List.push_toArray] at hl₅; exact hl₅, hus₄.append (.cons vr₄ .nil)⟩, by rw [List.length_append]; have := inv.len; simp; omega, ⟨m₄, Heap_Ns_at hn₄ (.of fun o e => hs₅.extBut Cf o (Ne.symm hDC) e)⟩⟩
      · rcases q with q | ⟨o', q⟩
        · rintro rfl; exact inv₄.dout q
        · rintro rfl; (first | exact clash hD₀ q | exact clash q hD₀ | (rw [hD₀] at q; cases q))
      · rintro rfl; (first | exact clash hD e | exact clash e hD | (rw [hD] at e; cases e))
  · -- the end
    have hie : i = items.length := by omega
    subst hie
    rw [List.drop_length] at hwl
    obtain ⟨hG, hk⟩ := hwl
    refine itr.done β' H' _ _ _ inv.st inv.grow inv.sr hG inv.iout fun h₁ tk₁ hk₁ => ?_
    obtain ⟨us, ⟨q, hpl⟩, hus⟩ := inv.list
    obtain ⟨m, hn⟩ := inv.ns
    refine hR _ β' H' acc ⟨⟨_, _, rfl⟩, trivial, inv.sr.other fun b o e q => hk₁ b o ?_ e, inv.grow, fun b hb hbI => KAt.trans (inv.keep b hb hbI) (.of fun o e => hk₁ b o hbI e), inv.fresh, inv.dout, inv.cout, inv.iout, ⟨us, ⟨q, hk₁ D _ hDI hpl⟩, hus⟩, inv.len,
      ⟨m, Heap_Ns_at hn (.of fun o e => hk₁ Cf o hCI e)⟩⟩ hk
    rcases q with q | ⟨o', q⟩
    · rintro rfl; exact inv.iout q
    · rintro rfl; (first | exact clash hI₀ q | exact clash q hI₀ | (rw [hI₀] at q; cases q))

end
end Mine

namespace Mine
open PySem

section
variable {prog : Program} {w : World} {h₀ : Heap} {P : Prog} {fs : Tab} {mg mb : Str → Option Value} {n : Nat} {C : Ctx}

/-- the source of a loop, made ready: its iterator stands -/
inductive SrcReady (prog : Program) (w : World) (A : Around) (h₀ : Heap) (β : List Addr) (s : Shared) (W : (Hp → Prop) → List V → Hp → Prop) (it : Value) (s₂ : Shared) : Prop
  | mk (β₁ : List Addr) (H₁ : Hp) (s₁ : Shared) (G : Hp → Prop) (items : List V) : Made prog w A h₀ β₁ s₁ G items it s₂ → Step β s β₁ s₁ → SR h₀ β₁ H₁ s₁.heap → items.length ≤ lim → W G items H₁ → SrcReady prog w A h₀ β s W it s₂

/-- behind a comprehension, its list not yet in the mini heap -/
structure CompOut (h₀ : Heap) (β : List Addr) (s : Shared) (D Cf : Addr) (β' : List Addr) (H' : Hp) (acc : List V) (s' : Shared) : Prop where
  step : Step β s β' s'
  sr : SR h₀ β' H' s'.heap
  dout : D ∉ β'
  dnew : s.heap.get? D = Option.none
  cnew : s.heap.get? Cf = Option.none
  list : ∃ us, s'.heap.PlainList D us.toArray ∧ VRs β' acc us
  len : acc.length ≤ lim
  dc : D ≠ Cf
  cout : Cf ∉ β'

theorem comp_whole {A : Around} {Ex : Value → Shared → Prop} {sc scope : Scope} {env : PySem.Env} {ρ : Env} {β : List Addr} {H : Hp} {s : Shared} {xs : List String} {bd : V → Hp → Option Env} {tgt : Expr} {elt : E} {conds : List E} {el iter : Expr} {ifs : List Expr} {pos pos' : Pos} {X : XP} {E₂ : Value → Shared → Prop}
    {kfin : List V → Hp → Prop} {use : Option (Value → Sem Unit)} {Q : Value → Shared → Prop}
    (a : At P fs mg mb h₀ n sc env ρ β H s A X E₂) (ok : CompOk sc scope (xs.map Str.ofString)) (hTq : TgtQuiet tgt) (hAsg : ∀ Cf, Asg prog w A h₀ (compEnvC scope (clFrom env.cells scope.names []) Cf env) Cf tgt xs bd) (hρ : ∀ v H ρ', bd v H = some ρ' → ∀ y, y ∉ xs → ρ' y = ρ y) (hE : SoundE prog w h₀ P fs mg mb n C elt el scope) (hT : SoundIfs prog w h₀ P fs mg mb n C conds ifs scope)
    (hs : ∀ x, foldedSetIterable iter env x = pure x)
    (hsrc : wpAny (model prog w) A (eval iter env) (fun xv s₁ => wpAny (model prog w) A (pyIter xv) (SrcReady prog w A h₀ β s fun G items H₁ => wLoop G (compStep C elt conds bd noX) items [] H₁ kfin) Ex s₁) Ex s)
    (hQ : ∀ D Cf β' H' acc s', CompOut h₀ β s D Cf β' H' acc s' → (∃ m, s'.heap.Ns Cf m) → kfin acc H' → compPost (model prog w) A Ex use Q (.ref D) Cf (.ok .next) s') :
    wpAny (model prog w) A (comprehension (.ListComp el [⟨tgt, iter, ifs, 0⟩] scope pos) scope env pos' (newList []) false (eval iter env) use) Q Ex s := by
  have hclos : closureFor scope env = pure (clFrom env.cells scope.names []) := closure_eq fun y hy => a.er.has y (by
    have h1 := ok.free y hy
    rw [← a.sc y] at h1
    cases hk : env.kindOf y with
    | none => (first | exact clash hk h1 | exact clash h1 hk | (rw [hk] at h1; cases h1))
    | some k => rw [hk] at h1; cases k <;> first | exact .inl rfl | exact .inr rfl | cases h1)
  refine wpAny_comprehension_free rfl hs hclos ok.kind ok.names (wpAny_mono hsrc (fun xv s₁ h₁ => wpAny_mono h₁ (fun it s₂ h₂ => ?_) fun _ _ e => e) fun _ _ e => e)
  obtain ⟨β₁, H₁, s₁, G, items, ⟨I, St, hI, tkI, rfl, rfl, kI, nI, st0, itr⟩, t₁, sr₁, hlen, hw⟩ := h₂
  have a₁ := a.step t₁ sr₁
  have notNew : ∀ b, (∃ o, s₁.heap.get? b = some o) → b ≠ I := fun b ⟨o, e⟩ q => by rw [q, nI] at e; cases e
  have hIβ : I ∉ β₁ := fun hm => notNew I (sr₁.mem hm) rfl
  have hI₀ : h₀.get? I = Option.none := by
    cases e : h₀.get? I with
    | none => rfl
    | some o => exact absurd rfl (notNew I ⟨o, sr₁.kept _ _ e⟩)
  -- the list and the frame
  refine wpAny_newObj_type (wpAny_newFunctionEnv ok.nocell (by intro y hy; simp at hy) (fun h₃ hns₃ hsb₃ => ?_) ok.kind)
  dsimp only at hns₃ hsb₃ ⊢
  generalize hD : hI.objs.size = D at *
  have hCsz : (hI.push { cls := .type "list", dict := none, data := .seq ([] : List Value).toArray }).objs.size = D + 1 := by rw [Heap.size_push, hD]
  rw [hCsz] at hns₃ hsb₃ ⊢
  have old : ∀ b o, hI.get? b = some o → h₃.get? b = some o := fun b o e => by
    have hb : b ≠ D + 1 := by have := Heap.lt_size e; rw [hD] at this; exact Nat.ne_of_lt (Nat.lt_succ_of_lt this)
    exact hsb₃.extBut b o hb (Heap.get?_push_of_some _ (Heap.get?_push_of_some _ e))
  have hDnew : hI.get? D = Option.none := get_none_of_le (by rw [hD]; exact Nat.le_refl _)
  have hCnew : hI.get? (D + 1) = Option.none := get_none_of_le (by rw [hD]; exact Nat.le_succ _)
  have hDlist : h₃.PlainList D ([] : List Value).toArray := ⟨0, by
    have : (hI.push { cls := .type "list", dict := none, data := .seq ([] : List Value).toArray }).get? D = some { cls := .type "list", dict := none, data := .seq ([] : List Value).toArray } := by
      rw [← hD]; exact Heap.get?_push_size _ rfl
    exact hsb₃.extBut D _ (Nat.ne_of_lt (Nat.lt_succ_self _)) (Heap.get?_push_of_some _ this)⟩
  have hIex : ∃ o, hI.get? I = some o := itr.live _ _ st0
  have hDI : D ≠ I := fun e => by obtain ⟨o, q⟩ := hIex; rw [← e, hDnew] at q; cases q
  have hCI : D + 1 ≠ I := fun e => by obtain ⟨o, q⟩ := hIex; rw [← e, hCnew] at q; cases q
  have sr₂ : SR h₀ β₁ H₁ hI := sr₁.keeps kI
  have er₂ : ER env ρ β₁ hI := a₁.er.other (.of fun o e => kI _ _ e) (fun _ _ _ => .of fun o e => kI _ _ e)
  have hdβ : D ∉ β₁ := fun hm => by obtain ⟨o, e⟩ := sr₂.mem hm; (first | exact clash hDnew e | exact clash e hDnew | (rw [hDnew] at e; cases e))
  have hcβ : D + 1 ∉ β₁ := fun hm => by obtain ⟨o, e⟩ := sr₂.mem hm; (first | exact clash hCnew e | exact clash e hCnew | (rw [hCnew] at e; cases e))
  have inv0 : CompInv h₀ β₁ { s₁ with heap := hI, toks := tkI } I D (D + 1) St 0 β₁ H₁ [] { s₁ with heap := h₃, toks := tkI + 0 } :=
    ⟨⟨_, _, rfl⟩, itr.frame _ _ _ st0 fun o e => old I o e, sr₂.keeps old, List.prefix_refl _, fun b _ _ => .of fun o e => old b o e, fun b hb => .inl hb, hdβ, hcβ, hIβ, ⟨[], hDlist, .nil⟩, Nat.le_refl _, ⟨_, hns₃⟩⟩
  have a₂ : At P fs mg mb h₀ n sc env ρ β₁ H₁ { s₁ with heap := hI, toks := tkI } A X E₂ := a₁.step (Step.of_heap kI) sr₂
  have envO : ∃ o, s₁.heap.get? env.locals = some o := by obtain ⟨m, ⟨o, _, _, e, _⟩, _⟩ := a₁.er.ns; exact ⟨o, e⟩
  have loop := comp_loop (iter := iter) (pos := pos) (R := compPost (model prog w) A Ex use Q (.ref D) (D + 1)) a₂ (fun l hl e he q => by
      obtain ⟨l', e1, e2⟩ := a₁.frs
      (first | exact clash hl e1 | exact clash e1 hl | (rw [hl] at e1; cases e1))
      obtain ⟨_, L, hL, _, _, o, _, _, eo, _⟩ := e2 e he
      (first | exact clash q hL | exact clash hL q | (rw [q] at hL; cases hL))
      exact notNew _ ⟨o, eo⟩ rfl) itr hIβ (notNew _ envO) (fun y c hy => notNew c (by obtain ⟨u, o, e, _⟩ := a₁.er.cell y c hy; exact ⟨o, e⟩)) ok hTq (hAsg _) hρ hlen hE hT hI₀ hDnew hCnew (Nat.ne_of_lt (Nat.lt_succ_self _)) hDI hCI inv0 hw
    (fun s' β' H' acc inv hk => hQ D (D + 1) β' H' acc s' (by
      obtain ⟨h', tk', rfl⟩ := inv.same
      obtain ⟨h1, t1, rfl⟩ := t₁.same
      have up : ∀ b, b ∉ β → KAt s.heap hI b := fun b hb => KAt.trans (t₁.keep b hb) (.of fun o e => kI b o e)
      refine ⟨⟨⟨_, _, rfl⟩, t₁.grow.trans inv.grow, fun b hb o e => ?_, fun b hb => ?_⟩, inv.sr, inv.dout, ?_, ?_, inv.list, Nat.le_trans inv.len hlen, Nat.ne_of_lt (Nat.lt_succ_self _), inv.cout⟩
      · have hb1 : b ∉ β₁ := fun hm => by
          rcases t₁.fresh b hm with q | q
          · exact hb q
          · (first | exact clash e q | exact clash q e | (rw [e] at q; cases q))
        exact KAt.trans (up b hb) (inv.keep b hb1 (notNew b ((t₁.keep b hb).live ⟨o, e⟩))) o e
      · rcases inv.fresh b hb with q | q
        · exact t₁.fresh b q
        · by_cases hm : b ∈ β
          · exact .inl hm
          · refine .inr ?_
            cases e : s.heap.get? b with
            | none => rfl
            | some o => obtain ⟨o', this, _⟩ := up b hm o e; have q' : hI.get? b = Option.none := q; (first | exact clash this q' | exact clash q' this | (rw [this] at q'; cases q'))
      · cases e : s.heap.get? D with
        | none => rfl
        | some o =>
          by_cases hm : D ∈ β
          · exact absurd (t₁.grow.subset hm) hdβ
          · obtain ⟨o', this, _⟩ := up D hm o e; (first | exact clash hDnew this | exact clash this hDnew | (rw [hDnew] at this; cases this))
      · cases e : s.heap.get? (D + 1) with
        | none => rfl
        | some o =>
          by_cases hm : D + 1 ∈ β
          · exact absurd (t₁.grow.subset hm) hcβ
          · obtain ⟨o', this, _⟩ := up _ hm o e; (first | exact clash hCnew this | exact clash this hCnew | (rw [hCnew] at this; cases this))) inv.ns hk)
  exact codeAny_compStart_list loop (itr.self 0 _ _ _ inv0.st loop)

/-- the list goes into the mini heap -/
theorem CompOut.adopt {β : List Addr} {s : Shared} {D Cf : Addr} {β' : List Addr} {H' : Hp} {acc : List V} {s' : Shared} (c : CompOut h₀ β s D Cf β' H' acc s') (kept : ∀ b o, h₀.get? b = some o → s.heap.get? b = some o) :
    Step β s (β' ++ [D]) s' ∧ SR h₀ (β' ++ [D]) (H' ++ [.list acc]) s'.heap ∧ VR (β' ++ [D]) (.ref H'.length) (.ref D) := by
  obtain ⟨us, ⟨q, hpl⟩, hus⟩ := c.list
  have hD₀ : h₀.get? D = Option.none := by
    cases e : h₀.get? D with
    | none => rfl
    | some o => have := kept _ _ e; (first | exact clash c.dnew this | exact clash this c.dnew | (rw [c.dnew] at this; cases this))
  refine ⟨⟨c.step.same, c.step.grow.trans (List.prefix_append _ _), c.step.keep, fun b hb => ?_⟩, c.sr.adopt c.dout hD₀ hpl (.list hus c.len), .ref (by rw [c.sr.len]; simp)⟩
  rcases List.mem_append.mp hb with q | q
  · exact c.step.fresh b q
  · simp at q; subst q; exact .inr c.dnew

/-- the comprehension as a value -/
theorem comp_value {A : Around} {Ex : Value → Shared → Prop} {sc scope : Scope} {env : PySem.Env} {ρ : Env} {β : List Addr} {H : Hp} {s : Shared} {xs : List String} {bd : V → Hp → Option Env} {tgt : Expr} {elt : E} {conds : List E} {el iter : Expr} {ifs : List Expr} {pos : Pos} {X : XP} {E₂ : Value → Shared → Prop} {Q : Post}
    (a : At P fs mg mb h₀ n sc env ρ β H s A X E₂) (ok : CompOk sc scope (xs.map Str.ofString)) (hTq : TgtQuiet tgt) (hAsg : ∀ Cf, Asg prog w A h₀ (compEnvC scope (clFrom env.cells scope.names []) Cf env) Cf tgt xs bd) (hρ : ∀ v H ρ', bd v H = some ρ' → ∀ y, y ∉ xs → ρ' y = ρ y) (hE : SoundE prog w h₀ P fs mg mb n C elt el scope) (hT : SoundIfs prog w h₀ P fs mg mb n C conds ifs scope)
    (hs : ∀ x, foldedSetIterable iter env x = pure x)
    (hsrc : wpAny (model prog w) A (eval iter env) (fun xv s₁ => wpAny (model prog w) A (pyIter xv) (SrcReady prog w A h₀ β s fun G items H₁ => wLoop G (compStep C elt conds bd noX) items [] H₁ (fun acc H5 => Q (.ref H5.length) (H5 ++ [.list acc]))) Ex s₁) Ex s) :
    wpAny (model prog w) A (eval (.ListComp el [⟨tgt, iter, ifs, 0⟩] scope pos) env) (PE h₀ β s Q) Ex s := by
  rw [eval_ListComp]
  refine comp_whole (use := none) a ok hTq hAsg hρ hE hT hs hsrc fun D Cf β' H' acc s' c hns hk => ?_
  obtain ⟨m, hn⟩ := hns
  refine ⟨m, hn, fun h'' hs'' => ?_⟩
  obtain ⟨h', tk', rfl⟩ := c.step.same
  obtain ⟨us, ⟨q, hpl⟩, hus⟩ := c.list
  have hC₀ : h₀.get? Cf = Option.none := by
    cases e : h₀.get? Cf with
    | none => rfl
    | some o => have := a.sr.kept _ _ e; (first | exact clash c.cnew this | exact clash this c.cnew | (rw [c.cnew] at this; cases this))
  have c' : CompOut h₀ β s D Cf β' H' acc { s with heap := h'', toks := tk' } := by
    refine ⟨⟨⟨_, _, rfl⟩, c.step.grow, fun b hb o e => KAt.trans (c.step.keep b hb) (.of fun o' e' => hs''.extBut b o' ?_ e') o e, c.step.fresh⟩, c.sr.other fun b o e q => hs''.extBut b o ?_ e, c.dout, c.dnew, c.cnew, ⟨us, ⟨q, hs''.extBut D _ c.dc hpl⟩, hus⟩, c.len, c.dc, c.cout⟩
    · rintro rfl; (first | exact clash c.cnew e | exact clash e c.cnew | (rw [c.cnew] at e; cases e))
    · rcases q with q | ⟨o', q⟩
      · rintro rfl; exact c.cout q
      · rintro rfl; (first | exact clash hC₀ q | exact clash q hC₀ | (rw [hC₀] at q; cases q))
  obtain ⟨st, sr, vr⟩ := c'.adopt a.sr.kept
  exact ⟨_, _, _, hk, st, sr, vr⟩

end
end Mine

namespace Mine
open PySem

section
variable {prog : Program} {w : World} {h₀ : Heap} {P : Prog} {fs : Tab} {mg mb : Str → Option Value} {n : Nat} {C : Ctx}

noncomputable def Snd (prog : Program) (w : World) (h₀ : Heap) (P : Prog) (fs : Tab) (mg mb : Str → Option Value) (n : Nat) (C : Ctx) (sc : Scope) (e : E) (x : Expr) : Prop :=
  SoundE prog w h₀ P fs mg mb n C e x sc ∧ SoundT prog w h₀ P fs mg mb n C e x sc

theorem PE.now {β : List Addr} {H : Hp} {s : Shared} {Q : Post} {v : V} {u : Value} (hq : Q v H) (sr : SR h₀ β H s.heap) (vr : VR β v u) : PE h₀ β s Q u s := ⟨β, v, H, hq, Step.refl β s, sr, vr⟩
theorem PE.tok {β : List Addr} {H : Hp} {s : Shared} {Q : Post} {v : V} {u : Value} {t : Nat} (hq : Q v H) (sr : SR h₀ β H s.heap) (vr : VR β v u) : PE h₀ β s Q u { s with toks := t } := ⟨β, v, H, hq, Step.toks β s t, sr, vr⟩

variable {sc : Scope} {env : PySem.Env} {ρ : Env} {A : Around} {E' : Value → Shared → Prop}

theorem list_of {es : List E} {xs : List Expr} (hA : All2 (Snd prog w h₀ P fs mg mb n C sc) es xs) : ∀ {β : List Addr} {H : Hp} {s : Shared} {Q : List V → Hp → Prop} {X : XP}, At P fs mg mb h₀ n sc env ρ β H s A X E' → wEs C es ρ H Q X →
    wpList prog w A env xs (PEs h₀ β s Q) E' s := by
  induction hA with
  | nil => intro β H s Q X a hw; exact ⟨β, [], H, hw, Step.refl β s, a.sr, .nil⟩
  | cons h _ ih =>
    intro β H s Q X a hw
    refine wpAny_mono (h.1 env ρ β H s A _ X E' a hw) (fun u s1 h1 => ?_) fun _ _ e => e
    obtain ⟨β1, v, H1, hw1, t1, sr1, vr1⟩ := h1
    refine wpList_mono (ih (a.step t1 sr1) hw1) fun us s2 h2 => ?_
    obtain ⟨β2, vs, H2, hq, t2, sr2, vr2⟩ := h2
    exact ⟨β2, v :: vs, H2, hq, t1.trans t2, sr2, .cons (vr1.mono t2.grow) vr2⟩

theorem ready_of {p : Prim} {β : List Addr} {s s1 : Shared} {Q : Post} {us : List Value} (h : PEs h₀ β s (fun vs H1 => wP p vs H1 Q) us s1) : Ready h₀ p (PE h₀ β s Q) us s1 := by
  obtain ⟨β1, vs, H1, hw, t1, sr1, vr1⟩ := h
  obtain ⟨⟨v, H2⟩, hp, hw⟩ := oE_ex hw
  exact ⟨β1, vs, H1, v, H2, hp, vr1, sr1, fun u s' β' st sr vr => (⟨β', v, H2, hw, t1.trans st, sr, vr⟩ : PE h₀ β s Q u s')⟩

theorem and_true {es : List E} {xs : List Expr} (hA : All2 (Snd prog w h₀ P fs mg mb n C sc) es xs) : ∀ {β : List Addr} {H : Hp} {s : Shared} {k : Bool → Hp → Prop} {X : XP}, At P fs mg mb h₀ n sc env ρ β H s A X E' → wAnd C es ρ H k X →
    wpAny (model prog w) A (allTrue .And xs env) (PB h₀ β s k) E' s := by
  induction hA with
  | nil => intro β H s k X a hw; exact wpAny_allTrue_And_nil ⟨β, H, hw, Step.refl β s, a.sr⟩
  | cons h _ ih =>
    intro β H s k X a hw
    refine wpAny_allTrue_And_cons (wpAny_mono (h.2 env ρ β H s A _ X E' a hw) (fun b s1 h1 => ?_) fun _ _ e => e)
    obtain ⟨β1, H1, hb, t1, sr1⟩ := h1
    cases b with
    | true => exact wpAny_mono (ih (a.step t1 sr1) (hb.1 rfl)) (fun _ _ q => q.after t1) fun _ _ e => e
    | false => exact ⟨β1, H1, hb.2 rfl, t1, sr1⟩

theorem or_true {es : List E} {xs : List Expr} (hA : All2 (Snd prog w h₀ P fs mg mb n C sc) es xs) : ∀ {β : List Addr} {H : Hp} {s : Shared} {k : Bool → Hp → Prop} {X : XP}, At P fs mg mb h₀ n sc env ρ β H s A X E' → wOr C es ρ H k X →
    wpAny (model prog w) A (allTrue .Or xs env) (PB h₀ β s k) E' s := by
  induction hA with
  | nil => intro β H s k X a hw; exact wpAny_allTrue_Or_nil ⟨β, H, hw, Step.refl β s, a.sr⟩
  | cons h _ ih =>
    intro β H s k X a hw
    refine wpAny_allTrue_Or_cons (wpAny_mono (h.2 env ρ β H s A _ X E' a hw) (fun b s1 h1 => ?_) fun _ _ e => e)
    obtain ⟨β1, H1, hb, t1, sr1⟩ := h1
    cases b with
    | true => exact ⟨β1, H1, hb.1 rfl, t1, sr1⟩
    | false => exact wpAny_mono (ih (a.step t1 sr1) (hb.2 rfl)) (fun _ _ q => q.after t1) fun _ _ e => e

theorem boolOp_one {M : Model} {pos : Pos} {op : BoolOp} {x : Sem Value} {Q : Value → Shared → Prop} {s : Shared} (h : wpAny M A x Q E' s) : wpAny M A (boolOp pos op [x]) Q E' s := h
theorem boolOp_cons {M : Model} {pos : Pos} {op : BoolOp} {x y : Sem Value} {rest : List (Sem Value)} {Q : Value → Shared → Prop} {s : Shared}
    (h : wpAny M A x (fun v s1 => wpAny M A (truthy v) (fun t s2 => match op, t with | .And, false | .Or, true => Q v s2 | _, _ => wpAny M A (boolOp pos op (y :: rest)) Q E' s2) E' s1) E' s) :
    wpAny M A (boolOp pos op (x :: y :: rest)) Q E' s := by
  unfold boolOp
  refine wpAny_bind (wpAny_mono h (fun v s1 h1 => wpAny_bind (wpAny_standAt (wpAny_bind (wpAny_holding (wpAny_mono h1 (fun t s2 h2 => ?_) fun _ _ e => e))))) fun _ _ e => e)
  cases op <;> cases t <;> first | exact wpAny_pure h2 | exact h2

theorem bool_of {v : V} {β : List Addr} {u : Value} {k : Bool → Prop} (h : wB v k) (vr : VR β v u) : ∃ b, v = .bool b ∧ u = .bool b ∧ k b := by
  cases vr with
  | bool b => exact ⟨b, rfl, rfl, h⟩
  | _ => exact h.elim

theorem and_val {es : List E} {xs : List Expr} (hA : All2 (Snd prog w h₀ P fs mg mb n C sc) es xs) : ∀ {β : List Addr} {H : Hp} {s : Shared} {Q : Post} {X : XP} {pos : Pos}, xs ≠ [] → At P fs mg mb h₀ n sc env ρ β H s A X E' →
    wAnd C es ρ H (fun b H1 => Q (.bool b) H1) X → wpAny (model prog w) A (boolOp pos .And (evalEach xs env)) (PE h₀ β s Q) E' s := by
  induction hA with
  | nil => intro β H s Q X pos hne; exact absurd rfl hne
  | @cons e x es xs h t ih =>
    intro β H s Q X pos _ a hw
    cases t with
    | nil =>
      show wpAny _ _ (boolOp pos .And [eval x env]) _ _ _
      refine boolOp_one (wpAny_mono (h.1 env ρ β H s A _ X E' a hw) (fun u s1 h1 => ?_) fun _ _ e => e)
      obtain ⟨β1, v, H1, hb, t1, sr1, vr1⟩ := h1
      obtain ⟨b, rfl, rfl, hk⟩ := bool_of hb vr1
      cases b with
      | true => exact ⟨β1, _, H1, hk.1 rfl, t1, sr1, .bool _⟩
      | false => exact ⟨β1, _, H1, hk.2 rfl, t1, sr1, .bool _⟩
    | @cons e' x' es' xs' h' t' =>
      show wpAny _ _ (boolOp pos .And (eval x env :: eval x' env :: evalEach xs' env)) _ _ _
      refine boolOp_cons (wpAny_mono (h.1 env ρ β H s A _ X E' a hw) (fun u s1 h1 => ?_) fun _ _ e => e)
      obtain ⟨β1, v, H1, hb, t1, sr1, vr1⟩ := h1
      obtain ⟨b, rfl, rfl, hk⟩ := bool_of hb vr1
      refine wpAny_truthy_bool ?_
      cases b with
      | true => exact wpAny_mono (ih (by simp) (a.step t1 sr1) (hk.1 rfl)) (fun _ _ q => q.after t1) fun _ _ e => e
      | false => exact ⟨β1, _, H1, hk.2 rfl, t1, sr1, .bool _⟩

theorem or_val {es : List E} {xs : List Expr} (hA : All2 (Snd prog w h₀ P fs mg mb n C sc) es xs) : ∀ {β : List Addr} {H : Hp} {s : Shared} {Q : Post} {X : XP} {pos : Pos}, xs ≠ [] → At P fs mg mb h₀ n sc env ρ β H s A X E' →
    wOr C es ρ H (fun b H1 => Q (.bool b) H1) X → wpAny (model prog w) A (boolOp pos .Or (evalEach xs env)) (PE h₀ β s Q) E' s := by
  induction hA with
  | nil => intro β H s Q X pos hne; exact absurd rfl hne
  | @cons e x es xs h t ih =>
    intro β H s Q X pos _ a hw
    cases t with
    | nil =>
      show wpAny _ _ (boolOp pos .Or [eval x env]) _ _ _
      refine boolOp_one (wpAny_mono (h.1 env ρ β H s A _ X E' a hw) (fun u s1 h1 => ?_) fun _ _ e => e)
      obtain ⟨β1, v, H1, hb, t1, sr1, vr1⟩ := h1
      obtain ⟨b, rfl, rfl, hk⟩ := bool_of hb vr1
      cases b with
      | true => exact ⟨β1, _, H1, hk.1 rfl, t1, sr1, .bool _⟩
      | false => exact ⟨β1, _, H1, hk.2 rfl, t1, sr1, .bool _⟩
    | @cons e' x' es' xs' h' t' =>
      show wpAny _ _ (boolOp pos .Or (eval x env :: eval x' env :: evalEach xs' env)) _ _ _
      refine boolOp_cons (wpAny_mono (h.1 env ρ β H s A _ X E' a hw) (fun u s1 h1 => ?_) fun _ _ e => e)
      obtain ⟨β1, v, H1, hb, t1, sr1, vr1⟩ := h1
      obtain ⟨b, rfl, rfl, hk⟩ := bool_of hb vr1
      refine wpAny_truthy_bool ?_
      cases b with
      | true => exact ⟨β1, _, H1, hk.1 rfl, t1, sr1, .bool _⟩
      | false => exact wpAny_mono (ih (by simp) (a.step t1 sr1) (hk.2 rfl)) (fun _ _ q => q.after t1) fun _ _ e => e

theorem ifs_of {es : List E} {xs : List Expr} (hA : All2 (Snd prog w h₀ P fs mg mb n C sc) es xs) (hl : xs.length ≤ 1) : SoundIfs prog w h₀ P fs mg mb n C es xs sc := by
  intro env ρ β H s A k X E' a hw
  cases hA with
  | nil => exact wpAny_tests_nil ⟨β, H, hw, Step.refl β s, a.sr⟩
  | cons h t =>
    cases t with
    | nil =>
      refine wpAny_tests_one (wpAny_mono (h.2 env ρ β H s A _ X E' a hw) (fun b s1 h1 => ?_) fun _ _ e => e)
      obtain ⟨β1, H1, hb, t1, sr1⟩ := h1
      cases b with
      | true => exact ⟨β1, H1, hb.1 rfl, t1, sr1⟩
      | false => exact ⟨β1, H1, hb.2 rfl, t1, sr1⟩
    | cons _ _ => simp at hl

theorem seqOf_len {β : List Addr} {H : Hp} {s : Shared} {a : Nat} {r : Addr} {xs : List V} (sr : SR h₀ β H s.heap) (ha : seqOf H a = some xs) (hr : β[a]? = some r) : xs.length ≤ lim := let ⟨_, _, _, h⟩ := sr.isSeq ha hr; h

theorem rangeOf_len {vs : List V} {is : List Int} (h : rangeOf vs = some is) : is.length ≤ lim := by
  have key : ∀ a b c : Int, 0 ≤ a → b.natAbs ≤ lim → 0 < c → (rangeI a b c).length ≤ lim := by
    intro a b c ha hb hc
    rw [rangeI_length]
    split
    · have h2 : (b - a - 1) / c ≤ b - a - 1 := Int.ediv_le_self _ (by omega)
      omega
    · simp
  unfold rangeOf at h
  split at h
  · split at h
    · rename_i hb; cases h; exact key _ _ _ (by omega) hb (by omega)
    · cases h
  · split at h
    · rename_i hb; cases h; exact key _ _ _ hb.1 hb.2.2 (by omega)
    · cases h
  · split at h
    · rename_i hb; cases h; exact key _ _ _ hb.1 hb.2.2.1 hb.2.2.2.1
    · cases h
  · cases h

theorem isTrue_op {p : Prim} {x : Expr} {xs : List Expr} (ho : OpA sc p x xs) (hp : ∀ o, p ≠ .cmp o) : ∀ env, isTrue x env (eval x env) = (do let v ← eval x env; standAt x.pos; holding [v] (truthy v)) := (op_facts ho).2.2 hp

theorem range_folded {g : Expr} {xs : List Expr} {pos : Pos} : ∀ v, foldedSetIterable (.Call g xs [] pos) env v = pure v := fun _ => rfl

/-- the source of a comprehension or a loop: range( .. ) -/
theorem src_range {args : List E} {xs : List Expr} {p pos : Pos} {β : List Addr} {H : Hp} {s : Shared} {W : (Hp → Prop) → List V → Hp → Prop} {X : XP} (hA : All2 (Snd prog w h₀ P fs mg mb n C sc) args xs) (hp : xs.all plainE = true) (hgl : isGlb sc (Str.ofString "range") = true)
    (a : At P fs mg mb h₀ n sc env ρ β H s A X E') (hw : wEs C args ρ H (fun vs H1 => oE (rangeOf vs) fun is => W (fun _ => True) (is.map .int) H1) X) :
    wpAny (model prog w) A (eval (.Call (.Name (Str.ofString "range") p) xs [] pos) env) (fun xv s₁ => wpAny (model prog w) A (pyIter xv) (SrcReady prog w A h₀ β s W) E' s₁) E' s := by
  refine (a.frm.keeps a.sr.kept).callT hgl rfl hp (wpList_mono (list_of hA a hw) fun us s1 h1 => ?_)
  obtain ⟨β1, vs, H1, hr, t1, sr1, vr1⟩ := h1
  obtain ⟨is, hr', hr⟩ := oE_ex hr
  refine wpAny_mono (iter_range (h₀ := h₀) a.amb.handled vr1 hr') (fun x s2 h2 => wpAny_mono h2 (fun it s3 h3 => ?_) fun _ _ e => e) fun _ _ e => e
  exact ⟨β1, H1, s1, _, _, h3, t1, sr1, by rw [List.length_map]; exact rangeOf_len hr', hr⟩

/-- .. or a sequence -/
theorem src_seq {src : E} {x : Expr} {β : List Addr} {H : Hp} {s : Shared} {W : (Hp → Prop) → List V → Hp → Prop} {X : XP} (hE : Snd prog w h₀ P fs mg mb n C sc src x) (a : At P fs mg mb h₀ n sc env ρ β H s A X E')
    (hw : wE C src ρ H (fun vs H1 => oE (oSeq vs H1) fun p => W (fun H' => H'[p.1]? = H1[p.1]?) p.2 H1) X) :
    wpAny (model prog w) A (eval x env) (fun xv s₁ => wpAny (model prog w) A (pyIter xv) (SrcReady prog w A h₀ β s W) E' s₁) E' s := by
  refine wpAny_mono (hE.1 env ρ β H s A _ X E' a hw) (fun u s1 h1 => ?_) fun _ _ e => e
  obtain ⟨β1, v, H1, hr, t1, sr1, vr1⟩ := h1
  cases vr1 with
  | @ref b r hb =>
    obtain ⟨_, ho, hr⟩ := oE_ex hr
    obtain ⟨items, hs, rfl⟩ := Option.map_eq_some_iff.mp ho
    refine wpAny_mono (iter_seq (h₀ := h₀) a.amb.handled sr1 hb hs) (fun it s3 h3 => ?_) fun _ _ e => e
    exact ⟨β1, H1, s1, _, _, h3, t1, sr1, seqOf_len sr1 hs hb, hr⟩
  | _ => exact hr.elim

theorem folded_of {e : E} {x : Expr} (h : ME fs sc e x) : ∀ v, foldedSetIterable x env v = pure v := h.facts.2 env

end
end Mine

namespace Mine
open PySem

section
variable {prog : Program} {w : World} {h₀ : Heap} {P : Prog} {fs : Tab} {mg mb : Str → Option Value} {n : Nat} {C : Ctx}

theorem call_sound {sc : Scope} {f : String} {args : List E} {xs : List Expr} {p pos : Pos} (hC : CallOK prog w h₀ fs mg n C.call) (hf : f ∈ fs.fns) (hg : isGlb sc (Str.ofString f) = true) (hp : xs.all plainE = true) (hA : All2 (Snd prog w h₀ P fs mg mb n C sc) args xs) :
    Snd prog w h₀ P fs mg mb n C sc (.call f args) (.Call (.Name (Str.ofString f) p) xs [] pos) := by
  have hE : SoundE prog w h₀ P fs mg mb n C (.call f args) (.Call (.Name (Str.ofString f) p) xs [] pos) sc := by
    intro env ρ β H s A Q X E' a hw
    dsimp only [e_none, e_bool, e_int, e_str, e_var, e_glob, e_op, e_mcall, e_and, e_or, e_not, e_ife, e_chain, e_call, e_compR, e_compS] at hw
    obtain ⟨r, ob, fd, hr, ho, hd⟩ := a.names.fn f hf
    obtain ⟨hk, hdb⟩ := isGlb_kind hg a.sc
    refine wpAny_Call_Name_kw (name_global a.er.kind a.er.glob (a.names.keeps a.sr.kept).g hk hdb hr ?_)
    refine Calls.callWith_function (o := ob) (fd := fd) (wpList_args hp (wpList_mono (list_of hA a hw) fun us s1 h1 => ?_))
    obtain ⟨β1, vs, H1, hcall, t1, sr1, vr1⟩ := h1
    refine ⟨⟨sr1.kept _ _ ho, hd⟩, ?_⟩
    rw [List.nil_append]
    have a1 := a.step t1 sr1
    exact wpAny_mono (hC.1 f hf r hr vs H1 Q X hcall A β1 s1 E' us a.amb.c sr1 vr1 a1.frs fun c β' H' s' e hx t sr ex => a1.exc c β' H' s' e hx (t.toF a1.er.disj) sr ex) (fun _ _ q => q.after t1) fun _ _ e => e
  exact ⟨hE, hE.toT fun _ => rfl⟩

theorem newX_sound {sc : Scope} {c : String} {args : List E} {x : Expr} {xs : List Expr} {p pos : Pos} (hC : CallOK prog w h₀ fs mg n C.call) (hc : c ∈ fs.cls) (hg : isGlb sc (Str.ofString c) = true) (hp : (x :: xs).all plainE = true) (hA : All2 (Snd prog w h₀ P fs mg mb n C sc) args (x :: xs)) :
    Snd prog w h₀ P fs mg mb n C sc (.newX c args) (.Call (.Name (Str.ofString c) p) (x :: xs) [] pos) := by
  have hE : SoundE prog w h₀ P fs mg mb n C (.newX c args) (.Call (.Name (Str.ofString c) p) (x :: xs) [] pos) sc := by
    intro env ρ β H s A Q X E' a hw
    rw [e_newX] at hw
    have hI := a.names.init c hc
    obtain ⟨r, C', N, mN, o, hC', X', hi, ho, hfc⟩ := hI
    obtain ⟨hk, hdb⟩ := isGlb_kind hg a.sc
    have hp' := hp
    rw [List.all_cons, Bool.and_eq_true] at hp'
    refine wpAny_Call_Name_kw (name_global a.er.kind a.er.glob (a.names.keeps a.sr.kept).g hk hdb hC' ?_)
    refine PyProof.Rows.callWith_cls (h₀ := h₀) X' (wpList_spliced hp (wpList_mono (list_of hA a hw) fun us s1 h1 => ?_)) (starEach_plain hp'.1) (backTo_any hp'.2)
    obtain ⟨β1, vs, H1, hcall, t1, sr1, vr1⟩ := h1
    refine ⟨sr1.kept, ?_⟩
    have a1 := a.step t1 sr1
    obtain ⟨hh, g, d, t, os⟩ := s1
    obtain ⟨nm, q, bs, sn, sub, col, dd, k0, k1, k2, k3, k5, hCo⟩ := (X'.keeps sr1.kept).obj
    refine wpAny_call_obj_init PySem.F.objNew hCo (X'.keeps sr1.kept).ns hi (sr1.kept _ _ ho) hfc fun h' y dx Mk => ?_
    have a2 := a1.step (s' := ⟨h', g, d, t, os⟩) (Step.of_heap (s := ⟨hh, g, d, t, os⟩) (h := h') (tk := t) Mk.keeps) (sr1.keeps Mk.keeps)
    refine wpAny_mono (hC.2.1 c hc r ⟨C', N, mN, o, hC', X', hi, ho, hfc⟩ y vs H1 _ X hcall (A.under (.builtin "type.__call__" ⟨.ref C' :: us, []⟩)) β1 ⟨h', g, d, t, os⟩ E' us ⟨a.amb.handled, ?_, ?_⟩ a2.sr vr1 a2.frs fun c β' H' s' e hx t sr ex => a2.exc c β' H' s' e hx (t.toF a2.er.disj) sr ex) (fun _ _ q => ?_) fun _ _ e => e
    · have := a.amb.depth; show A.depth + 1 + 2 * n < 900; omega
    · have := a.amb.units
      have hu : (Code.builtin "type.__call__" ⟨.ref C' :: us, []⟩).cUnits ≤ 10 := by first | decide | (show 1 ≤ 10; decide) | (show 2 ≤ 10; decide) | (show 3 ≤ 10; decide) | (show 4 ≤ 10; decide)
      show A.units + _ + 20 * n < 9000; omega
    · obtain ⟨_, _, _, hf, _⟩ := q; exact hf.elim
  exact ⟨hE, hE.toT fun _ => rfl⟩

theorem oInst_some {v : V} {H : Hp} {p : Nat × String} (h : oInst v H = some p) : v = .ref p.1 ∧ ∃ d fs, H[p.1]? = some (.inst p.2 d) ∧ H[d]? = some (.fdict fs) := by
  cases v with
  | ref a =>
    obtain ⟨o, h1, h2⟩ := Option.bind_eq_some_iff.mp h
    cases o with
    | inst c d =>
      obtain ⟨o', h3, h4⟩ := Option.bind_eq_some_iff.mp h2
      cases o' with
      | fdict fs => cases h4; exact ⟨rfl, d, fs, h1, h3⟩
      | _ => exact no_ns h4
    | _ => exact no_ns h2
  | _ => exact no_ns h

theorem call_own {env : PySem.Env} {A : Around} {s : Shared} {E : Value → Shared → Prop} {o : Expr} {name : Str} {apos pos : Pos} {args : List Expr} {Q : Value → Shared → Prop}
    (hbase : attributeBase o name env (eval o env) = eval o env)
    (hfew : ((backTo pos (starEach args env)).all (fun x => !x.1) && (backToKw pos (keywordEach [] env)).all (fun x => x.1.isSome)
      && decide (args.length + ([] : List Keyword).length + (if ([] : List Keyword).isEmpty then 0 else 1) < 30)) = true)
    (hline : (apos.endLine == pos.line) = true)
    (h : wpAny (model prog w) A (eval o env) (fun ov s₁ => ∃ f x, ov = .ref x ∧ (∀ {pl : Sem Bool} {Q : Value × List Value → Shared → Prop} {E : Value → Shared → Prop}, Q (.ref f, [.ref x]) s₁ → wpAny (model prog w) A (getMethod (.ref x) name pl) Q E s₁) ∧
      wpAny (model prog w) A (callWith pos (.ref f) [.ref x] (backTo pos (starEach args env)) []) Q E s₁) E s) :
    wpAny (model prog w) A (eval (.Call (.Attribute o name apos) args [] pos) env) Q E s := by
  rw [arm_eval_Call, hbase]
  refine wpAny_bind (wpAny_mono h (fun ov s₁ h₁ => ?_) fun _ _ e => e)
  obtain ⟨f, x, rfl, hm, hc⟩ := h₁
  refine wpAny_bind (wpAny_standAt ?_)
  have hform : methodCallForm (args.length + ([] : List Keyword).length) (backTo pos (starEach args env)) (backToKw pos (keywordEach [] env)) = true := hfew
  have hpos : methodCallPos true o env apos pos = pure pos := by unfold methodCallPos; simp [hline]
  unfold methodCall
  rw [hform]
  refine wpAny_bind (wpAny_holding (hm ?_))
  exact wpAny_bind (wpAny_of_eq hpos hc)

theorem few {env : PySem.Env} {pos : Pos} : ∀ {xs : List Expr}, xs.all plainE = true → (backTo pos (starEach xs env)).all (fun x => !x.1) = true
  | [], _ => rfl
  | x :: xs, h => by
    rw [List.all_cons, Bool.and_eq_true] at h
    rw [starEach_plain h.1]
    show (!false && (backTo pos (starEach xs env)).all (fun x => !x.1)) = true
    rw [few h.2]; rfl

theorem meth_own {sc : Scope} {m : String} {o : E} {o' : Expr} {args : List E} {xs : List Expr} {apos pos : Pos} (hC : CallOK prog w h₀ fs mg n C.call) (hm : m ∈ methNames) (hmm : ("Inn", m) ∈ fs.meths) (hl : (apos.endLine == pos.line) = true) (hb : plainBase o' = true) (hlen : xs.length < 29) (hp : xs.all plainE = true)
    (hO : Snd prog w h₀ P fs mg mb n C sc o o') (hA : All2 (Snd prog w h₀ P fs mg mb n C sc) args xs) : Snd prog w h₀ P fs mg mb n C sc (.meth m o args) (.Call (.Attribute o' (Str.ofString m) apos) xs [] pos) := by
  have hE : SoundE prog w h₀ P fs mg mb n C (.meth m o args) (.Call (.Attribute o' (Str.ofString m) apos) xs [] pos) sc := by
    intro env ρ β H s A Q X E' a hw
    rw [e_meth] at hw
    refine call_own (plainBase_eq hb) (by rw [few hp]; show (true && true && decide (xs.length + 0 + 0 < 30)) = true; simp; omega) hl (wpAny_mono (hO.1 env ρ β H s A _ X E' a hw) (fun ov s1 h1 => ?_) fun _ _ e => e)
    obtain ⟨β1, v, H1, hq, t1, sr1, vr1⟩ := h1
    obtain ⟨p, hpp, hq2⟩ := oE_ex hq
    obtain ⟨rfl, d, fs', e1, e2⟩ := oInst_some hpp
    obtain ⟨x, rfl, hr⟩ := vr1.ref_inv
    obtain ⟨ec, f, ob, fd, hM, ho, hd, getM⟩ := p_method (prog := prog) (w := w) (A := A) a.names.inn a.names.g hm e1 e2 hr sr1
    refine ⟨f, x, rfl, getM, ?_⟩
    have a1 := a.step t1 sr1
    refine Calls.callWith_function (o := ob) (fd := fd) (wpList_args hp (wpList_mono (list_of hA a1 hq2) fun us s2 h2 => ?_))
    obtain ⟨β2, vs, H2, hcall, t2, sr2, vr2⟩ := h2
    refine ⟨⟨sr2.kept _ _ ho, hd⟩, ?_⟩
    have a2 := a1.step t2 sr2
    rw [ec] at hcall
    exact wpAny_mono (hC.2.2 ("Inn", m) hmm f hM (.ref p.1 :: vs) H2 Q X hcall A β2 s2 E' (.ref x :: us) a.amb.c sr2 (.cons (.ref (pre_at t2.grow hr)) vr2) a2.frs fun c β' H' s' e hx t sr ex => a2.exc c β' H' s' e hx (t.toF a2.er.disj) sr ex) (fun _ _ q => q.after (t1.trans t2)) fun _ _ e => e
  exact ⟨hE, hE.toT fun _ => rfl⟩

/-- an object that stands in the heap is taken in -/
theorem SR.adoptS {h : Heap} {β : List Addr} {H : Hp} (x : SR h₀ β H h) {r : Addr} {o : O} (hr : r ∉ β) (ho : Slot1 h₀ h (β ++ [r]) o r) : SR h₀ (β ++ [r]) (H ++ [o]) h := by
  have hp : β <+: β ++ [r] := List.prefix_append _ _
  refine ⟨x.kept, ?_, (x.objs.mono fun _ _ => Slot1.grow hp).append (.cons ho .nil)⟩
  rw [List.nodup_append]
  refine ⟨x.nodup, by simp, fun a ha b hb => ?_⟩
  simp at hb; subst hb; rintro rfl; exact hr ha

theorem new_sound {sc : Scope} {args : List E} {x : Expr} {xs : List Expr} {p pos : Pos} (hC : CallOK prog w h₀ fs mg n C.call) (hm : ("Inn", "__init__") ∈ fs.meths) (hg : isGlb sc (Str.ofString "Inn") = true) (hp : (x :: xs).all plainE = true) (hA : All2 (Snd prog w h₀ P fs mg mb n C sc) args (x :: xs)) :
    Snd prog w h₀ P fs mg mb n C sc (.new "Inn" args) (.Call (.Name (Str.ofString "Inn") p) (x :: xs) [] pos) := by
  have hE : SoundE prog w h₀ P fs mg mb n C (.new "Inn" args) (.Call (.Name (Str.ofString "Inn") p) (x :: xs) [] pos) sc := by
    intro env ρ β H s A Q X E' a hw
    rw [e_new] at hw
    obtain ⟨C', N, mN, hC', X', i3, i4, i5⟩ := a.names.inn
    obtain ⟨r, o, fd, hi, ho, hfc, hfd⟩ := i5 "__init__" (.head _)
    obtain ⟨hk, hdb⟩ := isGlb_kind hg a.sc
    have hp' := hp
    rw [List.all_cons, Bool.and_eq_true] at hp'
    refine wpAny_Call_Name_kw (name_global a.er.kind a.er.glob (a.names.keeps a.sr.kept).g hk hdb hC' ?_)
    refine PyProof.Rows.callWith_cls (h₀ := h₀) X' (wpList_spliced hp (wpList_mono (list_of hA a hw) fun us s1 h1 => ?_)) (starEach_plain hp'.1) (backTo_any hp'.2)
    obtain ⟨β1, vs, H1, hcall, t1, sr1, vr1⟩ := h1
    refine ⟨sr1.kept, ?_⟩
    have a1 := a.step t1 sr1
    obtain ⟨hh, g, d, t, os⟩ := s1
    obtain ⟨nm, q, bs, sn, sub, col, dd, k0, k1, k2, k3, k5, hCo⟩ := (X'.keeps sr1.kept).obj
    refine wpAny_call_obj_init PySem.F.objNew hCo (X'.keeps sr1.kept).ns hi (sr1.kept _ _ ho) hfc fun h' y dx Mk => ?_
    obtain ⟨oy, hy, hcy, hny, hdy⟩ := Mk.inst
    have hdd := Mk.dict oy hy
    have hnsd : dx ≠ y ∧ h'.Ns1 dx fun _ => none := by
      rcases hdy with ⟨hn0, _⟩ | ⟨d', hd', hne, hns'⟩
      · rw [hn0] at hdd; cases hdd
      · cases hd'.symm.trans hdd; exact ⟨hne, hns'⟩
    have new0 : ∀ {b : Addr}, hh.get? b = none → h₀.get? b = none := fun {b} hb => by
      cases e : h₀.get? b with
      | none => rfl
      | some o => exact clash (sr1.kept _ _ e) hb
    have notin : ∀ {b : Addr}, hh.get? b = none → b ∉ β1 := fun {b} hb hm => by obtain ⟨o, e⟩ := sr1.mem hm; exact clash e hb
    have len1 : H1.length = β1.length := sr1.len
    have srA : SR h₀ (β1 ++ [dx]) (H1 ++ [.fdict []]) h' := (sr1.keeps Mk.keeps).adoptS (notin Mk.newD) (.fdict (new0 Mk.newD) hnsd.2 ⟨(fun n v hl => by cases hl), fun y hy => absurd rfl hy⟩)
    have srB : SR h₀ (β1 ++ [dx] ++ [y]) (H1 ++ [.fdict []] ++ [.inst "Inn" H1.length]) h' := srA.adoptS (fun hm => by
      rcases List.mem_append.mp hm with q | q
      · exact notin Mk.newX q
      · exact hnsd.1 (List.mem_singleton.mp q).symm) (.inst (new0 Mk.newX) (by rw [len1]; simp) hnsd.1 hy hcy a.names.g hC' hdd hny)
    have gr : β1 <+: β1 ++ [dx] ++ [y] := (List.prefix_append _ _).trans (List.prefix_append _ _)
    have st : Step β1 ⟨hh, g, d, t, os⟩ (β1 ++ [dx] ++ [y]) ⟨h', g, d, t, os⟩ := ⟨⟨h', t, rfl⟩, gr, fun b _ => .of fun o e => Mk.keeps b o e, fun b hb => by
      rcases List.mem_append.mp hb with q | q
      · rcases List.mem_append.mp q with q | q
        · exact .inl q
        · rw [List.mem_singleton.mp q]; exact .inr Mk.newD
      · rw [List.mem_singleton.mp q]; exact .inr Mk.newX⟩
    have a2 := a1.step st srB
    have hself : (β1 ++ [dx] ++ [y])[H1.length + 1]? = some y := by rw [len1]; simp
    have hcall' : C.call ("Inn" ++ "." ++ "__init__") (.ref (H1.length + 1) :: vs) (H1 ++ [.fdict []] ++ [.inst "Inn" H1.length]) (fun r H2 => r = .none ∧ Q (.ref (H1.length + 1)) H2) X := by
      rw [List.append_assoc]; exact hcall
    refine wpAny_mono (hC.2.2 ("Inn", "__init__") hm r ⟨C', N, mN, o, hC', X', hi, ho, hfc⟩ _ _ _ X hcall' (A.under (.builtin "type.__call__" ⟨.ref C' :: us, []⟩)) (β1 ++ [dx] ++ [y]) ⟨h', g, d, t, os⟩ E' (.ref y :: us) ⟨a.amb.handled, ?_, ?_⟩ srB (.cons (.ref hself) (VRs.mono gr vr1)) a2.frs fun c β' H' s' e hx t sr ex => a2.exc c β' H' s' e hx (t.toF a2.er.disj) sr ex) (fun u s4 q => ?_) fun _ _ e => e
    · have := a.amb.depth; show A.depth + 1 + 2 * n < 900; omega
    · have := a.amb.units
      have hu : (Code.builtin "type.__call__" ⟨.ref C' :: us, []⟩).cUnits ≤ 10 := by first | decide | (show 1 ≤ 10; decide) | (show 2 ≤ 10; decide) | (show 3 ≤ 10; decide) | (show 4 ≤ 10; decide)
      show A.units + _ + 20 * n < 9000; omega
    · obtain ⟨β4, v4, H4, ⟨rfl, hq4⟩, t4, sr4, vr4⟩ := q
      cases vr4
      exact ⟨rfl, β4, .ref (H1.length + 1), H4, hq4, t1.trans (st.trans t4), sr4, .ref (pre_at t4.grow hself)⟩
  exact ⟨hE, hE.toT fun _ => rfl⟩

theorem op_snd {sc : Scope} {p : Prim} {args : List E} {x : Expr} {xs : List Expr} (ho : OpA sc p x xs) (hp : xs.all plainE = true) (hA : All2 (Snd prog w h₀ P fs mg mb n C sc) args xs) : Snd prog w h₀ P fs mg mb n C sc (.op p args) x := by
  have hE : SoundE prog w h₀ P fs mg mb n C (.op p args) x sc := by
    intro env ρ β H s A Q X E' a hw
    dsimp only [e_none, e_bool, e_int, e_str, e_var, e_glob, e_op, e_mcall, e_and, e_or, e_not, e_ife, e_chain, e_call, e_compR, e_compS] at hw
    exact op_sound ho hp a.frm a.sr.kept a.amb (wpList_mono (list_of hA a hw) fun us s1 h1 => ready_of h1)
  refine ⟨hE, ?_⟩
  by_cases hc : ∃ o, p = .cmp o
  · obtain ⟨o, rfl⟩ := hc
    intro env ρ β H s A k X E' a hw
    dsimp only [e_none, e_bool, e_int, e_str, e_var, e_glob, e_op, e_mcall, e_and, e_or, e_not, e_ife, e_chain, e_call, e_compR, e_compS] at hw
    cases ho with
    | cmp _ hm =>
      refine wpAny_isTrue_Compare1 (wpAny_mono (list_of hA a hw) (fun a' s1 h1 => wpAny_mono h1 (fun b' s2 h2 => ?_) fun _ _ e => e) fun _ _ e => e) hm
      obtain ⟨β1, vs, H1, v, H2, hpr, vr, sr, kk⟩ := ready_of h2
      obtain ⟨v1, v2, rfl, va, vb⟩ := vrs2 vr
      obtain ⟨rr, hr, e⟩ := Option.map_eq_some_iff.mp hpr
      cases e
      refine cmp_sound hr va vb a.amb.room (fun u s' β' st sr' vr' => ?_) sr
      obtain ⟨β3, v3, H3, hb3, t3, sr3, vr3⟩ := kk u s' β' st sr' vr'
      exact truthy_of hb3 t3 sr3 vr3
  · exact hE.toT (isTrue_op ho fun o e => hc ⟨o, e⟩)

theorem sound (hC : CallOK prog w h₀ fs mg n C.call) (hG : C.glob = P.glob) (e : E) (x : Expr) (sc : Scope) (h : ME fs sc e x) : Snd prog w h₀ P fs mg mb n C sc e x := by
  refine ME.rec (motive_1 := fun sc e x _ => Snd prog w h₀ P fs mg mb n C sc e x) (motive_2 := fun sc es xs _ => All2 (Snd prog w h₀ P fs mg mb n C sc) es xs) ?_ ?_ ?_ ?_ ?_ ?_ ?_ ?_ ?_ ?_ ?_ ?_ ?_ ?_ ?_ ?_ ?_ ?_ ?_ ?_ ?_ ?_ h
  · intro sc kk pos
    have hE : SoundE prog w h₀ P fs mg mb n C .none (.Constant .none kk pos) sc := fun env ρ β H s A Q X E' a hw => wpAny_Constant_none (PE.now hw a.sr .none)
    exact ⟨hE, hE.toT fun _ => rfl⟩
  · intro sc b kk pos
    have hE : SoundE prog w h₀ P fs mg mb n C (.bool b) (.Constant (.bool b) kk pos) sc := fun env ρ β H s A Q X E' a hw => wpAny_Constant_bool (PE.now hw a.sr (.bool _))
    exact ⟨hE, hE.toT fun _ => rfl⟩
  · intro sc i kk pos
    have hE : SoundE prog w h₀ P fs mg mb n C (.int i) (.Constant (.int i) kk pos) sc := fun env ρ β H s A Q X E' a hw => wpAny_Constant_int (PE.tok hw a.sr (.int _ _))
    exact ⟨hE, hE.toT fun _ => rfl⟩
  · intro sc y kk pos
    have hE : SoundE prog w h₀ P fs mg mb n C (.str y) (.Constant (.str (Str.ofString y)) kk pos) sc := fun env ρ β H s A Q X E' a hw => wpAny_Constant_str (PE.tok hw a.sr (.str _ _))
    exact ⟨hE, hE.toT fun _ => rfl⟩
  · intro sc y pos h
    have hE : SoundE prog w h₀ P fs mg mb n C (.var y) (.Name (Str.ofString y) pos) sc := by
      intro env ρ β H s A Q X E' a hw
      dsimp only [e_none, e_bool, e_int, e_str, e_var, e_glob, e_op, e_mcall, e_and, e_or, e_not, e_ife, e_chain, e_call, e_compR, e_compS] at hw
      obtain ⟨v, hv, hw⟩ := oE_ex hw
      exact sound_var a h hv fun u hu => PE.now hw a.sr hu
    exact ⟨hE, hE.toT fun _ => rfl⟩
  · intro sc y pos hg
    have hE : SoundE prog w h₀ P fs mg mb n C (.glob y) (.Name (Str.ofString y) pos) sc := by
      intro env ρ β H s A Q X E' a hw
      dsimp only [e_none, e_bool, e_int, e_str, e_var, e_glob, e_op, e_mcall, e_and, e_or, e_not, e_ife, e_chain, e_call, e_compR, e_compS] at hw
      obtain ⟨v, hv, hw⟩ := oE_ex hw
      rw [hG] at hv
      obtain ⟨u, hu, hr⟩ := a.names.glob y v hv
      obtain ⟨hk, hd⟩ := isGlb_kind hg a.sc
      exact name_global a.er.kind a.er.glob (a.names.keeps a.sr.kept).g hk hd hu (PE.now hw a.sr hr.nil_any)
    exact ⟨hE, hE.toT fun _ => rfl⟩
  · intro sc p args x xs ho h ih
    exact op_snd ho h.plain ih
  · intro sc p m o o' x1 args apos pos hm h2 h4 h5 h6 hO hA
    have hpl := h6.plain
    have hE : SoundE prog w h₀ P fs mg mb n C (.mcall p o args) (.Call (.Attribute o' (Str.ofString m) apos) [x1] [] pos) sc := by
      intro env ρ β H s A Q X E' a hw
      dsimp only [e_none, e_bool, e_int, e_str, e_var, e_glob, e_op, e_mcall, e_and, e_or, e_not, e_ife, e_chain, e_call, e_compR, e_compS] at hw
      refine meth_sound (h₀ := h₀) hm h2 (by simpa using hpl) h4 (wpAny_mono (hO.1 env ρ β H s A _ X E' a hw) (fun ov s1 h1 => ?_) fun _ _ e => e)
      obtain ⟨β1, v, H1, ⟨hr, hw1⟩, t1, sr1, vr1⟩ := h1
      refine ⟨⟨β1, v, H1, hr, vr1, sr1⟩, wpAny_mono (list_of hA (a.step t1 sr1) hw1) (fun u s2 h2 => ?_) fun _ _ e => e⟩
      obtain ⟨β2, vs, H2, hp2, t2, sr2, vr2⟩ := h2
      exact ready_of ⟨β2, v :: vs, H2, hp2, t1.trans t2, sr2, .cons (vr1.mono t2.grow) vr2⟩
    exact ⟨hE, hE.toT fun _ => rfl⟩
  · intro sc es x xs p h hA
    refine ⟨fun env ρ β H s A Q X E' a hw => ?_, fun env ρ β H s A k X E' a hw => ?_⟩
    · dsimp only [e_none, e_bool, e_int, e_str, e_var, e_glob, e_op, e_mcall, e_and, e_or, e_not, e_ife, e_chain, e_call, e_compR, e_compS] at hw
      exact and_val hA (List.cons_ne_nil _ _) a hw
    · dsimp only [e_none, e_bool, e_int, e_str, e_var, e_glob, e_op, e_mcall, e_and, e_or, e_not, e_ife, e_chain, e_call, e_compR, e_compS] at hw
      exact wpAny_isTrue_BoolOp (and_true hA a hw)
  · intro sc es x xs p h hA
    refine ⟨fun env ρ β H s A Q X E' a hw => ?_, fun env ρ β H s A k X E' a hw => ?_⟩
    · dsimp only [e_none, e_bool, e_int, e_str, e_var, e_glob, e_op, e_mcall, e_and, e_or, e_not, e_ife, e_chain, e_call, e_compR, e_compS] at hw
      exact or_val hA (List.cons_ne_nil _ _) a hw
    · dsimp only [e_none, e_bool, e_int, e_str, e_var, e_glob, e_op, e_mcall, e_and, e_or, e_not, e_ife, e_chain, e_call, e_compR, e_compS] at hw
      exact wpAny_isTrue_BoolOp (or_true hA a hw)
  · intro sc e y p h hS
    refine ⟨fun env ρ β H s A Q X E' a hw => ?_, fun env ρ β H s A k X E' a hw => ?_⟩
    · dsimp only [e_none, e_bool, e_int, e_str, e_var, e_glob, e_op, e_mcall, e_and, e_or, e_not, e_ife, e_chain, e_call, e_compR, e_compS] at hw
      refine wpAny_UnaryOp (wpAny_mono (hS.1 env ρ β H s A _ X E' a hw) (fun u s1 h1 => ?_) fun _ _ e => e)
      obtain ⟨β1, v, H1, hb, t1, sr1, vr1⟩ := h1
      obtain ⟨b, rfl, rfl, hk⟩ := bool_of hb vr1
      exact not_value (wpAny_truthy_bool ⟨β1, _, H1, hk, t1, sr1, .bool _⟩)
    · dsimp only [e_none, e_bool, e_int, e_str, e_var, e_glob, e_op, e_mcall, e_and, e_or, e_not, e_ife, e_chain, e_call, e_compR, e_compS] at hw
      refine wpAny_isTrue_Not (wpAny_mono (hS.2 env ρ β H s A (fun b H1 => k (!b) H1) X E' a hw) (fun b s1 ⟨b1, b2, b3, b4, b5⟩ => ⟨b1, b2, b3, b4, b5⟩) fun _ _ e => e)
  · intro sc c t f y1 y2 y3 p a1 a2 a3 h1 h2 h3
    refine ⟨fun env ρ β H s A Q X E' a hw => ?_, fun env ρ β H s A k X E' a hw => ?_⟩
    · dsimp only [e_none, e_bool, e_int, e_str, e_var, e_glob, e_op, e_mcall, e_and, e_or, e_not, e_ife, e_chain, e_call, e_compR, e_compS] at hw
      refine wpAny_IfExp (wpAny_mono (h1.2 env ρ β H s A _ X E' a hw) (fun b s1 hb => ?_) fun _ _ e => e)
      obtain ⟨β1, H1, hb, t1, sr1⟩ := hb
      cases b with
      | true => exact wpAny_mono (h2.1 env ρ β1 H1 s1 A Q X E' (a.step t1 sr1) (hb.1 rfl)) (fun _ _ q => q.after t1) fun _ _ e => e
      | false => exact wpAny_mono (h3.1 env ρ β1 H1 s1 A Q X E' (a.step t1 sr1) (hb.2 rfl)) (fun _ _ q => q.after t1) fun _ _ e => e
    · dsimp only [e_none, e_bool, e_int, e_str, e_var, e_glob, e_op, e_mcall, e_and, e_or, e_not, e_ife, e_chain, e_call, e_compR, e_compS] at hw
      refine PyProof.Rows.isTrue_IfExp (wpAny_mono (h1.2 env ρ β H s A _ X E' a hw) (fun b s1 hb => ?_) fun _ _ e => e)
      obtain ⟨β1, H1, hb, t1, sr1⟩ := hb
      cases b with
      | true => exact wpAny_mono (h2.2 env ρ β1 H1 s1 A k X E' (a.step t1 sr1) (hb.1 rfl)) (fun _ _ q => q.after t1) fun _ _ e => e
      | false => exact wpAny_mono (h3.2 env ρ β1 H1 s1 A k X E' (a.step t1 sr1) (hb.2 rfl)) (fun _ _ q => q.after t1) fun _ _ e => e
  · intro sc e1 e2 e3 o1 o2 l r r' p hm hm' h1 h2 h3 s1 s2 s3
    have hlm : lastMarks [cmpOf o1, cmpOf o2] [r, r'] = false := by simpa [lastMarks] using hm'
    refine ⟨fun env ρ β H s A Q X E' a hw => ?_, fun env ρ β H s A k X E' a hw => ?_⟩
    · dsimp only [e_none, e_bool, e_int, e_str, e_var, e_glob, e_op, e_mcall, e_and, e_or, e_not, e_ife, e_chain, e_call, e_compR, e_compS] at hw
      refine PyProof.Rows.Compare_chain (wpAny_mono (s1.1 env ρ β H s A _ X E' a hw) (fun ua q1 hq1 => ?_) fun _ _ e => e) hlm
      obtain ⟨β1, va, H1, hw1, t1, sr1, vr1⟩ := hq1
      have a1 := a.step t1 sr1
      refine PyProof.Rows.chain_link (wpAny_mono (s2.1 env ρ β1 H1 q1 A _ X E' a1 hw1) (fun ub q2 hq2 => ?_) fun _ _ e => e)
      obtain ⟨β2, vb, H2, hw2, t2, sr2, vr2⟩ := hq2
      unfold wP at hw2
      rw [p_cmpP] at hw2
      cases hcv : cmpV o1 va vb H2 with
      | none => rw [hcv] at hw2; exact hw2.elim
      | some bb =>
        rw [hcv] at hw2
        refine cmp_sound hcv (vr1.mono t2.grow) vr2 a.amb.room (fun u s' β' st sr' vr' => ?_) sr2
        cases vr' with
        | bool _ =>
          refine wpAny_truthy_bool ?_
          have hk : wIf bb _ _ := hw2
          have t12 := t1.trans (t2.trans st)
          cases bb with
          | false => exact ⟨β', _, H2, hk.2 rfl, t12, sr', .bool _⟩
          | true =>
            have a3 := a.step t12 sr'
            refine PyProof.Rows.chain_last (wpAny_mono (s3.1 env ρ β' H2 s' A _ X E' a3 (hk.1 rfl)) (fun uc q3 hq3 => ?_) fun _ _ e => e)
            obtain ⟨β3, vc, H3, hw3, t3, sr3, vr3⟩ := hq3
            try unfold wP at hw3
            try rw [p_cmpP] at hw3
            cases hcv3 : cmpV o2 vb vc H3 with
            | none => rw [hcv3] at hw3; exact hw3.elim
            | some b3 =>
              rw [hcv3] at hw3
              exact cmp_sound hcv3 (vr2.mono (st.grow.trans t3.grow)) vr3 a.amb.room (fun u s'' β'' st'' sr'' vr'' => ⟨β'', _, H3, hw3, (t12.trans t3).trans st'', sr'', vr''⟩) sr3
    · dsimp only [e_none, e_bool, e_int, e_str, e_var, e_glob, e_op, e_mcall, e_and, e_or, e_not, e_ife, e_chain, e_call, e_compR, e_compS] at hw
      refine PyProof.Rows.isTrue_chain (wpAny_mono (s1.1 env ρ β H s A _ X E' a hw) (fun ua q1 hq1 => ?_) fun _ _ e => e) hlm
      obtain ⟨β1, va, H1, hw1, t1, sr1, vr1⟩ := hq1
      have a1 := a.step t1 sr1
      refine PyProof.Rows.test_link (wpAny_mono (s2.1 env ρ β1 H1 q1 A _ X E' a1 hw1) (fun ub q2 hq2 => ?_) fun _ _ e => e)
      obtain ⟨β2, vb, H2, hw2, t2, sr2, vr2⟩ := hq2
      unfold wP at hw2
      rw [p_cmpP] at hw2
      cases hcv : cmpV o1 va vb H2 with
      | none => rw [hcv] at hw2; exact hw2.elim
      | some bb =>
        rw [hcv] at hw2
        refine cmp_sound hcv (vr1.mono t2.grow) vr2 a.amb.room (fun u s' β' st sr' vr' => ?_) sr2
        cases vr' with
        | bool _ =>
          refine wpAny_truthy_bool ?_
          have hk : wIf bb _ _ := hw2
          have t12 := t1.trans (t2.trans st)
          cases bb with
          | false => exact ⟨β', H2, hk.2 rfl, t12, sr'⟩
          | true =>
            have a3 := a.step t12 sr'
            refine PyProof.Rows.test_last (wpAny_mono (s3.1 env ρ β' H2 s' A _ X E' a3 (hk.1 rfl)) (fun uc q3 hq3 => ?_) fun _ _ e => e)
            obtain ⟨β3, vc, H3, hw3, t3, sr3, vr3⟩ := hq3
            try unfold wP at hw3
            try rw [p_cmpP] at hw3
            cases hcv3 : cmpV o2 vb vc H3 with
            | none => rw [hcv3] at hw3; exact hw3.elim
            | some b3 =>
              rw [hcv3] at hw3
              exact cmp_sound hcv3 (vr2.mono (st.grow.trans t3.grow)) vr3 a.amb.room (fun u s'' β'' st'' sr'' vr'' => by
                cases vr'' with | bool _ => exact wpAny_truthy_bool ⟨β'', H3, hw3, (t12.trans t3).trans st'', sr''⟩) sr3
  · intro sc f args xs p pos hf hg h ih
    exact call_sound hC hf hg h.plain ih
  · intro sc c args x xs p pos hc hg h ih
    exact newX_sound hC hc hg h.plain ih
  · intro sc args x xs p pos hm hg h ih
    exact new_sound hC hm hg h.plain ih
  · intro sc m o o' args xs apos pos hm hmm hl hb hlen h1 h2 i1 i2
    exact meth_own hC hm hmm hl hb hlen h2.plain i1 i2
  · intro sc scope elt y args conds el xs ifs px gp rp pos h2 h4 h8 h5 h6 h7 sA sE sI0
    have sI := ifs_of sI0 h8
    have hE : SoundE prog w h₀ P fs mg mb n C (.compR elt y args conds) (.ListComp el [⟨.Name (Str.ofString y) px, .Call (.Name (Str.ofString "range") gp) xs [] rp, ifs, 0⟩] scope pos) sc := by
      intro env ρ β H s A Q X E' a hw
      dsimp only [e_none, e_bool, e_int, e_str, e_var, e_glob, e_op, e_mcall, e_and, e_or, e_not, e_ife, e_chain, e_call, e_compR, e_compS] at hw
      exact comp_value (xs := [y]) a (compOk_of h4) trivial (fun Cf => asg_one (compOk_of h4)) (fun _ H _ hb => one_only (H := H) hb) sE.1 sI range_folded (src_range (X := X) (W := fun G items H₁ => wLoop G (compStep C elt conds (fun v _ => some (Env.set ρ y v)) noX) items [] H₁ (fun acc H5 => Q (V.ref (List.length H5)) (H5 ++ [O.list acc]))) sA h5.plain h2 a hw)
    exact ⟨hE, hE.toT fun _ => rfl⟩
  · intro sc scope elt src y conds el it ifs px pos h4 h8 h5 h6 h7 sS sE sI0
    have sI := ifs_of sI0 h8
    have hE : SoundE prog w h₀ P fs mg mb n C (.compS elt (.one y) src conds) (.ListComp el [⟨.Name (Str.ofString y) px, it, ifs, 0⟩] scope pos) sc := by
      intro env ρ β H s A Q X E' a hw
      dsimp only [e_compS, t_one, oE_some] at hw
      exact comp_value (xs := [y]) a (compOk_of h4) trivial (fun Cf => asg_one (compOk_of h4)) (fun _ H _ hb => one_only (H := H) hb) sE.1 sI (folded_of h5) (src_seq (X := X) (W := fun G items H₁ => wLoop G (compStep C elt conds (fun v _ => some (Env.set ρ y v)) noX) items [] H₁ (fun acc H5 => Q (V.ref (List.length H5)) (H5 ++ [O.list acc]))) sS a hw)
    exact ⟨hE, hE.toT fun _ => rfl⟩
  · intro sc scope elt src y z conds el it ifs py pz b tp pos hyz h4 h8 h5 h6 h7 sS sE sI0
    have sI := ifs_of sI0 h8
    have hE : SoundE prog w h₀ P fs mg mb n C (.compS elt (.two y z) src conds) (.ListComp el [⟨.Tuple [.Name (Str.ofString y) py, .Name (Str.ofString z) pz] b tp, it, ifs, 0⟩] scope pos) sc := by
      intro env ρ β H s A Q X E' a hw
      rw [e_compS] at hw
      exact comp_value (xs := [y, z]) a (compOk_of h4) trivial (fun Cf => asg_two a.amb.handled hyz (compOk_of h4)) (fun _ H _ hb => two_only (H := H) hb) sE.1 sI (folded_of h5) (src_seq (X := X) (W := fun G items H₁ => wLoop G (compStep C elt conds (fun v H => bindT (.two y z) v ρ H) noX) items [] H₁ (fun acc H5 => Q (V.ref (List.length H5)) (H5 ++ [O.list acc]))) sS a hw)
    exact ⟨hE, hE.toT fun _ => rfl⟩
  · intro sc; exact .nil
  · intro sc e es x xs h1 h2 i1 i2; exact .cons i1 i2

theorem soundAll (hC : CallOK prog w h₀ fs mg n C.call) (hG : C.glob = P.glob) : ∀ (es : List E) (xs : List Expr) (sc : Scope), MEs fs sc es xs → All2 (Snd prog w h₀ P fs mg mb n C sc) es xs
  | [], xs, sc, h => by cases h; exact .nil
  | e :: es, xs, sc, h => by
    cases h with
    | cons h1 h2 => exact .cons (sound hC hG e _ sc h1) (soundAll hC hG es _ sc h2)

end
end Mine

namespace Mine
open PySem

noncomputable def isLoc (sc : Scope) (x : Str) : Bool := match sc.names.lookup x with
  | some .local | some .cell => x != (".0" : Str)
  | _ => false

noncomputable def isComp : Expr → Bool
  | .ListComp .. | .SetComp .. | .DictComp .. => true
  | _ => false

/-- a constant of the text -/
inductive MC : E → Expr → Prop where
  | none {k : Nat} {p : Pos} : MC .none (.Constant .none k p)
  | bool {b : Bool} {k : Nat} {p : Pos} : MC (.bool b) (.Constant (.bool b) k p)
  | int {i : Int} {k : Nat} {p : Pos} : MC (.int i) (.Constant (.int i) k p)
/-- the handlers of the text: the first one counts -/
inductive MH (fs : Tab) (sc : Scope) : List Hd → List ExceptHandler → Prop where
  | ret {c : String} {e : E} {x : Expr} {hs : List Hd} {np rp p : Pos} {r : List ExceptHandler} : c ∈ fs.excs → isGlb sc (Str.ofString c) = true → MC e x → MH fs sc (.mk c none [.ret e] :: hs) (.ExceptHandler (some (.Name (Str.ofString c) np)) none [.Return (some x) rp] p :: r)

mutual
inductive MS (fs : Tab) (sc : Scope) : S → Stmt → Prop where
  | assign {x : String} {e : E} {v : Expr} {p pos : Pos} : isLoc sc (Str.ofString x) = true → isComp v = false → ME fs sc e v → MS fs sc (.assign x e) (.Assign [.Name (Str.ofString x) p] v pos)
  | assignR {scope : Scope} {elt : E} {y x : String} {args conds : List E} {el : Expr} {xs ifs : List Expr} {tp gp cp lp p pos : Pos} : isLoc sc (Str.ofString y) = true → isGlb sc (Str.ofString "range") = true → compOk sc scope [Str.ofString x] = true → ifs.length ≤ 1 →
      MEs fs sc args xs → ME fs scope elt el → MEs fs scope conds ifs → MS fs sc (.assign y (.compR elt x args conds)) (.Assign [.Name (Str.ofString y) p] (.ListComp el [⟨.Name (Str.ofString x) tp, .Call (.Name (Str.ofString "range") gp) xs [] cp, ifs, 0⟩] scope lp) pos)
  | assignS {scope : Scope} {elt src : E} {y x : String} {conds : List E} {el it : Expr} {ifs : List Expr} {tp lp p pos : Pos} : isLoc sc (Str.ofString y) = true → compOk sc scope [Str.ofString x] = true → ifs.length ≤ 1 →
      ME fs sc src it → ME fs scope elt el → MEs fs scope conds ifs → MS fs sc (.assign y (.compS elt (.one x) src conds)) (.Assign [.Name (Str.ofString y) p] (.ListComp el [⟨.Name (Str.ofString x) tp, it, ifs, 0⟩] scope lp) pos)
  | setItem {o i e : E} {o' i' v : Expr} {p pos : Pos} : ME fs sc e v → ME fs sc o o' → ME fs sc i i' → MS fs sc (.setItem o i e) (.Assign [.Subscript o' i' p] v pos)
  | setAttr {o e : E} {n : String} {o' v : Expr} {p pos : Pos} : n ∈ attrNames → ME fs sc e v → ME fs sc o o' → MS fs sc (.setAttr o n e) (.Assign [.Attribute o' (Str.ofString n) p] v pos)
  | expr {e : E} {v : Expr} {p : Pos} : isComp v = false → ME fs sc e v → MS fs sc (.expr e) (.Expr v p)
  | ret {e : E} {v : Expr} {p : Pos} : ME fs sc e v → MS fs sc (.ret e) (.Return (some v) p)
  | retN {p : Pos} : MS fs sc .retN (.Return none p)
  | ite {c : E} {a b : List S} {t : Expr} {x y : List Stmt} {p : Pos} : ME fs sc c t → MSs fs sc a x → MSs fs sc b y → MS fs sc (.ite c a b) (.If t x y p)
  | forR {x : String} {args : List E} {body : List S} {xs : List Expr} {bd : List Stmt} {tp gp cp p : Pos} : isLoc sc (Str.ofString x) = true → isGlb sc (Str.ofString "range") = true → MEs fs sc args xs → MSs fs sc body bd →
      MS fs sc (.forR x args body) (.For (.Name (Str.ofString x) tp) (.Call (.Name (Str.ofString "range") gp) xs [] cp) bd [] p)
  | forS {x : String} {src : E} {body : List S} {it : Expr} {bd : List Stmt} {tp p : Pos} : isLoc sc (Str.ofString x) = true → ME fs sc src it → MSs fs sc body bd → MS fs sc (.forS x src body) (.For (.Name (Str.ofString x) tp) it bd [] p)
  | while_ {c : E} {body : List S} {t : Expr} {bd : List Stmt} {p : Pos} : ME fs sc c t → MSs fs sc body bd → MS fs sc (.while_ c body) (.While t bd [] p)
  | stuck {x : Stmt} : MS fs sc .stuck x
  | raise {c m : String} {k : Nat} {np kp cp p : Pos} : c ∈ fs.excs → isGlb sc (Str.ofString c) = true → MS fs sc (.raise c m) (.Raise (some (.Call (.Name (Str.ofString c) np) [.Constant (.str (Str.ofString m)) k kp] [] cp)) none p)
  | try_ {body : List S} {hs : List Hd} {b : List Stmt} {h : ExceptHandler} {r : List ExceptHandler} {p : Pos} : MSs fs sc body b → MH fs sc hs (h :: r) → MS fs sc (.try_ body hs) (.Try b (h :: r) [] [] p)
inductive MSs (fs : Tab) (sc : Scope) : List S → List Stmt → Prop where
  | nil : MSs fs sc [] []
  | cons {e : S} {es : List S} {x : Stmt} {xs : List Stmt} : MS fs sc e x → MSs fs sc es xs → MSs fs sc (e :: es) (x :: xs)
end

noncomputable def chkC : (e : E) → (x : Expr) → Ok (MC e x)
  | .none, .Constant .none _ _ => some ⟨.none⟩
  | .bool b, .Constant (.bool c) _ _ => oif (b = c) fun h => some ⟨by subst h; exact .bool⟩
  | .int b, .Constant (.int c) _ _ => oif (b = c) fun h => some ⟨by subst h; exact .int⟩
  | _, _ => none
noncomputable def chkH (fs : Tab) (sc : Scope) : (hs : List Hd) → (xs : List ExceptHandler) → Ok (MH fs sc hs xs)
  | .mk c none [.ret e] :: _, .ExceptHandler (some (.Name id _)) none [.Return (some x) _] _ :: _ => oif (id = Str.ofString c ∧ c ∈ fs.excs ∧ isGlb sc (Str.ofString c) = true) fun h => o1 (chkC e x) fun h1 => by obtain ⟨rfl, a, b⟩ := h; exact .ret a b h1
  | _, _ => none

noncomputable def chkA (fs : Tab) (sc : Scope) (y : String) (e : E) (v : Expr) (p pos : Pos) : Ok (MS fs sc (.assign y e) (.Assign [.Name (Str.ofString y) p] v pos)) := match isComp v with
  | false => oif (isLoc sc (Str.ofString y) = true ∧ isComp v = false) fun h => o1 (chkE fs sc e v) fun h1 => .assign h.1 h.2 h1
  | true => match e, v with
    | .compR elt x args conds, .ListComp el [⟨.Name t _, .Call (.Name g _) xs [] _, ifs, 0⟩] scope _ => oif ((t = Str.ofString x ∧ g = Str.ofString "range") ∧ isLoc sc (Str.ofString y) = true ∧ isGlb sc (Str.ofString "range") = true ∧ compOk sc scope [Str.ofString x] = true ∧ ifs.length ≤ 1) fun h =>
        o3 (chkEs fs sc args xs) (chkE fs scope elt el) (chkEs fs scope conds ifs) fun h1 h2 h3 => by obtain ⟨⟨rfl, rfl⟩, a, b, c, d⟩ := h; exact .assignR a b c d h1 h2 h3
    | .compS elt (.one x) src conds, .ListComp el [⟨.Name t _, it, ifs, 0⟩] scope _ => oif (t = Str.ofString x ∧ isLoc sc (Str.ofString y) = true ∧ compOk sc scope [Str.ofString x] = true ∧ ifs.length ≤ 1) fun h =>
        o3 (chkE fs sc src it) (chkE fs scope elt el) (chkEs fs scope conds ifs) fun h1 h2 h3 => by obtain ⟨rfl, a, b, c⟩ := h; exact .assignS a b c h1 h2 h3
    | _, _ => none

mutual
noncomputable def chkS (fs : Tab) (sc : Scope) : (e : S) → (x : Stmt) → Ok (MS fs sc e x)
  | .assign x e, .Assign [.Name id p] v pos => oif (id = Str.ofString x) fun q => (chkA fs sc x e v p pos).map fun h => ⟨by subst q; exact h.down⟩
  | .setItem o i e, .Assign [.Subscript o' i' _] v _ => o3 (chkE fs sc e v) (chkE fs sc o o') (chkE fs sc i i') .setItem
  | .setAttr o n e, .Assign [.Attribute o' y _] v _ => oif (y = Str.ofString n ∧ n ∈ attrNames) fun h => o2 (chkE fs sc e v) (chkE fs sc o o') fun h1 h2 => by obtain ⟨rfl, h⟩ := h; exact .setAttr h h1 h2
  | .expr e, .Expr v _ => oif (isComp v = false) fun h => o1 (chkE fs sc e v) (.expr h)
  | .ret e, .Return (some v) _ => o1 (chkE fs sc e v) .ret
  | .retN, .Return none _ => some ⟨.retN⟩
  | .ite c a b, .If t x y _ => o3 (chkE fs sc c t) (chkSs fs sc a x) (chkSs fs sc b y) .ite
  | .forR x args body, .For (.Name id _) (.Call (.Name g _) xs [] _) bd [] _ => oif ((id = Str.ofString x ∧ g = Str.ofString "range") ∧ isLoc sc (Str.ofString x) = true ∧ isGlb sc (Str.ofString "range") = true) fun h =>
      o2 (chkEs fs sc args xs) (chkSs fs sc body bd) fun h1 h2 => by obtain ⟨⟨rfl, rfl⟩, a, b⟩ := h; exact .forR a b h1 h2
  | .forS x src body, .For (.Name id _) it bd [] _ => oif (id = Str.ofString x ∧ isLoc sc (Str.ofString x) = true) fun h => o2 (chkE fs sc src it) (chkSs fs sc body bd) fun h1 h2 => by obtain ⟨rfl, a⟩ := h; exact .forS a h1 h2
  | .while_ c body, .While t bd [] _ => o2 (chkE fs sc c t) (chkSs fs sc body bd) .while_
  | .stuck, _ => some ⟨.stuck⟩
  | .raise c m, .Raise (some (.Call (.Name id _) [.Constant (.str y) _ _] [] _)) none _ => oif ((id = Str.ofString c ∧ y = Str.ofString m) ∧ c ∈ fs.excs ∧ isGlb sc (Str.ofString c) = true) fun h => some ⟨by obtain ⟨⟨rfl, rfl⟩, a, b⟩ := h; exact .raise a b⟩
  | .try_ body hs, .Try b (h :: r) [] [] _ => o2 (chkSs fs sc body b) (chkH fs sc hs (h :: r)) .try_
  | _, _ => none
noncomputable def chkSs (fs : Tab) (sc : Scope) : (es : List S) → (xs : List Stmt) → Ok (MSs fs sc es xs)
  | [], [] => some ⟨.nil⟩
  | e :: es, x :: xs => o2 (chkS fs sc e x) (chkSs fs sc es xs) .cons
  | _, _ => none
end

noncomputable def FlowR (β : List Addr) : Option V → Flow → Prop
  | none, f => f = .next
  | some v, f => ∃ u, f = .ret u ∧ VR β v u

theorem FlowR.mono {β β' : List Addr} (hp : β <+: β') : ∀ {r : Option V} {f : Flow}, FlowR β r f → FlowR β' r f
  | none, _, h => h
  | some _, _, ⟨u, e, v⟩ => ⟨u, e, v.mono hp⟩

inductive PS (h₀ : Heap) (env : PySem.Env) (β : List Addr) (s : Shared) (k : SPost) (f : Flow) (s' : Shared) : Prop
  | mk (r : Option V) (β' : List Addr) (ρ' : Env) (H' : Hp) : k r ρ' H' → FlowR β' r f → StepF env β s β' s' → SR h₀ β' H' s'.heap → (r = none → ER env ρ' β' s'.heap) → PS h₀ env β s k f s'

section
variable {prog : Program} {w : World} {h₀ : Heap} {P : Prog} {fs : Tab} {mg mb : Str → Option Value} {n : Nat} {C : Ctx}

theorem PS.after {env : PySem.Env} {β β' : List Addr} {s s' s'' : Shared} {k : SPost} {f : Flow} (t : StepF env β s β' s') (h : PS h₀ env β' s' k f s'') : PS h₀ env β s k f s'' :=
  let ⟨r, b, ρ, H, a, c, d, e, g⟩ := h; ⟨r, b, ρ, H, a, c, t.trans d, e, g⟩

/-- the frame's objects are above the base -/
noncomputable def OwnNew (h₀ : Heap) (env : PySem.Env) : Prop := ∀ b, Own env b → h₀.get? b = Option.none

theorem er_local {env : PySem.Env} {ρ : Env} {β : List Addr} {h h' : Heap} {x : String} {v : V} {u : Value} {m : Str → Option Value} (er : ER env ρ β h) (hm : h.Ns env.locals m ∧ ∀ x v, ρ x = some v → env.kindOf (Str.ofString x) = some .local → Str.ofString x ≠ (".0" : Str) → ∃ u, m (Str.ofString x) = some u ∧ VR β v u)
    (hk : env.kindOf (Str.ofString x) = some .local) (hv : VR β v u) (hn : h'.Ns env.locals (fun y => if y = Str.ofString x then some u else m y)) (hs : Heap.SameBut env.locals h h') : ER env (ρ.set x v) β h' := by
  refine ⟨er.kind, er.glob, er.bltn, ⟨_, hn, fun y v' hy hky hd => ?_⟩, fun y c hc => ?_, fun y v' hy hky => ?_, er.has, er.apart, er.locs, er.cells⟩
  · by_cases e : y = x
    · subst e
      have : v' = v := by simpa [Env.set] using hy.symm
      subst this; exact ⟨u, by simp, hv⟩
    · have hy' : ρ y = some v' := by simpa [Env.set, beq_eq_false_iff_ne.mpr e] using hy
      obtain ⟨u', hu', hr⟩ := hm.2 y v' hy' hky hd
      exact ⟨u', by rw [if_neg (ofString_ne e)]; exact hu', hr⟩
  · obtain ⟨u', hu'⟩ := er.cell y c hc
    exact ⟨u', hu'.sameBut hs (er.cells y c hc).2⟩
  · by_cases e : y = x
    · subst e; rw [hk] at hky; simp at hky
    · have hy' : ρ y = some v' := by simpa [Env.set, beq_eq_false_iff_ne.mpr e] using hy
      obtain ⟨c, u', hc, hic, hr⟩ := er.held y v' hy' hky
      exact ⟨c, u', hc, hic.sameBut hs (er.cells _ c hc).2, hr⟩

theorem er_cell {env : PySem.Env} {ρ : Env} {β : List Addr} {h h' : Heap} {x : String} {v : V} {u : Value} {c : Addr} (er : ER env ρ β h) (hk : env.kindOf (Str.ofString x) = some .cell) (hc : env.cells.lookup (Str.ofString x) = some c) (hv : VR β v u)
    (hn : h'.IsCell c (some u)) (hs : Heap.SameBut c h h') : ER env (ρ.set x v) β h' := by
  obtain ⟨m, hm, hm2⟩ := er.ns
  refine ⟨er.kind, er.glob, er.bltn, ⟨m, hm.sameBut hs (Ne.symm (er.cells _ c hc).2), fun y v' hy hky hd => ?_⟩, fun y c' hc' => ?_, fun y v' hy hky => ?_, er.has, er.apart, er.locs, er.cells⟩
  · have e : y ≠ x := by rintro rfl; (first | exact clash hk hky | exact clash hky hk | (rw [hk] at hky; cases hky))
    have hy' : ρ y = some v' := by simpa [Env.set, beq_eq_false_iff_ne.mpr e] using hy
    exact hm2 y v' hy' hky hd
  · by_cases e : c' = c
    · subst e; exact ⟨_, hn⟩
    · obtain ⟨u', hu'⟩ := er.cell y c' hc'; exact ⟨u', hu'.sameBut hs e⟩
  · by_cases e : y = x
    · subst e
      have : v' = v := by simpa [Env.set] using hy.symm
      subst this; exact ⟨c, u, hc, hn, hv⟩
    · have hy' : ρ y = some v' := by simpa [Env.set, beq_eq_false_iff_ne.mpr e] using hy
      obtain ⟨c', u', hc', hic, hr⟩ := er.held y v' hy' hky
      have : c' ≠ c := by rintro rfl; exact e (ofString_inj (er.apart _ _ _ hc' hc))
      exact ⟨c', u', hc', hic.sameBut hs this, hr⟩

/-- a name of the frame is stored -/
theorem store_sound {sc : Scope} {env : PySem.Env} {ρ : Env} {β : List Addr} {H : Hp} {s : Shared} {A : Around} {x : String} {v : V} {u : Value} {Q : Unit → Shared → Prop} {E : Value → Shared → Prop} {X : XP} {E' : Value → Shared → Prop} (a : At P fs mg mb h₀ n sc env ρ β H s A X E') (hl : isLoc sc (Str.ofString x) = true) (sceq : env.scope = sc)
    (hon : OwnNew h₀ env) (hv : VR β v u) (h : ∀ s', StepF env β s β s' → SR h₀ β H s'.heap → ER env (ρ.set x v) β s'.heap → Q () s') : wpAny (model prog w) A (storeName env (Str.ofString x) u) Q E s := by
  have hko : ∀ y, env.kindOf y = sc.names.lookup y := fun y => by rw [← sceq]; rfl
  have fin : ∀ (h' : Heap) (tk : Nat) (c : Addr), Own env c → DAt s.heap h' c → Heap.SameBut c s.heap h' → ER env (ρ.set x v) β h' → Q () { s with heap := h', toks := tk } := by
    intro h' tk c hc hex hs er'
    refine h _ ⟨⟨_, _, rfl⟩, List.prefix_refl _, fun b hb hb' => .of fun o e => hs.extBut b o (by rintro rfl; exact hb' hc) e, fun b hb => .inl hb, fun b hb => ?_⟩ (a.sr.other fun b o e q => hs.extBut b o ?_ e) er'
    · by_cases e : b = c
      · subst e; exact hex
      · exact (KAt.of fun o ho => hs.extBut b o e ho).d
    · rintro rfl
      rcases q with q | ⟨o', q⟩
      · exact a.er.disj _ hc q
      · (first | exact clash (hon _ hc) q | exact clash q (hon _ hc) | (rw [hon _ hc] at q; cases q))
  unfold isLoc at hl
  split at hl
  · rename_i e
    rw [← hko] at e
    obtain ⟨m, hn, hm⟩ := a.er.ns
    refine wpAny_storeName_local e hn (fun h' hn' hs => fin h' _ env.locals (.inl rfl) ?_ hs (er_local a.er ⟨hn, hm⟩ e hv hn' hs)) (by rw [a.er.kind]; rfl)
    obtain ⟨o, es, ep, eo, ed, ek, _⟩ := hn'; exact fun _ _ => ⟨o, eo, fun _ => ⟨es, ep, ed⟩, fun _ => ⟨es, ep, ed, ek⟩⟩
  · rename_i e
    rw [← hko] at e
    obtain ⟨c, hc⟩ := a.er.has _ (.inl e)
    obtain ⟨u', hu'⟩ := a.er.cell _ c hc
    refine wpAny_storeName_cell a.er.kind e hc hu' fun h' hn' hs => fin h' s.toks c (.inr ⟨_, hc⟩) ?_ hs (er_cell a.er e hc hv hn' hs)
    obtain ⟨o, eo, _⟩ := hn'
    obtain ⟨o1, eo1, ed1⟩ := hu'
    have no : ∀ o2, s.heap.get? c = some o2 → ∀ es ep, o2.data = .dict es ep → False := fun o2 e2 es ep q => by cases eo1.symm.trans e2; rw [ed1] at q; cases q
    exact fun o2 e2 => ⟨o, eo, fun ⟨es, ep, q⟩ => (no o2 e2 es ep q).elim, fun ⟨es, ep, q, _⟩ => (no o2 e2 es ep q).elim⟩
  · cases hl

end
end Mine

namespace Mine
open PySem
end Mine
namespace Mine
open PySem
open PyProof.Rows.TI (gone gone_get gone_none gone_some)

/-- an exception of class c with its traceback -/
inductive ExcT (h₀ : Heap) (mg : Str → Option Value) (β : List Addr) (hs : Heap) (c : String) (ea : Addr) (h : Heap) : Prop
  | mk (C : Addr) (ob : Obj) (vs : Array Value) (T : Addr) (oT : Obj) (ts : Array Value) : mg (Str.ofString c) = some (.ref C) → ea ∉ β → h₀.get? ea = Option.none → hs.get? ea = Option.none → h.get? ea = some ob → ob.cls = .ref C → ob.data = .fields vs →
    vs[1]? = some (.ref T) → T ∉ β → h₀.get? T = Option.none → hs.get? T = Option.none → T ≠ ea → h.get? T = some oT → oT.data = .fields ts → ts[3]? = some .none → (vs[2]? = some .none ∨ c ∈ chained) → ExcT h₀ mg β hs c ea h
theorem ExcT.at {h₀ : Heap} {mg : Str → Option Value} {β : List Addr} {hs : Heap} {c : String} {ea : Addr} {h : Heap} (x : ExcT h₀ mg β hs c ea h) : ExcAt h₀ mg β hs c (.ref ea) h := by
  obtain ⟨C, ob, vs, T, oT, ts, a1, a2, a3, a4, a5, a6, a7, a8, a9, a10, a11, a12, a13, a14, a15, a16⟩ := x
  exact ⟨ea, C, ob, vs, rfl, a1, a2, a3, a4, a5, a6, a7, a16, .inr ⟨T, oT, ts, a8, a9, a10, a11, a12, a13, a14, a15⟩⟩

theorem FrOK.fun_ {h₀ h base : Heap} {β : List Addr} : ∀ {l : List PySem.Env}, FrOK h₀ l β h → (∀ env ∈ l, ∀ L, env.frame = some L → base.get? L = Option.none) → h.FunFrames base l
  | [], _, _ => trivial
  | env :: l, x, hb => by
    obtain ⟨a, L, b, _, _, o, es, ep, e, f⟩ := x env (.head _)
    exact ⟨a, ⟨L, o, b, hb env (.head _) L b, e, fun vs q => by (first | exact clash f q | exact clash q f | (rw [f] at q; cases q))⟩, FrOK.fun_ (fun e he => x e (.tail _ he)) fun e he => hb e (.tail _ he)⟩

/-- an entry was written at the exception e, and its flight ended -/
inductive Noted (fr X : List Addr) (e : Addr) (cls : Value) (vs : Array Value) (h h' : Heap) : Prop
  | mk (ob oT : Obj) (T : Addr) (ts : Array Value) : h'.get? e = some ob → ob.cls = cls → ob.data = .fields (vs.setIfInBounds 1 (.ref T)) → h.get? T = none → T ≠ e → h'.get? T = some oT → oT.data = .fields ts → ts[3]? = some .none →
    (∀ b o, b ∉ X → b ∉ fr → h.get? b = some o → h'.get? b = some o) → (∀ b o, b ∉ X → h.get? b = some o → ∃ sl, h'.get? b = some { o with slots := sl }) → Noted fr X e cls vs h h'

theorem entry_tail {M : Model} {A : Around} {E : Value → Shared → Prop} {s : Shared} {h h₁ : Heap} {e : Addr} {oe tb : Obj} {vs ts : Array Value} {fr X : List Addr} {Q : Unit → Shared → Prop} (he₁ : h₁.get? e = some oe) (hd : oe.data = .fields vs) (hsz : 1 < vs.size) (htb : tb.data = .fields ts) (h3 : 3 < ts.size) (hX : e ∈ X)
    (hnew : h.get? h₁.objs.size = none) (h1 : ∀ b o, b ∉ X → b ∉ fr → h.get? b = some o → h₁.get? b = some o) (h2 : ∀ b o, b ∉ X → h.get? b = some o → ∃ sl, h₁.get? b = some { o with slots := sl })
    (q : ∀ h', Noted fr X e oe.cls vs h h' → Q () { s with heap := h' }) :
    wpAny M A (setField (.ref e) 1 (.ref h₁.objs.size)) (fun _ s' => wpAny M A (setFlight (.ref e) none) Q E s') E { s with heap := h₁.push tb } := by
  have p := Heap.get?_push_of_some tb he₁
  refine wpAny_setField p hd hsz ?_
  have hT : h₁.objs.size ≠ e := Nat.ne_of_gt (Heap.lt_size he₁)
  have d := Obj.data_mapFields hd (·.setIfInBounds 1 (Value.ref h₁.objs.size))
  have g := Heap.get?_update_self (Obj.mapFields (·.setIfInBounds 1 (Value.ref h₁.objs.size))) p (Obj.isFreed_of_fields d)
  have gT := (Heap.get?_update_other (h₁.push tb) (Obj.mapFields (·.setIfInBounds 1 (Value.ref h₁.objs.size))) (Ne.symm hT)).trans (Heap.get?_push_size h₁ (Obj.isFreed_of_fields htb))
  unfold setFlight
  refine wpAny_bind (wpAny_field g d (x := .ref h₁.objs.size) (by simp [hsz]) ?_)
  rw [if_pos (by simp)]
  have dT := Obj.data_mapFields htb (·.setIfInBounds 3 ((none : Option Addr).elim Value.none fun f => rawInt f))
  have keep : ∀ b o, b ∉ X → h₁.get? b = some o → (((h₁.push tb).update e (Obj.mapFields (·.setIfInBounds 1 (Value.ref h₁.objs.size)))).update h₁.objs.size (Obj.mapFields (·.setIfInBounds 3 ((none : Option Addr).elim Value.none fun f => rawInt f)))).get? b = some o := fun b o hb x => by
    have ne : e ≠ b := fun z => hb (z ▸ hX)
    rw [Heap.get?_update_other _ _ (Nat.ne_of_gt (Heap.lt_size x)), Heap.get?_update_other _ _ ne]
    exact Heap.get?_push_of_some _ x
  refine wpAny_setField gT htb h3 (q _ ⟨_, _, h₁.objs.size, _, (Heap.get?_update_other _ _ hT).trans g, Obj.cls_mapFields _ _, d, hnew, hT, Heap.get?_update_self _ gT (Obj.isFreed_of_fields dT), dT, by simp [h3], fun b o hb hf x => keep b o hb (h1 b o hb hf x), fun b o hb x => ?_⟩)
  obtain ⟨sl, y⟩ := h2 b o hb x
  exact ⟨sl, keep b _ hb y⟩

theorem entry_made {M : Model} {A : Around} {E : Value → Shared → Prop} {s : Shared} {h base : Heap} {env : PySem.Env} {outer : List PySem.Env} {L e : Addr} {oe : Obj} {vs : Array Value} {head : Value} {hadNext : Bool} {X : List Addr} {Q : Unit → Shared → Prop}
    (hfr : A.frames = some (env :: outer)) (hl : s.heap.FunFrames base (env :: outer)) (hf : env.frame = some L) (he : s.heap.get? e = some oe) (hd : oe.data = .fields vs) (hsz : 1 < vs.size) (hX : e ∈ X)
    (hb : ∀ b, b ∉ X → s.heap.get? b = h.get? b) (hsize : s.heap.objs.size = h.objs.size) (q : ∀ h', Noted ((env :: outer).filterMap (·.frame)) X e oe.cls vs h h' → Q () { s with heap := h' }) :
    wpAny M A (do let a ← frameOf env; let pl ← entryPlaceOf L hadNext; let b ← EntryCells.newEntry head a .none (rawInt L) .none pl; setField (.ref e) 1 b)
      (fun _ s' => wpAny M A (setFlight (.ref e) none) Q E s') E s := by
  have hne : e ∉ (env :: outer).filterMap (·.frame) := fun hm => by
    obtain ⟨_, o, ho, hn⟩ := hl.mem hm
    cases he.symm.trans ho; exact hn vs hd
  refine wpAny_bind (wpAny_frameOf_fun hfr hl hf fun h₁ hs => wpAny_bind (wpAny_entryPlaceOf fun pl hpl => ?_))
  unfold EntryCells.newEntry newFields
  refine wpAny_bind (wpAny_newObj_type ?_ (hpl.sizeOk5 _ _ _ _ _))
  exact entry_tail (s := s) (h := h) ((hs.2.1 e hne).trans he) hd hsz rfl (by simp only [List.size_toArray, List.length_append, List.length_cons, List.length_nil] <;> omega) hX (get_none_of_le (by have e1 : h₁.objs.size = s.heap.objs.size := hs.1; show h.objs.size ≤ h₁.objs.size; omega))
    (fun b o hx hf' x => (hs.2.1 b hf').trans ((hb b hx).trans x)) (fun b o hx x => hs.2.2 b o ((hb b hx).trans x)) q

theorem note_first {M : Model} {A : Around} {E : Value → Shared → Prop} {s : Shared} {base : Heap} {env : PySem.Env} {outer : List PySem.Env} {L e : Addr} {oe : Obj} {vs : Array Value} {Q : Unit → Shared → Prop}
    (hfr : A.frames = some (env :: outer)) (hl : s.heap.FunFrames base (env :: outer)) (hf : env.frame = some L) (he : s.heap.get? e = some oe) (hd : oe.data = .fields vs) (h1 : vs[1]? = some .none)
    (q : ∀ h', Noted ((env :: outer).filterMap (·.frame)) [e] e oe.cls vs s.heap h' → Q () { s with heap := h' }) : wpAny M A (noteFrame (.ref e) env) (fun _ s' => wpAny M A (setFlight (.ref e) none) Q E s') E s := by
  unfold noteFrame
  simp only [hf]
  refine wpAny_bind (wpAny_field he hd h1 ?_)
  rw [if_neg (by decide)]
  exact entry_made hfr hl hf he hd (Array.getElem?_eq_some_iff.mp h1).1 (.head _) (fun _ _ => rfl) rfl q

theorem note_next {M : Model} {A : Around} {E : Value → Shared → Prop} {s : Shared} {base : Heap} {env : PySem.Env} {outer : List PySem.Env} {L e T : Addr} {oe oT : Obj} {vs ts : Array Value} {Q : Unit → Shared → Prop}
    (hfr : A.frames = some (env :: outer)) (hl : s.heap.FunFrames base (env :: outer)) (hf : env.frame = some L) (he : s.heap.get? e = some oe) (hd : oe.data = .fields vs) (h1 : vs[1]? = some (.ref T)) (hTe : T ≠ e) (hT : s.heap.get? T = some oT) (hdT : oT.data = .fields ts) (h3 : ts[3]? = some .none)
    (q : ∀ h', Noted ((env :: outer).filterMap (·.frame)) [e, T] e oe.cls vs s.heap h' → Q () { s with heap := h' }) : wpAny M A (noteFrame (.ref e) env) (fun _ s' => wpAny M A (setFlight (.ref e) none) Q E s') E s := by
  have upd : ∀ b, b ≠ T → (s.heap.update T (Obj.mapFields (·.setIfInBounds 3 Value.none))).get? b = s.heap.get? b := fun b hb => Heap.get?_update_other _ _ (Ne.symm hb)
  unfold noteFrame
  simp only [hf]
  refine wpAny_bind (wpAny_field he hd h1 ?_)
  rw [if_pos (by simp)]
  refine wpAny_bind (wpAny_field hT hdT h3 ?_)
  rw [if_neg (by simp [rawInt])]
  refine wpAny_bind (wpAny_setField hT hdT (Array.getElem?_eq_some_iff.mp h3).1 ?_)
  refine entry_made hfr (hl.of_keeps fun b o x hn => ⟨o, (upd b ?_).trans x, rfl⟩) hf ((upd e (Ne.symm hTe)).trans he) hd (Array.getElem?_eq_some_iff.mp h1).1 (.head _) (fun b hb => upd b fun z => hb (z ▸ .tail _ (.head _))) (Heap.size_update ..) q
  rintro rfl
  cases hT.symm.trans x; exact hn ts hdT
theorem note_exc {M : Model} {A : Around} {E : Value → Shared → Prop} {env : PySem.Env} {outer : List PySem.Env} {h₀ hs : Heap} {mg : Str → Option Value} {β : List Addr} {H : Hp} {s : Shared} {c : String} {e : Value} {Q : Unit → Shared → Prop}
    (hfr : A.frames = some (env :: outer)) (fr : FrOK h₀ (env :: outer) β s.heap) (sr : SR h₀ β H s.heap) (hlive : ∀ b, (∃ o, hs.get? b = some o) → ∃ o, s.heap.get? b = some o) (ex : ExcAt h₀ mg β hs c e s.heap)
    (h : ∀ ea h', e = .ref ea → (∀ b, (∃ o, hs.get? b = some o) → KAt s.heap h' b) → SR h₀ β H h' → ExcT h₀ mg β hs c ea h' → Q () { s with heap := h' }) : wpAny M A (noteFrame e env) (fun _ s' => wpAny M A (setFlight e none) Q E s') E s := by
  obtain ⟨ea, C, ob, vs, rfl, hmg, e1, e2, e3, e4, e5, e6, e8, e7⟩ := ex
  obtain ⟨_, L, hL, _⟩ := fr env (.head _)
  have frB : ∀ b ∈ (env :: outer).filterMap (·.frame), b ∉ β ∧ h₀.get? b = Option.none ∧ ∃ o es ep, s.heap.get? b = some o ∧ o.data = .dict es ep := fun b hb => by
    obtain ⟨env', he, hf⟩ := List.mem_filterMap.mp hb
    obtain ⟨_, L', hL', a, b', o, es, ep, q, f⟩ := fr env' he
    cases hf.symm.trans hL'
    exact ⟨a, b', o, es, ep, q, f⟩
  have key : ∀ (X : List Addr), 1 < vs.size → (∀ b ∈ X, b ∉ β ∧ h₀.get? b = Option.none ∧ hs.get? b = Option.none) → ∀ h', Noted ((env :: outer).filterMap (·.frame)) X ea (.ref C) vs s.heap h' → Q () { s with heap := h' } := by
    intro X hsz hX h' ⟨ob', oT, T, ts, n1, n2, n3, n4, n5, n6, n7, n8, n9, n10⟩
    refine h ea h' rfl (fun b hb o q => ?_) (sr.other fun b o q hq => n9 b o (fun hm => ?_) (fun hm => ?_) q) ⟨C, ob', _, T, oT, ts, hmg, e1, e2, e3, n1, n2, n3, by simp [hsz], fun hm => ?_, ?_, ?_, n5, n6, n7, n8, ?_⟩
    · have hbX : b ∉ X := fun hm => hb.elim fun o' q' => clash q' (hX b hm).2.2
      by_cases hm : b ∈ (env :: outer).filterMap (·.frame)
      · obtain ⟨_, _, o', es, ep, q', f⟩ := frB b hm
        cases q.symm.trans q'
        obtain ⟨sl, y⟩ := n10 b o hbX q
        exact ⟨_, y, .inr ⟨⟨es, ep, f⟩, sl, rfl⟩⟩
      · exact ⟨o, n9 b o hbX hm q, KS.refl o⟩
    · exact hq.elim (hX b hm).1 fun ⟨o', z⟩ => clash z (hX b hm).2.1
    · exact hq.elim (frB b hm).1 fun ⟨o', z⟩ => clash z (frB b hm).2.1
    · exact (sr.mem hm).elim fun o q => clash q n4
    · cases q : h₀.get? T with
      | none => rfl
      | some o => exact clash (sr.kept _ _ q) n4
    · cases q : hs.get? T with
      | none => rfl
      | some o => exact (hlive T ⟨o, q⟩).elim fun o' q' => clash q' n4
    · rw [Array.getElem?_setIfInBounds_ne (by decide)]; exact e8
  have fun_ := fr.fun_ (base := gone s.heap ((env :: outer).filterMap (·.frame))) fun env' he L hL => gone_none (List.mem_filterMap.mpr ⟨env', he, hL⟩)
  rcases e7 with e7 | ⟨T, oT, ts, t1, t2, t3, t4, t5, t6, t7, t8⟩
  · refine note_first hfr fun_ hL e4 e6 e7 fun h' n => key [ea] (Array.getElem?_eq_some_iff.mp e7).1 (fun b hb => ?_) h' (e5 ▸ n)
    cases List.mem_singleton.mp hb; exact ⟨e1, e2, e3⟩
  · refine note_next hfr fun_ hL e4 e6 t1 t5 t6 t7 t8 fun h' n => key [ea, T] (Array.getElem?_eq_some_iff.mp t1).1 (fun b hb => ?_) h' (e5 ▸ n)
    rcases List.mem_cons.mp hb with rfl | hb
    · exact ⟨e1, e2, e3⟩
    · cases List.mem_singleton.mp hb; exact ⟨t2, t3, t4⟩

theorem leave_exc {M : Model} {A : Around} {E : Value → Shared → Prop} {env : PySem.Env} {outer : List PySem.Env} {h₀ hs : Heap} {mg : Str → Option Value} {β : List Addr} {H : Hp} {s : Shared} {c : String} {e : Value} {Q : Unit → Shared → Prop}
    (hfr : A.frames = some (env :: outer)) (fr : FrOK h₀ (env :: outer) β s.heap) (sr : SR h₀ β H s.heap) (hlive : ∀ b, (∃ o, hs.get? b = some o) → ∃ o, s.heap.get? b = some o) (ex : ExcAt h₀ mg β hs c e s.heap)
    (h : ∀ ea h', e = .ref ea → (∀ b, (∃ o, hs.get? b = some o) → KAt s.heap h' b) → SR h₀ β H h' → ExcT h₀ mg β hs c ea h' → Q () { s with heap := h' }) : wpAny M A (leaving env e) Q E s :=
  wpAny_bind (note_exc hfr fr sr hlive ex h)

inductive Landed (mg : Str → Option Value) (c : String) (ea : Addr) (h : Heap) : Prop
  | mk (ox : Obj) (ws : Array Value) (C : Addr) : h.get? ea = some ox → ox.data = .fields ws → (ws[2]? = some .none ∨ c ∈ chained) → mg (Str.ofString c) = some (.ref C) → ox.cls = .ref C → Landed mg c ea h
/-- its flight ends -/
theorem land_exc {M : Model} {A : Around} {E : Value → Shared → Prop} {h₀ hs : Heap} {mg : Str → Option Value} {β : List Addr} {H : Hp} {s : Shared} {c : String} {ea : Addr} {Q : Unit → Shared → Prop} (sr : SR h₀ β H s.heap) (ex : ExcT h₀ mg β hs c ea s.heap)
    (h : ∀ h', (∀ b, (∃ o, hs.get? b = some o) → KAt s.heap h' b) → SR h₀ β H h' → Landed mg c ea h' → Q () { s with heap := h' }) : wpAny M A (setFlight (.ref ea) none) Q E s := by
  obtain ⟨C, ob, vs, T, oT, ts, a1, a2, a3, a4, a5, a6, a7, a8, a9, a10, a11, a12, a13, a14, a15, a16⟩ := ex
  refine wpAny_setFlight_none a5 a7 a8 a13 a14 (Array.getElem?_eq_some_iff.mp a15).1 (h _ (fun b hb => .of fun o q => ?_) (sr.other fun b o q hq => ?_) ⟨ob, vs, C, (Heap.get?_update_other _ _ a12).trans a5, a7, a16, a1, a6⟩)
  · have : T ≠ b := by rintro rfl; obtain ⟨o', q'⟩ := hb; (first | exact clash a11 q' | exact clash q' a11 | (rw [a11] at q'; cases q'))
    rw [Heap.get?_update_other _ _ this]; exact q
  · have : T ≠ b := by
      rintro rfl
      rcases hq with z | ⟨o', z⟩
      · exact a9 z
      · (first | exact clash a10 z | exact clash z a10 | (rw [a10] at z; cases z))
    rw [Heap.get?_update_other _ _ this]; exact q
end Mine

namespace Mine
open PySem

section
variable {prog : Program} {w : World} {h₀ : Heap} {P : Prog} {fs : Tab} {mg mb : Str → Option Value} {n : Nat} {C : Ctx}

theorem swaps_false {v : Expr} {t : Option Expr} {line : Nat} {env : PySem.Env} (h : isComp v = false) : swapsWith v t line env = pure false := by
  cases v <;> first | rfl | cases h

theorem swaps_sub {v o i : Expr} {p : Pos} {line : Nat} {env : PySem.Env} : swapsWith v (some (.Subscript o i p)) line env = pure false := by
  cases v <;> rfl

/-- a comprehension whose list goes to a name at once -/
theorem comp_use {A : Around} {E' : Value → Shared → Prop} {sc scope : Scope} {env : PySem.Env} {ρ : Env} {β : List Addr} {H : Hp} {s : Shared} {x y : String} {elt : E} {conds : List E} {el iter : Expr} {ifs : List Expr} {px py pos : Pos} {X : XP} {E₂ : Value → Shared → Prop} {Q : Post}
    (a : At P fs mg mb h₀ n sc env ρ β H s A X E₂) (sceq : env.scope = sc) (hon : OwnNew h₀ env) (hl : isLoc sc (Str.ofString y) = true) (ok : CompOk sc scope ([x].map Str.ofString)) (hE : SoundE prog w h₀ P fs mg mb n C elt el scope) (hT : SoundIfs prog w h₀ P fs mg mb n C conds ifs scope)
    (hs : ∀ x, foldedSetIterable iter env x = pure x)
    (hsrc : wpAny (model prog w) A (eval iter env) (fun xv s₁ => wpAny (model prog w) A (pyIter xv) (SrcReady prog w A h₀ β s fun G items H₁ => wLoop G (compStep C elt conds (fun v _ => some (Env.set ρ x v)) noX) items [] H₁ (fun acc H5 => Q (V.ref (List.length H5)) (H5 ++ [O.list acc]))) E' s₁) E' s) :
    wpAny (model prog w) A (evalThenUse (.ListComp el [⟨.Name (Str.ofString x) px, iter, ifs, 0⟩] scope pos) env (assign (.Name (Str.ofString y) py) env)) (fun _ s' => ∃ β' v H', Q v H' ∧ StepF env β s β' s' ∧ SR h₀ β' H' s'.heap ∧ ER env (ρ.set y v) β' s'.heap) E' s := by
  show wpAny (model prog w) A (do let _ ← comprehension (.ListComp el [⟨.Name (Str.ofString x) px, iter, ifs, 0⟩] scope pos) scope env _ (newList []) false (eval iter env) (some (assign (.Name (Str.ofString y) py) env))) _ _ s
  refine wpAny_bind (wpAny_mono (comp_whole (use := some (assign (.Name (Str.ofString y) py) env)) (Q := fun _ s' => ∃ β' v H', Q v H' ∧ StepF env β s β' s' ∧ SR h₀ β' H' s'.heap ∧ ER env (ρ.set y v) β' s'.heap) a ok trivial (fun Cf => asg_one ok) (fun _ H _ hb => one_only (H := H) hb) hE hT hs hsrc fun D Cf β' H' acc s' c hns hk => ?_) (fun _ _ q => wpAny_pure q) fun _ _ e => e)
  obtain ⟨st, sr, vr⟩ := c.adopt a.sr.kept
  have a' := a.step st sr
  show wpAny (model prog w) A (assign (.Name (Str.ofString y) py) env (.ref D)) _ _ s'
  refine wpAny_assign_Name (store_sound a' hl sceq hon vr fun s'' t sr'' er'' => ?_)
  obtain ⟨m, hn⟩ := hns
  have ownOld : ∀ b, Own env b → ∃ o, s.heap.get? b = some o := fun b hb => by
    rcases hb with rfl | ⟨z, hz⟩
    · obtain ⟨m, ⟨o, _, _, e, _⟩, _⟩ := a.er.ns; exact ⟨o, e⟩
    · obtain ⟨u, o, e, _⟩ := a.er.cell z b hz; exact ⟨o, e⟩
  have hCo : ¬ Own env Cf := fun hb => by obtain ⟨o, e⟩ := ownOld _ hb; (first | exact clash c.cnew e | exact clash e c.cnew | (rw [c.cnew] at e; cases e))
  have hCb : Cf ∉ β' ++ [D] := fun hm => by
    rcases List.mem_append.mp hm with q | q
    · exact c.cout q
    · simp at q; exact c.dc q.symm
  obtain ⟨h1, t1, rfl⟩ := t.same
  refine ⟨m, Heap_Ns_at hn (t.keep Cf hCb hCo), fun h' hs' => ?_⟩
  have hC₀ : h₀.get? Cf = Option.none := by
    cases e : h₀.get? Cf with
    | none => rfl
    | some o => have := a.sr.kept _ _ e; (first | exact clash c.cnew this | exact clash this c.cnew | (rw [c.cnew] at this; cases this))
  have tf : StepF env β s (β' ++ [D]) _ := (st.toF a.er.disj).trans t
  obtain ⟨h2, t2, e2⟩ := c.step.same
  subst e2
  refine ⟨β' ++ [D], _, _, hk, ⟨⟨_, _, rfl⟩, tf.grow, fun b hb ho o e => KAt.trans (tf.keep b hb ho) (.of fun o' e' => hs'.extBut b o' (by rintro rfl; (first | exact clash c.cnew e | exact clash e c.cnew | (rw [c.cnew] at e; cases e))) e') o e, tf.fresh, fun b ho => ?_⟩, sr''.other fun b o e q => hs'.extBut b o ?_ e,
    er''.other (.of fun o e => hs'.extBut _ o (by rintro rfl; exact hCo (.inl rfl)) e) (fun z c' hz => .of fun o e => hs'.extBut _ o (by rintro rfl; exact hCo (.inr ⟨z, hz⟩)) e)⟩
  · exact (tf.own b ho).trans (KAt.of fun o e => hs'.extBut b o (by rintro rfl; exact hCo ho) e).d
  · rintro rfl
    rcases q with q | ⟨o', q⟩
    · exact hCb q
    · (first | exact clash hC₀ q | exact clash q hC₀ | (rw [hC₀] at q; cases q))

structure AtS (prog : Program) (w : World) (P : Prog) (fs : Tab) (mg mb : Str → Option Value) (h₀ : Heap) (n : Nat) (sc : Scope) (env : PySem.Env) (ρ : Env) (β : List Addr) (H : Hp) (s : Shared) (A : Around) (X : XP) (E' : Value → Shared → Prop) : Prop where
  at_ : At P fs mg mb h₀ n sc env ρ β H s A X E'
  sceq : env.scope = sc
  own : OwnNew h₀ env
  top : ∃ l, A.frames = some (env :: l)
  pass : ∀ hd, PassesOwnAt (model prog w) (A.mark hd) A env E'
theorem AtS.pass1 {prog : Program} {w : World} {P : Prog} {fs : Tab} {mg mb : Str → Option Value} {h₀ : Heap} {n : Nat} {sc : Scope} {env : PySem.Env} {ρ : Env} {β : List Addr} {H : Hp} {s : Shared} {A : Around} {X : XP} {E' : Value → Shared → Prop} (a : AtS prog w P fs mg mb h₀ n sc env ρ β H s A X E') : PassesOwn (model prog w) A env E' := by
  have := a.pass none
  rw [show A.mark none = A by cases A; rfl] at this
  exact this

theorem FrOK.stepF {h₀ : Heap} {l : List PySem.Env} {β β' : List Addr} {s s' : Shared} {env : PySem.Env} {ρ ρ' : Env} (x : FrOK h₀ l β s.heap) (er : ER env ρ β s.heap) (t : StepF env β s β' s') (er' : ER env ρ' β' s'.heap) : FrOK h₀ l β' s'.heap := fun e he => by
  obtain ⟨a, L, b, c, d, o, es, ep, q, f⟩ := x e he
  have hL : L ∉ β' := fun hm => by
    rcases t.fresh L hm with z | z
    · exact c z
    · (first | exact clash q z | exact clash z q | (rw [q] at z; cases z))
  by_cases ho : Own env L
  · rcases ho with rfl | ⟨y, hy⟩
    · obtain ⟨m, ⟨o', es', ep', e1, e2, _⟩, _⟩ := er'.ns
      exact ⟨a, _, b, hL, d, o', es', ep', e1, e2⟩
    · obtain ⟨u, o', e1, e2⟩ := er.cell y L hy
      (first | exact clash q e1 | exact clash e1 q | (rw [q] at e1; cases e1))
      (first | exact clash f e2 | exact clash e2 f | (rw [f] at e2; cases e2))
  · obtain ⟨o', e', k⟩ := t.keep L c ho o q
    exact ⟨a, L, b, hL, d, o', es, ep, e', k.data.trans f⟩

theorem AtS.step {sc env ρ β H s A β' H' s' ρ'} {X : XP} {E' : Value → Shared → Prop} (x : AtS prog w P fs mg mb h₀ n sc env ρ β H s A X E') (t : StepF env β s β' s') (sr : SR h₀ β' H' s'.heap) (er : ER env ρ' β' s'.heap) : AtS prog w P fs mg mb h₀ n sc env ρ' β' H' s' A X E' :=
  ⟨⟨x.at_.names, x.at_.amb, sr, er, x.at_.sc, let ⟨l, a, b⟩ := x.at_.frs; ⟨l, a, b.stepF x.at_.er t er⟩, x.at_.exc.step t sr⟩, x.sceq, x.own, x.top, x.pass⟩

noncomputable def SoundS (prog : Program) (w : World) (h₀ : Heap) (P : Prog) (fs : Tab) (mg mb : Str → Option Value) (n : Nat) (C : Ctx) (sc : Scope) (e : S) (x : Stmt) : Prop :=
  ∀ env ρ β H s A k X E', AtS prog w P fs mg mb h₀ n sc env ρ β H s A X E' → wS C e ρ H k X → wpAny (model prog w) A (exec x env) (PS h₀ env β s k) E' s
noncomputable def SoundSs (prog : Program) (w : World) (h₀ : Heap) (P : Prog) (fs : Tab) (mg mb : Str → Option Value) (n : Nat) (C : Ctx) (sc : Scope) (es : List S) (xs : List Stmt) : Prop :=
  ∀ env ρ β H s A k X E', AtS prog w P fs mg mb h₀ n sc env ρ β H s A X E' → wSs C es ρ H k X → wpAny (model prog w) A (execs xs env) (PS h₀ env β s k) E' s

/-- an assignment to a name -/
theorem assign_plain {sc : Scope} {env : PySem.Env} {ρ : Env} {β : List Addr} {H : Hp} {s : Shared} {A : Around} {y : String} {e : E} {v : Expr} {p pos : Pos} {k : SPost} {X : XP} {E' : Value → Shared → Prop} (hl : isLoc sc (Str.ofString y) = true) (hm : Snd prog w h₀ P fs mg mb n C sc e v)
    (a : AtS prog w P fs mg mb h₀ n sc env ρ β H s A X E') (hw : wE C e ρ H (fun v H1 => k none (ρ.set y v) H1) X) (hs : swapsWith v (some (.Name (Str.ofString y) p)) pos.line env = pure false) :
    wpAny (model prog w) A (exec (.Assign [.Name (Str.ofString y) p] v pos) env) (PS h₀ env β s k) E' s := by
  refine wpAny_Assign_Name (wpAny_mono (hm.1 env ρ β H s A _ _ E' a.at_ hw) (fun u s1 h1 => ?_) fun _ _ e => e) hs
  obtain ⟨β1, v1, H1, hk, t1, sr1, vr1⟩ := h1
  exact store_sound (a.at_.step t1 sr1) hl a.sceq a.own vr1 fun s' t' sr' er' => ⟨none, β1, _, H1, hk, rfl, (t1.toF a.at_.er.disj).trans t', sr', fun _ => er'⟩

theorem assign_comp {sc : Scope} {env : PySem.Env} {ρ : Env} {β : List Addr} {H : Hp} {s : Shared} {A : Around} {y : String} {e : E} {v : Expr} {p pos : Pos} {k : SPost} {X : XP} {E' : Value → Shared → Prop} (hl : isLoc sc (Str.ofString y) = true) (hm : Snd prog w h₀ P fs mg mb n C sc e v)
    (a : AtS prog w P fs mg mb h₀ n sc env ρ β H s A X E') (hw : wE C e ρ H (fun v H1 => k none (ρ.set y v) H1) X)
    (hu : wpAny (model prog w) A (evalThenUse v env (assign (.Name (Str.ofString y) p) env)) (fun _ s' => ∃ β' v H', k none (ρ.set y v) H' ∧ StepF env β s β' s' ∧ SR h₀ β' H' s'.heap ∧ ER env (ρ.set y v) β' s'.heap) E' s) (b : Bool) (hb : swapsWith v (some (.Name (Str.ofString y) p)) pos.line env = pure b) :
    wpAny (model prog w) A (exec (.Assign [.Name (Str.ofString y) p] v pos) env) (PS h₀ env β s k) E' s := by
  cases b with
  | false => exact assign_plain hl hm a hw hb
  | true =>
    rw [exec_Assign_Name_used _ _ _ _ hb]
    refine wpAny_bind (wpAny_standAt (wpAny_bind (wpAny_mono hu (fun _ s' q => wpAny_pure ?_) fun _ _ e => e)))
    obtain ⟨β', v', H', hk, t', sr', er'⟩ := q
    exact ⟨none, β', _, H', hk, rfl, t', sr', fun _ => er'⟩

theorem swaps_attr {v o : Expr} {n : Str} {p : Pos} {line : Nat} {env : PySem.Env} : swapsWith v (some (.Attribute o n p)) line env = pure false := by
  cases v <;> rfl
theorem setAttr_sound (hC : CallOK prog w h₀ fs mg n C.call) (hG : C.glob = P.glob) {sc : Scope} {o e : E} {y : String} {o' v : Expr} {p pos : Pos} (hy : y ∈ attrNames) (h1 : ME fs sc e v) (h2 : ME fs sc o o') :
    SoundS prog w h₀ P fs mg mb n C sc (.setAttr o y e) (.Assign [.Attribute o' (Str.ofString y) p] v pos) := by
  intro env ρ β H s A k X E' a hw
  rw [s_setAttr] at hw
  refine plainObj_wpAny_Assign_Attribute (wpAny_mono ((sound (mb := mb) hC hG e v sc h1).1 env ρ β H s A _ _ E' a.at_ hw) (fun u s1 q1 => ?_) fun _ _ e => e) swaps_attr
  obtain ⟨β1, v1, H1, hw1, t1, sr1, vr1⟩ := q1
  have a1 := a.at_.step t1 sr1
  refine wpAny_mono ((sound (mb := mb) hC hG o o' sc h2).1 env ρ β1 H1 s1 A _ _ E' a1 hw1) (fun uo s2 q2 => ?_) fun _ _ e => e
  obtain ⟨β2, v2, H2, hw2, t2, sr2, vr2⟩ := q2
  have t12 := t1.trans t2
  obtain ⟨H3, hset, hw3⟩ := oE_ex hw2
  cases vr2 with
  | ref hr =>
    refine p_setAttr a.at_.names.inn a.at_.names.g hy hset hr (vr1.mono t2.grow) (fun u' s' β' st sr' vr' => ?_) sr2
    have tt := t12.trans st
    exact ⟨none, β', ρ, _, hw3, rfl, tt.toF a.at_.er.disj, sr', fun _ => a.at_.er.step tt⟩
  | _ => exact no_ns hset
theorem setItem_sound (hC : CallOK prog w h₀ fs mg n C.call) (hG : C.glob = P.glob) {sc : Scope} {o i e : E} {o' i' v : Expr} {p pos : Pos} (h1 : ME fs sc e v) (h2 : ME fs sc o o') (h3 : ME fs sc i i') :
    SoundS prog w h₀ P fs mg mb n C sc (.setItem o i e) (.Assign [.Subscript o' i' p] v pos) := by
  intro env ρ β H s A k X E' a hw
  rw [s_setItem] at hw
  refine wpAny_Assign_Subscript (wpAny_mono ((sound (mb := mb) hC hG e v sc h1).1 env ρ β H s A _ _ E' a.at_ hw) (fun u s1 q1 => ?_) fun _ _ e => e) swaps_sub
  obtain ⟨β1, v1, H1, hw1, t1, sr1, vr1⟩ := q1
  have a1 := a.at_.step t1 sr1
  refine wpAny_mono ((sound (mb := mb) hC hG o o' sc h2).1 env ρ β1 H1 s1 A _ _ E' a1 hw1) (fun uo s2 q2 => ?_) fun _ _ e => e
  obtain ⟨β2, v2, H2, hw2, t2, sr2, vr2⟩ := q2
  have a2 := a1.step t2 sr2
  refine wpAny_mono ((sound (mb := mb) hC hG i i' sc h3).1 env ρ β2 H2 s2 A _ _ E' a2 hw2) (fun ui s3 q3 => ?_) fun _ _ e => e
  obtain ⟨β3, v3, H3, hw3, t3, sr3, vr3⟩ := q3
  have a3 := a2.step t3 sr3
  have t13 := (t1.trans t2).trans t3
  obtain ⟨H4, hset, hw3⟩ := oE_ex hw3
  have vr1' := vr1.mono (t2.grow.trans t3.grow)
  have vr2' := vr2.mono t3.grow
  cases vr2' with
  | ref hr =>
    cases vr3 with
    | int idx tk =>
      simp only [setV] at hset
      split at hset
      · rename_i xs hx
        simp only [setAtV] at hset
        obtain ⟨ys, hy, rfl⟩ := Option.map_eq_some_iff.mp hset
        split at hy <;> cases hy
        rename_i hk
        refine p_setL hx hr hk.1 hk.2 vr1' (fun u' s' β' st sr' vr' => ?_) sr3
        have tt := t13.trans st
        exact ⟨none, β', ρ, _, hw3, rfl, tt.toF a.at_.er.disj, sr', fun _ => a.at_.er.step tt⟩
      · rename_i es hx
        obtain ⟨r', e', sl⟩ := sr3.at hx
        (first | exact clash hr e' | exact clash e' hr | (rw [hr] at e'; cases e'))
        cases sl with
        | own a b c => cases c
      · cases hset
    | _ => simp [setV] at hset
  | _ => simp [setV] at hset

end
end Mine

namespace Mine
open PySem

section
variable {prog : Program} {w : World} {h₀ : Heap} {P : Prog} {fs : Tab} {mg mb : Str → Option Value} {n : Nat} {C : Ctx}

/-- a loop over what an iterator gives -/
theorem for_sound {sc : Scope} {env : PySem.Env} {ρ : Env} {β : List Addr} {H : Hp} {s : Shared} {A : Around} {y : String} {body : List S} {bd : List Stmt} {it : Expr} {px pos : Pos} {k : SPost} {X : SXP} {E' : Value → Shared → Prop}
    (a : AtS prog w P fs mg mb h₀ n sc env ρ β H s A X E') (hl : isLoc sc (Str.ofString y) = true) (hB : SoundSs prog w h₀ P fs mg mb n C sc body bd) (hs : ∀ x, foldedSetIterable it env x = pure x)
    (hsrc : wpAny (model prog w) A (eval it env) (fun xv s₁ => wpAny (model prog w) A (pyIter xv) (SrcReady prog w A h₀ β s fun G items H₁ => wFor G (fun v ρ' H' k' => wSs C body (ρ'.set y v) H' k' X) items ρ H₁ k) E' s₁) E' s) :
    wpAny (model prog w) A (exec (.For (.Name (Str.ofString y) px) it bd [] pos) env) (PS h₀ env β s k) E' s := by
  refine wpAny_For (wpAny_mono hsrc (fun xv s₁ q => wpAny_mono q (fun iv s₂ h₂ => ?_) fun _ _ e => e) fun _ _ e => e) hs
  obtain ⟨β₁, H₁, s₁, G, items, ⟨I, St, hI, tkI, rfl, rfl, kI, nI, st0, itr⟩, t₁, sr₁, hlen, hw⟩ := h₂
  have a₁ := a.at_.step t₁ sr₁
  have notNew : ∀ b, (∃ o, s₁.heap.get? b = some o) → b ≠ I := fun b ⟨o, e⟩ q => by rw [q, nI] at e; cases e
  have hI₀ : h₀.get? I = Option.none := by
    cases e : h₀.get? I with
    | none => rfl
    | some o => exact absurd rfl (notNew I ⟨o, sr₁.kept _ _ e⟩)
  have ownOld : ∀ b, Own env b → ∃ o, s₁.heap.get? b = some o := fun b hb => by
    rcases hb with rfl | ⟨z, hz⟩
    · obtain ⟨m, ⟨o, _, _, e, _⟩, _⟩ := a₁.er.ns; exact ⟨o, e⟩
    · obtain ⟨u, o, e, _⟩ := a₁.er.cell z b hz; exact ⟨o, e⟩
  have hIo : ¬ Own env I := fun hb => notNew I (ownOld I hb) rfl
  have hIβ : I ∉ β₁ := fun hm => notNew I (sr₁.mem hm) rfl
  refine codeAny_forLoop (fun kk s' => ∃ i β' ρ' H', kk = items.length + 1 - i ∧ i ≤ items.length ∧ StepF env β₁ s₁ β' s' ∧ St i s'.heap ∧ I ∉ β' ∧ SR h₀ β' H' s'.heap ∧ ER env ρ' β' s'.heap ∧
      wFor G (fun v ρ' H' k' => wSs C body (ρ'.set y v) H' k' X) (items.drop i) ρ' H' k) ?_ (items.length + 1)
    ⟨0, β₁, ρ, H₁, by omega, by omega, ⟨⟨_, _, rfl⟩, List.prefix_refl _, fun b _ _ => .of fun o e => kI b o e, fun b hb => .inl hb, fun b _ => (KAt.of fun o e => kI b o e).d⟩, st0, hIβ, sr₁.keeps kI, a₁.er.other (.of fun o e => kI _ _ e) (fun _ _ _ => .of fun o e => kI _ _ e), hw⟩
  rintro kk s' ⟨i, β', ρ', H', rfl, hi, tF, hst, hIb, sr', er', hwf⟩
  obtain ⟨h', tk', rfl⟩ := tF.same
  by_cases hlt : i < items.length
  · obtain ⟨v, hv⟩ : ∃ v, items[i]? = some v := ⟨_, List.getElem?_eq_getElem hlt⟩
    have hdrop : items.drop i = v :: items.drop (i + 1) := by
      rw [List.drop_eq_getElem_cons hlt]
      congr 1
      rw [List.getElem?_eq_getElem hlt] at hv; exact Option.some.inj hv
    rw [hdrop] at hwf
    obtain ⟨hG, hstep⟩ := hwf
    refine itr.item i v β' H' _ _ _ hv hst tF.grow sr' hG hIb fun u h₁ tk₁ hvu hst₁ hk₁ => ?_
    have sr₂ : SR h₀ β' H' h₁ := sr'.other fun b o e q => hk₁ b o (by
      rintro rfl
      rcases q with q | ⟨o', q⟩
      · exact hIb q
      · (first | exact clash hI₀ q | exact clash q hI₀ | (rw [hI₀] at q; cases q))) e
    have er₂ : ER env ρ' β' h₁ := er'.other (.of fun o e => hk₁ _ o (fun q => hIo (.inl q.symm)) e) (fun z c hz => .of fun o e => hk₁ _ o (fun q => hIo (.inr ⟨z, q ▸ hz⟩)) e)
    have tF₂ : StepF env β₁ s₁ β' { s₁ with heap := h₁, toks := tk₁ } :=
      ⟨⟨_, _, rfl⟩, tF.grow, fun b hb ho o e => KAt.trans (tF.keep b hb ho) (.of fun o' e' => hk₁ b o' (notNew b ⟨o, e⟩) e') o e, tF.fresh, fun b ho => (tF.own b ho).trans (KAt.of fun o e => hk₁ b o (notNew b (ownOld b ho)) e).d⟩
    have tF0 := (t₁.toF a.at_.er.disj).trans tF₂
    have a₂ : AtS prog w P fs mg mb h₀ n sc env ρ' β' H' { s₁ with heap := h₁, toks := tk₁ } A X E' := a.step tF0 sr₂ er₂
    refine wpAny_assign_Name (store_sound a₂.at_ hl a.sceq a.own hvu fun s₃ t₃ sr₃ er₃ => ?_)
    have a₃ : AtS prog w P fs mg mb h₀ n sc env (ρ'.set y v) β' H' s₃ A X E' := a.step (tF0.trans t₃) sr₃ er₃
    refine wpAny_mono (hB env _ β' H' s₃ A _ X _ a₃ hstep) (fun f s₄ h₄ => ?_) fun e s q => a.pass1 e s q
    obtain ⟨r, β₄, ρ₄, H₄, hk₄, hf, t₄, sr₄, er₄⟩ := h₄
    have t34 := t₃.trans t₄
    have tall := tF₂.trans t34
    have stI : St (i + 1) s₄.heap := itr.stay hst₁ (t34.keep I hIb hIo)
    have hIb₄ : I ∉ β₄ := fun hm => by
      rcases t34.fresh I hm with q | q
      · exact hIb q
      · obtain ⟨o, e⟩ := itr.live _ _ hst₁; have q' : h₁.get? I = Option.none := q; (first | exact clash e q' | exact clash q' e | (rw [e] at q'; cases q'))
    cases r with
    | none =>
      cases hf
      exact ⟨items.length + 1 - (i + 1), by omega, i + 1, β₄, ρ₄, H₄, rfl, by omega, tall, stI, hIb₄, sr₄, er₄ rfl, hk₄⟩
    | some v' =>
      obtain ⟨u', rfl, vr'⟩ := hf
      exact ⟨some v', β₄, ρ₄, H₄, hk₄, ⟨u', rfl, vr'⟩, (t₁.toF a.at_.er.disj).trans tall, sr₄, er₄⟩
  · have hie : i = items.length := by omega
    subst hie
    rw [List.drop_length] at hwf
    obtain ⟨hG, hk⟩ := hwf
    refine itr.done β' H' _ _ _ hst tF.grow sr' hG hIb fun h₁ tk₁ hk₁ => ?_
    have sr₂ : SR h₀ β' H' h₁ := sr'.other fun b o e q => hk₁ b o (by
      rintro rfl
      rcases q with q | ⟨o', q⟩
      · exact hIb q
      · (first | exact clash hI₀ q | exact clash q hI₀ | (rw [hI₀] at q; cases q))) e
    have er₂ : ER env ρ' β' h₁ := er'.other (.of fun o e => hk₁ _ o (fun q => hIo (.inl q.symm)) e) (fun z c hz => .of fun o e => hk₁ _ o (fun q => hIo (.inr ⟨z, q ▸ hz⟩)) e)
    have tF₂ : StepF env β₁ s₁ β' { s₁ with heap := h₁, toks := tk₁ } :=
      ⟨⟨_, _, rfl⟩, tF.grow, fun b hb ho o e => KAt.trans (tF.keep b hb ho) (.of fun o' e' => hk₁ b o' (notNew b ⟨o, e⟩) e') o e, tF.fresh, fun b ho => (tF.own b ho).trans (KAt.of fun o e => hk₁ b o (notNew b (ownOld b ho)) e).d⟩
    exact wpAny_execs_nil ⟨none, β', ρ', H', hk, rfl, (t₁.toF a.at_.er.disj).trans tF₂, sr₂, fun _ => er₂⟩

theorem while_sound (hC : CallOK prog w h₀ fs mg n C.call) (hG : C.glob = P.glob) {sc : Scope} {c : E} {t : Expr} {body : List S} {bd : List Stmt} {pos : Pos} (hm : ME fs sc c t) (hB : SoundSs prog w h₀ P fs mg mb n C sc body bd) :
    SoundS prog w h₀ P fs mg mb n C sc (.while_ c body) (.While t bd [] pos) := by
  intro env ρ β H s A k X E' a hw
  dsimp only [s_assign, s_setItem, s_expr, s_ret, s_retN, s_ite, s_forR, s_forS, s_while, s_raise] at hw
  obtain ⟨N, hN⟩ := hw
  refine wpAny_While (codeAny_whileLoop (fun m s' => ∃ β' ρ' H', StepF env β s β' s' ∧ SR h₀ β' H' s'.heap ∧ ER env ρ' β' s'.heap ∧
      wWhile (fun ρ' H' k' => wE C c ρ' H' (fun v H1 => wB v fun b => k' b H1) X) (fun ρ' H' k' => wSs C body ρ' H' k' X) m ρ' H' k) ?_ N ⟨β, ρ, H, StepF.refl env β s, a.at_.sr, a.at_.er, hN⟩)
  rintro m s' ⟨β', ρ', H', tF, sr', er', hwh⟩
  cases m with
  | zero => exact hwh.elim
  | succ m =>
    simp only [wWhile] at hwh
    have a' : AtS prog w P fs mg mb h₀ n sc env ρ' β' H' s' A X E' := a.step tF sr' er'
    refine wpAny_mono ((sound (mb := mb) hC hG c t sc hm).2 env ρ' β' H' s' A _ _ _ a'.at_ hwh) (fun b s₂ h₂ => ?_) fun e s q => a.pass1 e s q
    obtain ⟨β₂, H₂, hb, t₂, sr₂⟩ := h₂
    have er₂ := er'.step t₂
    have tF₂ := tF.trans (t₂.toF er'.disj)
    cases b with
    | true =>
      simp only [if_true]
      refine wpAny_mono (hB env ρ' β₂ H₂ s₂ A _ X _ (a.step tF₂ sr₂ er₂) (hb.1 rfl)) (fun f s₃ h₃ => ?_) fun e s q => a.pass1 e s q
      obtain ⟨r, β₃, ρ₃, H₃, hk₃, hf, t₃, sr₃, er₃⟩ := h₃
      cases r with
      | none => cases hf; exact ⟨m, by omega, β₃, ρ₃, H₃, tF₂.trans t₃, sr₃, er₃ rfl, hk₃⟩
      | some v' => obtain ⟨u', rfl, vr'⟩ := hf; exact ⟨some v', β₃, ρ₃, H₃, hk₃, ⟨u', rfl, vr'⟩, tF₂.trans t₃, sr₃, er₃⟩
    | false =>
      simp only [Bool.false_eq_true, if_false]
      exact wpAny_execs_nil ⟨none, β₂, ρ', H₂, hb.2 rfl, rfl, tF₂, sr₂, fun _ => er₂⟩

theorem interactive_false {env : PySem.Env} (h : env.scope.kind = .function) : interactive env = false := by
  unfold interactive; rw [h]; rfl

theorem raise_sound {sc : Scope} {env : PySem.Env} {ρ : Env} {β : List Addr} {H : Hp} {s : Shared} {A : Around} {X : XP} {E' : Value → Shared → Prop} {c m : String} {k : Nat} {np kp cp pos : Pos} {Q : Flow → Shared → Prop} (a : AtS prog w P fs mg mb h₀ n sc env ρ β H s A X E')
    (hc : c ∈ fs.excs) (hg : isGlb sc (Str.ofString c) = true) (hx : X c H) : wpAny (model prog w) A (exec (.Raise (some (.Call (.Name (Str.ofString c) np) [.Constant (.str (Str.ofString m)) k kp] [] cp)) none pos) env) Q E' s := by
  obtain ⟨C, O⟩ := a.at_.names.cls c hc
  obtain ⟨hk, hdb⟩ := isGlb_kind hg a.at_.sc
  obtain ⟨bm, N', nm, q, bs, hdct, sn, sub, ab, col, dd, k0, k1, k2, k3, k5, mN, hC, hN, hq, T⟩ := (O.keeps a.at_.sr.kept).obj
  refine wpAny_Raise_call_subT F.excBase_ValueError (nm := nm) (q := q) (C := C) (N := N') (bs := bs) (bm := bm) (hdct := hdct) (sn := sn) (sub := sub) (ab := ab) (col := col) (dd := dd) (k0 := k0) (k1 := k1) (k2 := k2) (k3 := k3) (k5 := k5) (T.tail.hasType rfl) a.at_.amb.handled (backTo_any rfl) (hq _ (.head _)) ?_
  refine name_global a.at_.er.kind a.at_.er.glob (a.at_.names.keeps a.at_.sr.kept).g hk hdb O.bound ⟨rfl, ?_⟩
  refine wpList_args rfl (wpAny_Constant_str ⟨rfl, by show 1 ≤ sizeLine; decide, hC, hN, T.tail, fun h' e hm => ?_⟩)
  obtain ⟨t0, ht, _⟩ := hm.there
  refine a.at_.exc c β H _ (.ref e) hx ((Step.of_heap (s := s) (h := h') (tk := s.toks + 1) hm.keeps).toF a.at_.er.disj) (a.at_.sr.keeps hm.keeps) ⟨e, C, _, _, rfl, O.bound, fun hb => ?_, ?_, hm.new, ht, rfl, rfl, .inl rfl, .inl rfl⟩
  · obtain ⟨o, eo⟩ := a.at_.sr.mem hb
    have := hm.new
    dsimp only at this; (first | exact clash eo this | exact clash this eo | (rw [eo] at this; cases this))
  · cases eo : h₀.get? e with
    | none => rfl
    | some o => have := hm.new; dsimp only at this; (first | exact clash (a.at_.sr.kept _ _ eo) this | exact clash this (a.at_.sr.kept _ _ eo) | (rw [a.at_.sr.kept _ _ eo] at this; cases this))

theorem const_ret {A : Around} {env : PySem.Env} {s : Shared} {n' : Option String} {c : String} {e : E} {x : Expr} {v : V} {pos : Pos} {Q : Flow → Shared → Prop} {E' : Value → Shared → Prop} (hm : MC e x) (hv : hE n' c e = some v)
    (h : ∀ u β tk, VR β v u → Q (.ret u) { s with toks := tk }) : wpAny (model prog w) A (execs [.Return (some x) pos] env) Q E' s := by
  refine wpAny_execs_cons (wpAny_Return_some ?_)
  cases hm with
  | none => simp only [hE] at hv; cases hv; exact wpAny_Constant_none (h _ [] s.toks .none)
  | bool => simp only [hE] at hv; cases hv; exact wpAny_Constant_bool (h _ [] s.toks (.bool _))
  | int => simp only [hE] at hv; cases hv; exact wpAny_Constant_int (h _ [] _ (.int _ _))

theorem MC.const {e : E} {x : Expr} (hm : MC e x) {n' : Option String} {c : String} {v : V} (hv : hE n' c e = some v) {β : List Addr} {u : Value} {β' : List Addr} (h : VR β v u) : VR β' v u := by
  cases hm with
  | none => simp only [hE] at hv; cases hv; cases h; exact .none
  | bool => simp only [hE] at hv; cases hv; cases h; exact .bool _
  | int => simp only [hE] at hv; cases hv; cases h; exact .int _ _

theorem try_sound {sc : Scope} {body : List S} {bd : List Stmt} {hs : List Hd} {xh : ExceptHandler} {xr : List ExceptHandler} {pos : Pos} (hB : SoundSs prog w h₀ P fs mg mb n C sc body bd) (hM : MH fs sc hs (xh :: xr)) :
    SoundS prog w h₀ P fs mg mb n C sc (.try_ body hs) (.Try bd (xh :: xr) [] [] pos) := by
  intro env ρ β H s A k X E' a hw
  rw [s_try] at hw
  have exc : ExcK h₀ mg env β s (fun c H' => wHs c H' k X hs) (fun e s₁ => wpAny (model prog w) A (noteFrame e env) (fun _ s₂ => wpAny (model prog w) A (setFlight e none) (fun _ s₃ => wpAny (model prog w) A (handleBy e env (xh :: xr)) (PS h₀ env β s k) E' s₃) E' s₂) E' s₁) := by
    intro c β' H' s' e hx t sr ex
    obtain ⟨l, hl⟩ := a.top
    obtain ⟨l', hl', fr⟩ := a.at_.frs
    (first | exact clash hl hl' | exact clash hl' hl | (rw [hl] at hl'; cases hl'))
    have live : ∀ b, (∃ o, s.heap.get? b = some o) → ∃ o, s'.heap.get? b = some o := fun b hb => t.live sr hb
    -- the frames, where it was raised
    have fr' : FrOK h₀ (env :: l) β' s'.heap := fun env' he => by
      obtain ⟨a1, L, a2, a3, a4, o, es, ep, a5, a6⟩ := fr env' he
      have hL : L ∉ β' := fun hm => by
        rcases t.fresh L hm with z | z
        · exact a3 z
        · (first | exact clash a5 z | exact clash z a5 | (rw [a5] at z; cases z))
      obtain ⟨o', e1, e2⟩ : ∃ o', s'.heap.get? L = some o' ∧ ∃ es ep, o'.data = .dict es ep := by
        by_cases ho : Own env L
        · obtain ⟨o', e1, e2, _⟩ := t.own L ho o a5; exact ⟨o', e1, e2 ⟨es, ep, a6⟩⟩
        · obtain ⟨o', e1, e2⟩ := t.keep L a3 ho o a5; exact ⟨o', e1, es, ep, e2.data.trans a6⟩
      obtain ⟨es', ep', e2⟩ := e2
      exact ⟨a1, L, a2, hL, a4, o', es', ep', e1, e2⟩
    have common : ∀ {b₀ : Stmt} {np p : Pos} {r : List ExceptHandler}, c ∈ fs.excs → isGlb sc (Str.ofString c) = true →
        (∀ ea h'', (∀ b, (∃ o, s.heap.get? b = some o) → KAt s'.heap h'' b) → SR h₀ β' H' h'' → Landed mg c ea h'' →
          wpAny (model prog w) (A.mark (some (.ref ea))) (execs [b₀] env) (PS h₀ env β s k) (notedBy (model prog w) (A.mark (some (.ref ea))) env (cameBackBy (model prog w) A env E')) { s' with heap := h'' }) →
        wpAny (model prog w) A (noteFrame e env) (fun _ s₂ => wpAny (model prog w) A (setFlight e none) (fun _ s₃ => wpAny (model prog w) A (handleBy e env (.ExceptHandler (some (.Name (Str.ofString c) np)) none [b₀] p :: r)) (PS h₀ env β s k) E' s₃) E' s₂) E' s' := by
      intro b₀ np p r hc hg K
      refine note_exc hl fr' sr live ex fun ea h' eq hk sr' et => ?_
      subst eq
      obtain ⟨C, O⟩ := a.at_.names.cls c hc
      obtain ⟨hkk, hdb⟩ := isGlb_kind hg a.at_.sc
      refine PyProof.Rows.handleBy_own (C := C) (x := Str.ofString c) (bmB := excBm) (newId := "ValueError.__new__") (mg := mg) rfl (name_global a.at_.er.kind a.at_.er.glob (a.at_.names.keeps sr'.kept).g hkk hdb O.bound ⟨rfl, O.keeps sr'.kept, ?_, ?_⟩)
      · obtain ⟨C', ob, _, _, _, _, b1, _, _, _, b5, b6, _⟩ := et
        (first | exact clash O.bound b1 | exact clash b1 O.bound | (rw [O.bound] at b1; cases b1))
        exact ⟨ob, b5, b6⟩
      · exact land_exc sr' et fun h'' hk' sr'' fx => K ea h'' (fun b hb => (hk b hb).trans (hk' b hb)) sr'' fx
    cases hM with
    | @ret c' e' x' hs' np rp p r hc hg hmc =>
      simp only [wHs] at hx
      split at hx
      · rename_i ec
        subst ec
        simp only [wHb] at hx
        split at hx
        · rename_i v hv
          refine common hc hg fun ea h'' hk sr'' _ => const_ret hmc hv fun u β0 tk vr => ?_
          obtain ⟨hs1, tk1, rfl⟩ := t.same
          refine ⟨some v, β', noEnv, H', hx, ⟨u, rfl, hmc.const hv vr⟩, ⟨⟨_, _, rfl⟩, t.grow, fun b hb ho o eo => ?_, t.fresh, fun b ho o eo => ?_⟩, sr'', fun q => by cases q⟩
          · exact KAt.trans (t.keep b hb ho) (hk b ⟨o, eo⟩) o eo
          · exact DAt.trans (t.own b ho) (hk b ⟨o, eo⟩).d o eo
        · exact hx.elim
      · exact hx.elim
  refine wpAny_Try_except (wpAny_mono (hB env ρ β H s A k _ _ ⟨⟨a.at_.names, a.at_.amb, a.at_.sr, a.at_.er, a.at_.sc, a.at_.frs, exc⟩, a.sceq, a.own, a.top, fun _ => PassesOwnAt.looking⟩ hw) (fun f s1 h1 => ?_) fun _ _ e => e)
  obtain ⟨r, β1, ρ1, H1, hk, hf, t1, sr1, er1⟩ := h1
  cases r with
  | none => cases hf; exact wpAny_execs_nil ⟨none, β1, ρ1, H1, hk, rfl, t1, sr1, er1⟩
  | some v => obtain ⟨u, rfl, vr⟩ := hf; exact ⟨some v, β1, ρ1, H1, hk, ⟨u, rfl, vr⟩, t1, sr1, er1⟩

theorem soundSs (hC : CallOK prog w h₀ fs mg n C.call) (hG : C.glob = P.glob) (es : List S) (xs : List Stmt) (sc : Scope) (h : MSs fs sc es xs) : SoundSs prog w h₀ P fs mg mb n C sc es xs := by
  refine MSs.rec (motive_1 := fun e x _ => SoundS prog w h₀ P fs mg mb n C sc e x) (motive_2 := fun es xs _ => SoundSs prog w h₀ P fs mg mb n C sc es xs) ?_ ?_ ?_ ?_ ?_ ?_ ?_ ?_ ?_ ?_ ?_ ?_ ?_ ?_ ?_ ?_ ?_ h
  · intro y e v p pos hl hc h env ρ β H s A k X E' a hw
    dsimp only [s_assign, s_setItem, s_expr, s_ret, s_retN, s_ite, s_forR, s_forS, s_while, s_raise] at hw
    exact assign_plain hl (sound hC hG e v sc h) a hw (swaps_false hc)
  · intro scope elt y x args conds el xs ifs tp gp cp lp p pos hl h2 h4 h8 h5 h6 h7 env ρ β H s A k X E' a hw
    dsimp only [s_assign, s_setItem, s_expr, s_ret, s_retN, s_ite, s_forR, s_forS, s_while, s_raise] at hw
    have hw' := hw
    dsimp only [e_compR] at hw
    exact assign_comp hl (sound hC hG _ _ sc (.compR h2 h4 h8 h5 h6 h7)) a hw' (comp_use a.at_ a.sceq a.own hl (compOk_of h4) (sound hC hG _ _ _ h6).1 (ifs_of (soundAll hC hG _ _ _ h7) h8) range_folded
        (src_range (X := X) (W := fun G items H₁ => wLoop G (compStep C _ _ (fun v _ => some (Env.set ρ _ v)) noX) items [] H₁ (fun acc H5 => k none (ρ.set y (V.ref (List.length H5))) (H5 ++ [O.list acc]))) (soundAll hC hG _ _ sc h5) h5.plain h2 a.at_ hw)) _ rfl
  · intro scope elt src y x conds el it ifs tp lp p pos hl h4 h8 h5 h6 h7 env ρ β H s A k X E' a hw
    dsimp only [s_assign, s_setItem, s_expr, s_ret, s_retN, s_ite, s_forR, s_forS, s_while, s_raise] at hw
    have hw' := hw
    dsimp only [e_compS, t_one, oE_some] at hw
    exact assign_comp hl (sound hC hG _ _ sc (.compS h4 h8 h5 h6 h7)) a hw' (comp_use a.at_ a.sceq a.own hl (compOk_of h4) (sound hC hG _ _ _ h6).1 (ifs_of (soundAll hC hG _ _ _ h7) h8) (folded_of h5)
        (src_seq (X := X) (W := fun G items H₁ => wLoop G (compStep C _ _ (fun v _ => some (Env.set ρ _ v)) noX) items [] H₁ (fun acc H5 => k none (ρ.set y (V.ref (List.length H5))) (H5 ++ [O.list acc]))) (sound hC hG _ _ sc h5) a.at_ hw)) _ rfl
  · intro o i e o' i' v p pos h1 h2 h3
    exact setItem_sound hC hG h1 h2 h3
  · intro o e y o' v p pos hy h1 h2
    exact setAttr_sound hC hG hy h1 h2
  · intro e v p hc h env ρ β H s A k X E' a hw
    dsimp only [s_assign, s_setItem, s_expr, s_ret, s_retN, s_ite, s_forR, s_forS, s_while, s_raise] at hw
    refine wpAny_Expr_any (wpAny_mono ((sound (mb := mb) hC hG e _ sc h).1 env ρ β H s A _ _ E' a.at_ hw) (fun u s1 h1 => ?_) fun _ _ e => e) (interactive_false a.at_.er.kind) (swaps_false hc)
    obtain ⟨β1, v1, H1, hk, t1, sr1, vr1⟩ := h1
    exact ⟨none, β1, ρ, H1, hk, rfl, t1.toF a.at_.er.disj, sr1, fun _ => a.at_.er.step t1⟩
  · intro e v p h env ρ β H s A k X E' a hw
    dsimp only [s_assign, s_setItem, s_expr, s_ret, s_retN, s_ite, s_forR, s_forS, s_while, s_raise] at hw
    refine wpAny_Return_some (wpAny_mono ((sound (mb := mb) hC hG e _ sc h).1 env ρ β H s A _ _ E' a.at_ hw) (fun u s1 h1 => ?_) fun _ _ e => e)
    obtain ⟨β1, v1, H1, hk, t1, sr1, vr1⟩ := h1
    exact ⟨some v1, β1, ρ, H1, hk, ⟨u, rfl, vr1⟩, t1.toF a.at_.er.disj, sr1, fun _ => a.at_.er.step t1⟩
  · intro p env ρ β H s A k X E' a hw
    dsimp only [s_assign, s_setItem, s_expr, s_ret, s_retN, s_ite, s_forR, s_forS, s_while, s_raise] at hw
    exact wpAny_Return_none ⟨some .none, β, ρ, H, hw, ⟨.none, rfl, .none⟩, StepF.refl env β s, a.at_.sr, fun _ => a.at_.er⟩
  · intro c t f te x y p hc h1 h2 hT hF env ρ β H s A k X E' a hw
    dsimp only [s_assign, s_setItem, s_expr, s_ret, s_retN, s_ite, s_forR, s_forS, s_while, s_raise] at hw
    refine wpAny_If (wpAny_mono ((sound (mb := mb) hC hG c _ sc hc).2 env ρ β H s A _ _ E' a.at_ hw) (fun b s1 h1 => ?_) fun _ _ e => e)
    obtain ⟨β1, H1, hb, t1, sr1⟩ := h1
    have er1 := a.at_.er.step t1
    have tF := t1.toF a.at_.er.disj
    cases b with
    | true => exact wpAny_mono (hT env ρ β1 H1 s1 A k X E' (a.step tF sr1 er1) (hb.1 rfl)) (fun _ _ q => q.after tF) fun _ _ e => e
    | false => exact wpAny_mono (hF env ρ β1 H1 s1 A k X E' (a.step tF sr1 er1) (hb.2 rfl)) (fun _ _ q => q.after tF) fun _ _ e => e
  · intro y args body xs bd tp gp cp p h2 h3 h4 h5 hB env ρ β H s A k X E' a hw
    dsimp only [s_assign, s_setItem, s_expr, s_ret, s_retN, s_ite, s_forR, s_forS, s_while, s_raise] at hw
    exact for_sound (X := X) a h2 hB range_folded <| src_range (X := X) (W := fun G items H₁ => wFor G (fun v ρ' H' k' => wSs C body (ρ'.set y v) H' k' X) items ρ H₁ k) (soundAll hC hG args _ sc h4) h4.plain h3 a.at_ hw
  · intro y src body it bd tp p h2 h3 h4 hB env ρ β H s A k X E' a hw
    dsimp only [s_assign, s_setItem, s_expr, s_ret, s_retN, s_ite, s_forR, s_forS, s_while, s_raise] at hw
    exact for_sound (X := X) a h2 hB (folded_of h3) <| src_seq (X := X) (W := fun G items H₁ => wFor G (fun v ρ' H' k' => wSs C body (ρ'.set y v) H' k' X) items ρ H₁ k) (sound hC hG src _ sc h3) a.at_ hw
  · intro c body t bd p h1 h2 hB
    exact while_sound hC hG h1 hB
  · intro x env ρ β H s A k X E' a hw
    exact hw.elim
  · intro c m kk np kp cp p hc hg env ρ β H s A k X E' a hw
    dsimp only [s_assign, s_setItem, s_expr, s_ret, s_retN, s_ite, s_forR, s_forS, s_while, s_raise] at hw
    exact raise_sound a hc hg hw
  · intro body hs b hh r p h1 h2 hB
    exact try_sound hB h2
  · exact fun env ρ β H s A k X E' a hw => wpAny_execs_nil ⟨none, β, ρ, H, hw, rfl, StepF.refl env β s, a.at_.sr, fun _ => a.at_.er⟩
  · intro e es x xs g1 g2 h1 h2 env ρ β H s A k X E' a hw
    rw [ss_cons] at hw
    refine wpAny_execs_cons (wpAny_mono (h1 env ρ β H s A _ X E' a hw) (fun f s1 q => ?_) fun _ _ e => e)
    obtain ⟨r, β1, ρ1, H1, hk, hf, t1, sr1, er1⟩ := q
    cases r with
    | none => cases hf; exact wpAny_mono (h2 env ρ1 β1 H1 s1 A k X E' (a.step t1 sr1 (er1 rfl)) hk) (fun _ _ q => q.after t1) fun _ _ e => e
    | some v => obtain ⟨u, rfl, vr⟩ := hf; exact ⟨some v, β1, ρ1, H1, hk, ⟨u, rfl, vr⟩, t1, sr1, er1⟩

end
end Mine

namespace Mine
open PySem

/-- a def of the text is the mini function -/
structure FnOK (fs : Tab) (pn : List Str) (h₀ : Heap) (fn : Fn) (r : Addr) (o : Obj) (fd : FuncData) (body : List Stmt) : Prop where
  obj : h₀.get? r = some o
  data : o.data = .func fd
  code : h₀.CodeRec fd.code fd.qualname
  bodyEq : fd.body = .stmts body
  clo : fd.closure = []
  glob : fd.globals = mainGlobals
  bltn : fd.builtins = builtinsNs
  kind : fd.scope.kind = .function
  co : fd.scope.isCoroutine = false
  gen : fd.scope.isGenerator = false
  ok : MSs fs fd.scope fn.body body
  pre : ∀ y ∈ pn, fd.scope.names.lookup y = some .local
  bind : ∀ pv us, pn.length = pv.length → fn.params.length = us.length → bindArgs fd ⟨pv ++ us, []⟩ = pure (pn.zip pv ++ (fn.params.map Str.ofString).zip us)
  par : fn.params.all (fun x => isLoc fd.scope (Str.ofString x)) = true
  nodup : fn.params.Nodup
  nofree : fd.scope.names.all (fun x => x.2 != .free) = true

theorem lookup_mem {α β : Type} [BEq α] [LawfulBEq α] {x : α} {v : β} : ∀ {l : List (α × β)}, l.lookup x = some v → (x, v) ∈ l
  | (y, u) :: l, h => by
    rw [List.lookup_cons] at h
    split at h
    · rename_i e; cases h; rw [beq_iff_eq.mp e]; exact List.mem_cons_self
    · exact List.mem_cons_of_mem _ (lookup_mem h)

theorem cells_has : ∀ (l : List (Str × NameKind)) (n : Nat) (acc : List (Str × Addr)) (x : Str), ((x, NameKind.cell) ∈ l ∨ (acc.lookup x).isSome = true) → ((cellsFrom n l acc).lookup x).isSome = true
  | [], _, _, _, h => by rcases h with h | h; · cases h
                         · exact h
  | (y, k) :: l, n, acc, x, h => by
    unfold cellsFrom
    split
    · rename_i hk
      refine cells_has l _ _ x ?_
      rcases h with h | h
      · rcases List.mem_cons.mp h with e | e
        · cases e; right; rw [List.lookup_cons]; simp
        · exact .inl e
      · right; rw [List.lookup_cons]; split; · rfl
        · exact h
    · rename_i hk
      refine cells_has l _ _ x ?_
      rcases h with h | h
      · rcases List.mem_cons.mp h with e | e
        · cases e; exact absurd rfl hk
        · exact .inl e
      · exact .inr h

theorem bindL_not {kk : Str → Option NameKind} {x : Str} : ∀ {l : List (Str × Value)} {m : Str → Option Value}, (∀ p ∈ l, p.1 ≠ x) → bindL kk l m x = m x
  | [], _, _ => rfl
  | (y, v) :: l, m, h => by
    unfold bindL
    rw [bindL_not fun p hp => h p (List.mem_cons_of_mem _ hp)]
    have : x ≠ y := fun e => h _ List.mem_cons_self e.symm
    split
    · exact if_neg this
    · rfl
theorem bindC_not {kk : Str → Option NameKind} {x : Str} : ∀ {l : List (Str × Value)} {m : Str → Option Value}, (∀ p ∈ l, p.1 ≠ x) → bindC kk l m x = m x
  | [], _, _ => rfl
  | (y, v) :: l, m, h => by
    unfold bindC
    rw [bindC_not fun p hp => h p (List.mem_cons_of_mem _ hp)]
    have : x ≠ y := fun e => h _ List.mem_cons_self e.symm
    split
    · rfl
    · exact if_neg this

theorem bindL_app {kk : Str → Option NameKind} : ∀ (l l' : List (Str × Value)) (m : Str → Option Value), bindL kk (l ++ l') m = bindL kk l' (bindL kk l m)
  | [], _, _ => rfl
  | (_, _) :: l, l', m => bindL_app l l' _
theorem bindC_app {kk : Str → Option NameKind} : ∀ (l l' : List (Str × Value)) (m : Str → Option Value), bindC kk (l ++ l') m = bindC kk l' (bindC kk l m)
  | [], _, _ => rfl
  | (_, _) :: l, l', m => bindC_app l l' _
theorem zip_names {ps : List String} {us : List Value} {x : String} (h : x ∉ ps) : ∀ p ∈ (ps.map Str.ofString).zip us, p.1 ≠ Str.ofString x := fun p hp e => by
  have := (List.of_mem_zip hp).1
  obtain ⟨y, hy, ey⟩ := List.mem_map.mp this
  rw [← ey] at e
  exact h (ofString_inj e ▸ hy)

theorem bindL_spec {kk : Str → Option NameKind} {β : List Addr} : ∀ {ps : List String} {vs : List V} {us : List Value} {m : Str → Option Value}, ps.Nodup → VRs β vs us → ∀ x v, bindP ps vs x = some v → kk (Str.ofString x) = some .local →
    ∃ u, bindL kk ((ps.map Str.ofString).zip us) m (Str.ofString x) = some u ∧ VR β v u
  | [], _, _, _, _, _, x, v, h, _ => by unfold bindP at h; cases h
  | _ :: _, [], _, _, _, _, x, v, h, _ => by cases h
  | p :: ps, a :: vs, us, m, nd, hv, x, v, h, hk => by
    cases hv with
    | @cons _ u _ us hu hr =>
      rw [List.nodup_cons] at nd
      show ∃ u', bindL kk ((Str.ofString p, u) :: (ps.map Str.ofString).zip us) m (Str.ofString x) = some u' ∧ VR β v u'
      unfold bindL
      unfold bindP Env.set at h
      by_cases e : x = p
      · subst e
        rw [beq_self_eq_true, cond_true] at h; cases h
        rw [bindL_not (zip_names nd.1), if_pos hk]
        exact ⟨u, by simp, hu⟩
      · rw [beq_eq_false_iff_ne.mpr e, cond_false] at h
        exact bindL_spec nd.2 hr x v h hk

theorem bindC_spec {kk : Str → Option NameKind} {β : List Addr} : ∀ {ps : List String} {vs : List V} {us : List Value} {m : Str → Option Value}, ps.Nodup → VRs β vs us → ∀ x v, bindP ps vs x = some v → kk (Str.ofString x) ≠ some .local →
    ∃ u, bindC kk ((ps.map Str.ofString).zip us) m (Str.ofString x) = some u ∧ VR β v u
  | [], _, _, _, _, _, x, v, h, _ => by unfold bindP at h; cases h
  | _ :: _, [], _, _, _, _, x, v, h, _ => by cases h
  | p :: ps, a :: vs, us, m, nd, hv, x, v, h, hk => by
    cases hv with
    | @cons _ u _ us hu hr =>
      rw [List.nodup_cons] at nd
      show ∃ u', bindC kk ((Str.ofString p, u) :: (ps.map Str.ofString).zip us) m (Str.ofString x) = some u' ∧ VR β v u'
      unfold bindC
      unfold bindP Env.set at h
      by_cases e : x = p
      · subst e
        rw [beq_self_eq_true, cond_true] at h; cases h
        rw [bindC_not (zip_names nd.1), if_neg hk]
        exact ⟨u, by simp, hu⟩
      · rw [beq_eq_false_iff_ne.mpr e, cond_false] at h
        exact bindC_spec nd.2 hr x v h hk

section
variable {prog : Program} {w : World} {h₀ : Heap} {P : Prog} {fs : Tab} {mg mb : Str → Option Value} {n : Nat} {ok : Bool}

theorem run_core (N : Names P fs mg mb h₀) (IH : CallOK prog w h₀ fs mg n (callN P ok n)) {f : String} {fn : Fn} {pn : List Str} {pv : List Value} {r : Addr} {o : Obj} {fd : FuncData} {body : List Stmt} (hfn : P.fn f = some fn) (ok' : FnOK fs pn h₀ fn r o fd body) (hpv : pn.length = pv.length) :
    Runs prog w h₀ mg (n + 1) r pv (callN P ok (n + 1) f) := fun vs H Q X h A β s E us amb sr hv frs exc => by
    have ok := ok'
    obtain ⟨fn', hfn', hlen, h⟩ := oE_ex h
    cases hfn.symm.trans hfn'
    have hlen' : fn.params.length = us.length := hlen.trans hv.length
    have hsize : ∀ b ∈ β, b < s.heap.objs.size := fun b hb => by obtain ⟨o, e⟩ := sr.mem hb; exact Heap.lt_size e
    have hko : ∀ y, (callEnvC fd s.heap.objs.size r).kindOf y = fd.scope.names.lookup y := fun y => rfl
    have hpar : ∀ x ∈ fn.params, fd.scope.names.lookup (Str.ofString x) = some .local ∨ fd.scope.names.lookup (Str.ofString x) = some .cell := fun x hx => by
      have := List.all_eq_true.mp ok.par x hx
      unfold isLoc at this
      split at this
      · rename_i e; exact .inl e
      · rename_i e; exact .inr e
      · cases this
    refine wpAny_call (codeAny_call_cells (binds := pn.zip pv ++ (fn.params.map Str.ofString).zip us) (by have := amb.depth; unfold recursionLimit; omega) (sr.kept _ _ ok.obj) ok.data (N.nolimit.keeps sr.kept) (ok.code.keeps sr.kept) ok.bodyEq (ok.bind pv us hpv hlen') ok.clo (fun x hx => ?_) (fun s₁ x => ?_) ok.co ok.gen ok.kind)
    · rcases List.mem_append.mp hx with hx | hx
      · exact .inl (ok.pre _ (List.of_mem_zip hx).1)
      · have hm := (List.of_mem_zip hx).1
        obtain ⟨y, hy, ey⟩ := List.mem_map.mp hm
        rw [← ey]
        rcases hpar y hy with q | q
        · exact .inl q
        · exact .inr ⟨q, cells_has _ _ _ _ (.inl (lookup_mem q))⟩
    · obtain ⟨h₁, tk, rfl, hkeep⟩ := x.done
      have habove : ∀ y c, (callEnvC fd s.heap.objs.size r).cells.lookup y = some c → s.heap.objs.size < c := fun y c hc => x.above y c (mem_of_lookup hc)
      have er : ER (callEnvC fd s.heap.objs.size r) (bindP fn.params vs) β h₁ := by
        refine ⟨ok.kind, ok.glob, ok.bltn, ⟨_, x.toInCall.ns, fun y v hy hk _ => by rw [bindL_app]; exact bindL_spec ok.nodup hv y v hy hk⟩, fun y c hc => ⟨_, x.cell y c hc⟩, fun y v hy hk => ?_, fun y hk => ?_, fun y z c hy hz => ?_, ?_, fun y c hc => ⟨?_, ?_⟩⟩
        · have hc : fd.scope.names.lookup (Str.ofString y) = some .cell := by
            rcases hk with hk | hk
            · exact hk
            · have := List.all_eq_true.mp ok.nofree _ (lookup_mem hk); simp at this
          obtain ⟨c, hcl⟩ := Option.isSome_iff_exists.mp (cells_has fd.scope.names (s.heap.objs.size + 1) [] _ (.inl (lookup_mem hc)))
          obtain ⟨u, hu, hr⟩ := bindC_spec (kk := (callEnvC fd s.heap.objs.size r).kindOf) (m := bindC (callEnvC fd s.heap.objs.size r).kindOf (pn.zip pv) fun _ => none) ok.nodup hv y v hy (by rw [hko, hc]; decide)
          have xc := x.cell _ c hcl
          rw [bindC_app, hu] at xc
          exact ⟨c, u, hcl, xc, hr⟩
        · have hc : fd.scope.names.lookup y = some .cell := by
            rcases hk with hk | hk
            · exact hk
            · have := List.all_eq_true.mp ok.nofree _ (lookup_mem hk); simp at this
          exact Option.isSome_iff_exists.mp (cells_has fd.scope.names (s.heap.objs.size + 1) [] _ (.inl (lookup_mem hc)))
        · exact name_of_addr x.apart (mem_of_lookup hy) (mem_of_lookup hz)
        · exact fun hm => Nat.lt_irrefl _ (hsize _ hm)
        · exact fun hm => Nat.lt_asymm (habove y c hc) (hsize _ hm)
        · exact Nat.ne_of_gt (habove y c hc)
      have ownBig : ∀ b, Own (callEnvC fd s.heap.objs.size r) b → s.heap.objs.size ≤ b := fun b hb => by
        rcases hb with rfl | ⟨y, hy⟩
        · exact Nat.le_refl _
        · exact Nat.le_of_lt (habove y b hy)
      obtain ⟨l, hl, hfr⟩ := frs
      have top := Around.frames_deeper (env := callEnvC fd s.heap.objs.size r) hl
      have hLnew : h₀.get? s.heap.objs.size = Option.none := by
        cases e : h₀.get? s.heap.objs.size with
        | none => rfl
        | some o => exact absurd (Heap.lt_size (sr.kept _ _ e)) (Nat.lt_irrefl _)
      have fr1 : FrOK h₀ (callEnvC fd s.heap.objs.size r :: l) β h₁ := fun env he => by
        rcases List.mem_cons.mp he with rfl | he
        · obtain ⟨o, es, ep, e1, e2, _⟩ := x.toInCall.ns
          refine ⟨by show fd.scope.kind ≠ .module; rw [ok.kind]; decide, s.heap.objs.size, rfl, fun hm => Nat.lt_irrefl _ (hsize _ hm), hLnew, o, es, ep, e1, e2⟩
        · obtain ⟨a1, L, a2, a3, a4, o, es, ep, a5, a6⟩ := hfr env he
          exact ⟨a1, L, a2, a3, a4, o, es, ep, hkeep _ _ a5, a6⟩
      -- from the call's start to a state of the body
      have stepOf : ∀ {β' : List Addr} {s' : Shared}, StepF (callEnvC fd s.heap.objs.size r) β { s with heap := h₁, toks := tk } β' s' → Step β s β' s' := fun {β' s'} t => by
        obtain ⟨h2, t2, rfl⟩ := t.same
        refine ⟨⟨h2, t2, rfl⟩, t.grow, fun b hb o e => t.keep b hb (fun ho => Nat.not_lt.mpr (ownBig b ho) (Heap.lt_size e)) o (hkeep b o e), fun b hb => ?_⟩
        rcases t.fresh b hb with q | q
        · exact .inl q
        · right
          cases e : s.heap.get? b with
          | none => rfl
          | some o => have := hkeep b o e; (first | exact clash this q | exact clash q this | (rw [this] at q; cases q))
      have excB : ExcK h₀ mg (callEnvC fd s.heap.objs.size r) β { s with heap := h₁, toks := tk } X (fun e s' => wpAny (model prog w) (A.deeper (callEnvC fd s.heap.objs.size r)) (leaving (callEnvC fd s.heap.objs.size r) e) (fun _ s'' => E e s'') (fun e' s'' => E e' s'') s') := by
        intro c β' H' s' e hx t sr' ex
        have fr' : FrOK h₀ (callEnvC fd s.heap.objs.size r :: l) β' s'.heap := fun env he => by
          obtain ⟨a1, L, a2, a3, a4, o, es, ep, a5, a6⟩ := fr1 env he
          have hL : L ∉ β' := fun hm => by
            rcases t.fresh L hm with z | z
            · exact a3 z
            · have z : h₁.get? L = Option.none := z
              (first | exact clash a5 z | exact clash z a5 | (rw [a5] at z; cases z))
          obtain ⟨o', e1, es', ep', e2⟩ : ∃ o', s'.heap.get? L = some o' ∧ ∃ es ep, o'.data = .dict es ep := by
            by_cases ho : Own (callEnvC fd s.heap.objs.size r) L
            · obtain ⟨o', e1, e2, _⟩ := t.own L ho o a5; exact ⟨o', e1, e2 ⟨es, ep, a6⟩⟩
            · obtain ⟨o', e1, e2⟩ := t.keep L a3 ho o a5; exact ⟨o', e1, es, ep, e2.data.trans a6⟩
          exact ⟨a1, L, a2, hL, a4, o', es', ep', e1, e2⟩
        refine leave_exc top fr' sr' (fun b hb => t.live sr' hb) ex fun ea h' eq hk sr'' et => ?_
        subst eq
        have st := stepOf t
        obtain ⟨h2, t2, rfl⟩ := t.same
        have up : ∀ b, (∃ o, s.heap.get? b = some o) → ∃ o, h₁.get? b = some o := fun b ⟨o, e⟩ => ⟨o, hkeep b o e⟩
        refine exc c β' H' _ _ hx ⟨⟨_, _, rfl⟩, st.grow, fun b hb o e => KAt.trans (st.keep b hb) (hk b (up b ⟨o, e⟩)) o e, st.fresh⟩ sr'' (et.at.back fun b _ hn => ?_)
        cases e : s.heap.get? b with
        | none => rfl
        | some o => obtain ⟨o', e'⟩ := up b ⟨o, e⟩; have hn : h₁.get? b = Option.none := hn; (first | exact clash hn e' | exact clash e' hn | (rw [hn] at e'; cases e'))
      have a : AtS prog w P fs mg mb h₀ n fd.scope (callEnvC fd s.heap.objs.size r) (bindP fn.params vs) β H { s with heap := h₁, toks := tk } (A.deeper (callEnvC fd s.heap.objs.size r)) X (fun e s' => wpAny (model prog w) (A.deeper (callEnvC fd s.heap.objs.size r)) (leaving (callEnvC fd s.heap.objs.size r) e) (fun _ s'' => E e s'') (fun e' s'' => E e' s'') s') :=
        ⟨⟨N, ⟨amb.handled, by have := amb.depth; show A.depth + 1 + 2 * n + 1 < 900; omega, by have := amb.units; show A.units + 3 + 20 * n + 10 < 9000; omega⟩, sr.keeps hkeep, er, fun y => rfl, ⟨_, top, fr1⟩, excB⟩, rfl, (fun b hb => by
          cases e : h₀.get? b with
          | none => rfl
          | some o => exact absurd (Heap.lt_size (sr.kept _ _ e)) (Nat.not_lt.mpr (ownBig b hb))), ⟨l, top⟩, fun _ => PassesOwnAt.leaving⟩
      refine wpAny_mono (soundSs (mb := mb) IH rfl fn.body body fd.scope ok.ok _ _ _ _ _ _ _ _ (fun e s' => wpAny (model prog w) (A.deeper (callEnvC fd s.heap.objs.size r)) (leaving (callEnvC fd s.heap.objs.size r) e) (fun _ s'' => E e s'') (fun e' s'' => E e' s'') s') a h) (fun fl s' q => ?_) fun _ _ e => e
      obtain ⟨rv, β', ρ', H', hk, hf, t, sr', er'⟩ := q
      have st : Step β s β' s' := stepOf t
      cases rv with
      | none => cases hf; exact ⟨β', .none, H', hk, st, sr', .none⟩
      | some v => obtain ⟨u, rfl, vr⟩ := hf; exact ⟨β', v, H', hk, st, sr', vr⟩

/-- what stands behind the names -/
structure Backed (P : Prog) (fs : Tab) (mg : Str → Option Value) (h₀ : Heap) : Prop where
  fn : ∀ f ∈ fs.fns, ∃ fn r o fd body, P.fn f = some fn ∧ mg (Str.ofString f) = some (.ref r) ∧ FnOK fs [] h₀ fn r o fd body
  init : ∀ c ∈ fs.cls, ∃ fn r o fd body, P.fn (c ++ ".__init__") = some fn ∧ (∀ r', InitAt mg h₀ c r' → r' = r) ∧ FnOK fs ["self"] h₀ fn r o fd body
  meth : ∀ cm ∈ fs.meths, ∃ fn r o fd body, P.fn (cm.1 ++ "." ++ cm.2) = some fn ∧ (∀ r', MethAt mg h₀ cm.1 cm.2 r' → r' = r) ∧ FnOK fs [] h₀ fn r o fd body

theorem callOK (N : Names P fs mg mb h₀) (F : Backed P fs mg h₀) : ∀ n, CallOK prog w h₀ fs mg n (callN P ok n)
  | 0 => ⟨fun _ _ _ _ _ _ _ _ h => h.elim, fun _ _ _ _ _ _ _ _ _ h => h.elim, fun _ _ _ _ _ _ _ _ h => h.elim⟩
  | n + 1 => ⟨fun f hf r hr => by
      obtain ⟨fn, r', o, fd, body, hfn, hr', ok'⟩ := F.fn f hf
      cases hr.symm.trans hr'
      exact run_core N (callOK N F n) hfn ok' rfl, fun c hc r hr x => by
      obtain ⟨fn, r', o, fd, body, hfn, hr', ok'⟩ := F.init c hc
      cases hr' r hr
      exact run_core N (callOK N F n) hfn ok' rfl, fun cm hc r hr => by
      obtain ⟨fn, r', o, fd, body, hfn, hr', ok'⟩ := F.meth cm hc
      cases hr' r hr
      exact run_core N (callOK N F n) hfn ok' rfl⟩
end
end Mine

namespace Mine
open PySem PySem.Calls PyProof.Rows

theorem zip_lookup : ∀ {ns : List Str} {us : List Value}, ns.Nodup → ns.length = us.length → ns.filterMap (fun n => ((ns.zip us).lookup n).map (n, ·)) = ns.zip us ∧ ns.filter (fun n => ((ns.zip us).lookup n).isNone) = []
  | [], [], _, _ => ⟨rfl, rfl⟩
  | n :: ns, u :: us, nd, hl => by
    rw [List.nodup_cons] at nd
    obtain ⟨h1, h2⟩ := zip_lookup nd.2 (by simpa using hl)
    have e : ∀ m ∈ ns, (List.zip (n :: ns) (u :: us)).lookup m = (ns.zip us).lookup m := fun m hm => by
      rw [List.zip_cons_cons, List.lookup_cons]
      have : (m == n) = false := beq_eq_false_iff_ne.mpr (by rintro rfl; exact nd.1 hm)
      rw [this]
    have e0 : (List.zip (n :: ns) (u :: us)).lookup n = some u := by rw [List.zip_cons_cons, List.lookup_cons]; simp
    constructor
    · rw [List.filterMap_cons, e0]
      show (n, u) :: _ = _
      have q : ∀ l : List Str, (∀ m ∈ l, m ∈ ns) → l.filterMap (fun m => ((List.zip (n :: ns) (u :: us)).lookup m).map (m, ·)) = l.filterMap (fun m => ((ns.zip us).lookup m).map (m, ·)) := by
        intro l
        induction l with
        | nil => intro _; rfl
        | cons a l ih => intro hl; rw [List.filterMap_cons, List.filterMap_cons, e a (hl a List.mem_cons_self), ih fun m hm => hl m (List.mem_cons_of_mem _ hm)]
      rw [q ns fun _ h => h, h1]; rfl
    · rw [List.filter_cons, e0]
      show List.filter _ ns = _
      rw [List.filter_congr (q := fun n => ((ns.zip us).lookup n).isNone) fun m hm => by rw [e m hm], h2]
  | [], _ :: _, _, h => by simp at h
  | _ :: _, [], _, h => by simp at h

theorem bind_plain {fd : FuncData} {ns : List Str} {us : List Value} (h1 : fd.params.posonlyargs = []) (h2 : fd.params.kwonlyargs = []) (h3 : fd.params.vararg = none) (h4 : fd.params.kwarg = none) (h5 : fd.params.args.map (·.arg) = ns) (h6 : fd.defaults = .none)
    (nd : ns.Nodup) (hl : ns.length = us.length) : bindArgs fd ⟨us, []⟩ = pure (ns.zip us) := by
  obtain ⟨z1, z2⟩ := zip_lookup nd hl
  obtain ⟨name, qualname, params, body, scope, globals, closure, defaults, kwdefaults, doc, pyModule, annotations, code, closureTuple, builtins⟩ := fd
  obtain ⟨po, ar, va, ko, kd, kw, df⟩ := params
  dsimp only at h1 h2 h3 h4 h5 h6
  subst h1 h2 h3 h4 h5 h6
  unfold bindArgs
  dsimp only [List.map_nil, List.nil_append, List.append_nil]
  rw [List.forIn_nil, pure_bind, show seqItems? Value.none = pure none from rfl, pure_bind]
  dsimp only [Option.getD_none, List.length_nil, Nat.sub_zero, List.drop_nil, Nat.sub_self]
  rw [if_neg (by simp [hl])]
  rw [if_neg (by simp only [List.map_nil, List.nil_append, List.drop_nil, List.length_nil, Nat.sub_zero, List.take_length, z2]; decide)]
  simp only [List.map_nil, List.nil_append, List.drop_nil, List.length_nil, Nat.sub_zero, List.zip_nil_right, List.forIn_nil, pure_bind, List.isEmpty_nil, Bool.not_true, Bool.false_eq_true, if_false, List.append_nil, z1]

noncomputable def fnCheck (fs : Tab) (fn : Fn) (d : DefRec) : Bool :=
  d.params.posonlyargs.isEmpty && d.params.kwonlyargs.isEmpty && d.params.vararg.isNone && d.params.kwarg.isNone && (d.params.args.map (·.arg) == fn.params.map Str.ofString) && decide (d.scope.kind = .function) && !d.scope.isCoroutine && !d.scope.isGenerator &&
  d.scope.names.all (fun x => x.2 != .free) && fn.params.all (fun x => isLoc d.scope (Str.ofString x)) && decide fn.params.Nodup && (chkSs fs d.scope fn.body d.body).isSome
noncomputable def progCheck (p : Program) (fs : Tab) (P : Prog) : Bool := fs.fns.all fun f => match P.fn f with
  | some fn => (recsOf p).any fun d => d.name == Str.ofString f && fnCheck fs fn d
  | none => false

theorem nodup_map {l : List String} (h : l.Nodup) : (l.map Str.ofString).Nodup := by
  induction l with
  | nil => simp
  | cons a l ih =>
    rw [List.nodup_cons] at h
    rw [List.map_cons, List.nodup_cons]
    refine ⟨fun hm => ?_, ih h.2⟩
    obtain ⟨b, hb, e⟩ := List.mem_map.mp hm
    exact h.1 (ofString_inj e ▸ hb)

theorem fns_of_top {p : Program} {loose : List Str} {mean : ExcName → Option Value} {mg mb : Str → Option Value} {h : Heap} {fs : Tab} {P : Prog} (T : Top p loose mean mg mb h) (ok : progCheck p fs P = true) :
    ∀ f ∈ fs.fns, ∃ fn r o fd body, P.fn f = some fn ∧ mg (Str.ofString f) = some (.ref r) ∧ FnOK fs [] h fn r o fd body := by
  intro f hf
  have := List.all_eq_true.mp ok f hf
  split at this
  · rename_i fn hfn
    obtain ⟨d, hd, hc⟩ := List.any_eq_true.mp this
    simp only [Bool.and_eq_true, fnCheck, decide_eq_true_eq, List.isEmpty_iff, Option.isNone_iff_eq_none, Bool.not_eq_true'] at hc
    obtain ⟨hn, ⟨⟨⟨⟨⟨⟨⟨⟨⟨⟨⟨c1, c2⟩, c3⟩, c4⟩, c5⟩, c6⟩, c7⟩, c8⟩, c9⟩, c10⟩, c11⟩, c12⟩⟩ := hc
    obtain ⟨a, o, pm, code, doc, e1, e2, e3, e4⟩ := T.fn d hd
    have hn := beq_iff_eq.mp hn
    refine ⟨fn, a, o, _, d.body, hfn, hn ▸ e1, e2, e3, e4, rfl, rfl, rfl, rfl, c6, c7, c8, (Option.get _ c12).down, (fun _ hy => by cases hy), fun pv us hp hl => ?_, c10, c11, c9⟩
    obtain rfl : pv = [] := List.length_eq_zero_iff.mp hp.symm
    refine bind_plain c1 c2 c3 c4 (beq_iff_eq.mp c5) rfl ?_ (by simpa using hl)
    exact nodup_map c11
  · cases this

theorem MethAt.uniq {mg : Str → Option Value} {h : Heap} {c m : String} {r r' : Addr} (x : MethAt mg h c m r) (y : MethAt mg h c m r') : r' = r := by
  obtain ⟨C, N, mN, o, a, X, b, _⟩ := x
  obtain ⟨C', N', mN', o', a', X', b', _⟩ := y
  cases a.symm.trans a'
  obtain ⟨nm, q, bs, sn, sub, col, dd, k0, k1, k2, k3, k5, e⟩ := X.obj
  obtain ⟨nm', q', bs', sn', sub', col', dd', k0', k1', k2', k3', k5', e'⟩ := X'.obj
  have eN : N = N' := congrArg (fun o : Obj => match o.data with | .cls cd => cd.ns | _ => 0) (Option.some.inj (e.symm.trans e'))
  subst eN
  obtain ⟨o1, es1, ep1, f1, f2, _, f3⟩ := X.ns
  obtain ⟨o2, es2, ep2, g1, g2, _, g3⟩ := X'.ns
  cases f1.symm.trans g1
  have := f2.symm.trans g2
  cases this
  rw [← f3] at b
  rw [← g3] at b'
  cases b.symm.trans b'; rfl

/-- the methods of a class -/
noncomputable def methCheck (fs : Tab) (fn : Fn) (d : MethRec) : Bool :=
  d.params.posonlyargs.isEmpty && d.params.kwonlyargs.isEmpty && d.params.vararg.isNone && d.params.kwarg.isNone && (d.params.args.map (·.arg) == fn.params.map Str.ofString) && decide (d.scope.kind = .function) && !d.scope.isCoroutine && !d.scope.isGenerator &&
  d.scope.names.all (fun x => x.2 != .free) && fn.params.all (fun x => isLoc d.scope (Str.ofString x)) && decide fn.params.Nodup && (chkSs fs d.scope fn.body d.body).isSome
noncomputable def methsCheck (p : Program) (loose : List Str) (fs : Tab) (P : Prog) : Bool := fs.meths.all fun cm => match P.fn (cm.1 ++ "." ++ cm.2) with
  | some fn => (plainsOf p loose).any fun k => k.name == Str.ofString cm.1 && k.meths.any fun m => m.name == Str.ofString cm.2 && methCheck fs fn m
  | none => false
noncomputable def innCheck (p : Program) (loose : List Str) : Bool := (plainsOf p loose).any fun k => k.name == Str.ofString "Inn" && attrNames.all (fun n => k.quiet.contains (Str.ofString n)) && methNames.all fun n => k.meths.any fun m => m.name == Str.ofString n

theorem meths_of_top {p : Program} {loose : List Str} {mg : Str → Option Value} {h : Heap} {fs : Tab} {P : Prog} (T : TopC p loose mg h) (ok : methsCheck p loose fs P = true) :
    ∀ cm ∈ fs.meths, ∃ fn r o fd body, P.fn (cm.1 ++ "." ++ cm.2) = some fn ∧ MethAt mg h cm.1 cm.2 r ∧ FnOK fs [] h fn r o fd body := by
  intro cm hc
  have := List.all_eq_true.mp ok cm hc
  split at this
  · rename_i fn hfn
    obtain ⟨k, hk, hk2⟩ := List.any_eq_true.mp this
    rw [Bool.and_eq_true] at hk2
    obtain ⟨hn, hm⟩ := hk2
    obtain ⟨d, hd, hd2⟩ := List.any_eq_true.mp hm
    simp only [Bool.and_eq_true, methCheck, decide_eq_true_eq, List.isEmpty_iff, Option.isNone_iff_eq_none, Bool.not_eq_true'] at hd2
    obtain ⟨hi, ⟨⟨⟨⟨⟨⟨⟨⟨⟨⟨⟨c1, c2⟩, c3⟩, c4⟩, c5⟩, c6⟩, c7⟩, c8⟩, c9⟩, c10⟩, c11⟩, c12⟩⟩ := hd2
    obtain ⟨C, N, mN, e1, PA⟩ := T k hk
    obtain ⟨f, o, pm, cd, doc, m1, m2, m3, m4, m5⟩ := PA.meths d hd
    have hn := beq_iff_eq.mp hn
    have hi := beq_iff_eq.mp hi
    rw [hi] at m1
    refine ⟨fn, f, o, _, d.body, hfn, ⟨C, N, mN, o, hn ▸ e1, PA.cls, m1, m2, m3⟩, m2, m4, m5, rfl, rfl, rfl, rfl, c6, c7, c8, (Option.get _ c12).down, (fun _ hy => by cases hy), fun pv us hp hl => ?_, c10, c11, c9⟩
    obtain rfl : pv = [] := List.length_eq_zero_iff.mp hp.symm
    exact bind_plain (fd := methDef d.name (k.name ++ "." ++ d.name) d.params d.body d.scope pm cd doc) c1 c2 c3 c4 (beq_iff_eq.mp c5) rfl (nodup_map c11) (by simpa using hl)
  · cases this
theorem inn_of_top {p : Program} {loose : List Str} {mg : Str → Option Value} {h : Heap} (T : TopC p loose mg h) (ok : innCheck p loose = true) : InnOk mg h := by
  obtain ⟨k, hk, hk2⟩ := List.any_eq_true.mp ok
  simp only [Bool.and_eq_true] at hk2
  obtain ⟨⟨hn, ha⟩, hm⟩ := hk2
  obtain ⟨C, N, mN, e1, PA⟩ := T k hk
  have hn := beq_iff_eq.mp hn
  refine ⟨C, N, mN, hn ▸ e1, PA.cls, ⟨PA.quiet _ (by unfold ClsRec.quiet; simp), PA.quiet _ (by unfold ClsRec.quiet; simp), PA.quiet _ (by unfold ClsRec.quiet; simp)⟩, fun n hn' => PA.quiet _ ?_, fun m hm' => ?_⟩
  · have := List.all_eq_true.mp ha n hn'
    simpa using this
  · obtain ⟨d, hd, hd2⟩ := List.any_eq_true.mp (List.all_eq_true.mp hm m hm')
    obtain ⟨f, o, pm, cd, doc, m1, m2, m3, m4, m5⟩ := PA.meths d hd
    rw [beq_iff_eq.mp hd2] at m1
    exact ⟨f, o, _, m1, m2, m3, m4⟩
noncomputable def bltNames : List String := ["len", "isinstance", "list", "tuple", "range", "int", "bool", "str", "min", "any", "sum"]
  ++ ["all"]

theorem bltn_mem {x : String} {v : Value} (h : bltn x = some v) : x ∈ bltNames ∧ bootBuiltins (Str.ofString x) = some v := by
  unfold bltn at h
  split at h <;> first | (cases h; exact ⟨by decide, by rfl⟩) | cases h

noncomputable def nameCheck (p : Program) (loose : List Str) : Bool := bltNames.all fun x => let y := Str.ofString x
  !startupNames.contains y && !loose.contains y && !((recsOf p).map (·.name)).contains y && !((litsOf p).map (·.1)).contains y && !((clssOf p loose).map (·.name)).contains y

theorem names_of_top {p : Program} {loose : List Str} {mean : ExcName → Option Value} {mg mb : Str → Option Value} {h : Heap} {fs : Tab} {P : Prog} (T : Top p loose mean mg mb h) (ok : progCheck p fs P = true) (ok2 : nameCheck p loose = true)
    (hg : ∀ x v, P.glob x = some v → ∃ u, mg (Str.ofString x) = some u ∧ VR [] v u) (hc : ∀ c ∈ fs.excs, specOf p (Str.ofString c) = some ("ValueError.__new__", excBm))
    (hI : ∀ c ∈ fs.cls, ∃ r, InitAt mg h c r)
    (hO : InnOk mg h)
    : Names P fs mg mb h := by
  refine ⟨T.g, T.b, T.nolimit, fun x v hx => ?_, hg, fun f hf => ?_, fun c hm => let ⟨C, O, _⟩ := T.ownAt (hc c hm); ⟨C, O⟩, hI
    , hO
    ⟩
  · obtain ⟨hm, hb⟩ := bltn_mem hx
    have := List.all_eq_true.mp ok2 x hm
    simp only [Bool.and_eq_true, Bool.not_eq_true', List.contains_eq_mem, decide_eq_false_iff_not] at this
    obtain ⟨⟨⟨⟨a1, a2⟩, a3⟩, a4⟩, a5⟩ := this
    refine ⟨T.free _ a1 a2 a3 a4 a5, ?_⟩
    rw [T.builtins _ (fun e => a1 (by rw [e]; decide)), hb]
  · obtain ⟨fn, r, o, fd, body, _, nm, ok⟩ := fns_of_top T ok f hf
    exact ⟨r, o, fd, nm, ok.obj, ok.data⟩

theorem frozen_ints {us : List Value} {is : List Int} (h : IntsAre us is) : VRs [] (is.map .int) us := by
  induction h with
  | nil => exact .nil
  | cons n t _ ih => exact .cons (.int n t) ih

end Mine

namespace Mine
open PySem PySem.Calls PyProof.Rows PySem.W

theorem law_call {p prog : Program} {w : World} {loose : List Str} {mean : ExcName → Option Value} {mg mb : Str → Option Value} {s : Shared} {fs : Tab} {P : Prog} {fa a : Addr} {us : List Value} {is : List Int} {E : Value → Shared → Prop} {okb : Bool}
    (T : Top p loose mean mg mb s.heap) (hmg : mg (Str.ofString "law") = some (.ref fa)) (hL : s.heap.IsList a us.toArray) (hI : IntsAre us is) (hlen : is.length ≤ 63) (ok : progCheck p fs P = true) (ok2 : nameCheck p loose = true)
    (hgl : ∀ x v, P.glob x = some v → ∃ u, mg (Str.ofString x) = some u ∧ VR [] v u) (hlaw : "law" ∈ fs.fns) (hcls : ∀ c ∈ fs.excs, specOf p (Str.ofString c) = some ("ValueError.__new__", excBm))
    (hIn : ∀ c ∈ fs.cls, ∃ fn r o fd body, P.fn (c ++ ".__init__") = some fn ∧ InitAt mg s.heap c r ∧ FnOK fs ["self"] s.heap fn r o fd body)
    (hO : InnOk mg s.heap)
    (hMe : ∀ cm ∈ fs.meths, ∃ fn r o fd body, P.fn (cm.1 ++ "." ++ cm.2) = some fn ∧ MethAt mg s.heap cm.1 cm.2 r ∧ FnOK fs [] s.heap fn r o fd body)
    (main : ∀ is : List Int, is.length ≤ 63 → callN P okb 200 "law" [.ref 0] [.frozen (is.map .int)] (fun v _ => v = .bool true) (fun _ _ => False)) :
    wpAny (model prog w) callerA (call (.ref fa) [.ref a]) (fun v s' => v = .bool true ∧ (∀ b o, s.heap.get? b = some o → s'.heap.get? b = some o) ∧ s'.os = s.os ∧ s'.gens = s.gens) E s := by
  have N := names_of_top T ok ok2 hgl hcls
    (fun c hc => let ⟨_, r, _, _, _, _, x, _⟩ := hIn c hc; ⟨r, x⟩)
    hO
  have K : Backed P fs mg s.heap := ⟨fns_of_top T ok, fun c hc => let ⟨fn, r, o, fd, body, a, x, y⟩ := hIn c hc; ⟨fn, r, o, fd, body, a, fun _ z => MethAt.uniq x z, y⟩, fun cm hc => let ⟨fn, r, o, fd, body, a, x, y⟩ := hMe cm hc; ⟨fn, r, o, fd, body, a, fun _ z => x.uniq z, y⟩⟩
  obtain ⟨o, ho, hc, n, hd⟩ := hL
  have hf := frozen_ints hI
  refine wpAny_mono ((callOK (prog := prog) (w := w) N K 200).1 "law" hlaw fa hmg _ _ _ _ (main is hlen) callerA [a] s E [.ref a] ⟨rfl, by decide, by decide⟩ ?_ (.cons (.ref rfl) .nil) ⟨[], rfl, fun _ he => by cases he⟩ fun _ _ _ _ _ hx => hx.elim) (fun v s' q => ?_) fun _ _ e => e
  · refine ⟨fun _ _ e => e, by simp, .cons (.frozen ho hc hd (VRs.mono (List.nil_prefix) hf) ?_) .nil⟩
    rw [List.length_map]; exact Nat.le_trans hlen (by decide)
  · obtain ⟨β', v', H', e, t, sr, vr⟩ := q
    subst e
    cases vr
    obtain ⟨h', tk, rfl⟩ := t.same
    exact ⟨rfl, sr.kept, rfl, rfl⟩

theorem glob_int {p : Program} {loose : List Str} {mean : ExcName → Option Value} {mg mb : Str → Option Value} {h : Heap} (T : Top p loose mean mg mb h) {x : Str} {i : Int} (e : valOf p x = some (.int i)) : ∃ u, mg x = some u ∧ VR [] (.int i) u := by
  obtain ⟨v, hv, hr⟩ := T.const x _ e
  have := hr h
  cases this with
  | int i t => exact ⟨_, hv, .int i t⟩
end Mine

namespace Mine
open PySem

theorem wFor_ind {G : Hp → Prop} {step : V → Env → Hp → SPost → Prop} {k : SPost} (I : List V → Env → Hp → Prop)
    (hstep : ∀ v rest ρ H, I (v :: rest) ρ H → G H ∧ ∀ k' : SPost, (∀ ρ' H', I rest ρ' H' → k' none ρ' H') → (∀ r ρ' H', k (some r) ρ' H' → k' (some r) ρ' H') → step v ρ H k')
    (hend : ∀ ρ H, I [] ρ H → G H ∧ k none ρ H) : ∀ {vs : List V} {ρ : Env} {H : Hp}, I vs ρ H → wFor G step vs ρ H k
  | [], ρ, H, h => by unfold wFor; exact hend ρ H h
  | v :: vs, ρ, H, h => by
    unfold wFor
    obtain ⟨g, hs⟩ := hstep v vs ρ H h
    exact ⟨g, hs _ (fun ρ' H' hI => wFor_ind I hstep hend hI) fun r ρ' H' hk => hk⟩

theorem wLoop_ind {G : Hp → Prop} {step : V → Hp → (Option V → Hp → Prop) → Prop} {k : List V → Hp → Prop} (I : List V → List V → Hp → Prop)
    (hstep : ∀ v rest acc H, I (v :: rest) acc H → G H ∧ ∀ k' : Option V → Hp → Prop, (∀ u H', I rest (acc ++ [u]) H' → k' (some u) H') → (∀ H', I rest acc H' → k' none H') → step v H k')
    (hend : ∀ acc H, I [] acc H → G H ∧ k acc H) : ∀ {vs acc : List V} {H : Hp}, I vs acc H → wLoop G step vs acc H k
  | [], acc, H, h => by unfold wLoop; exact hend acc H h
  | v :: vs, acc, H, h => by
    unfold wLoop
    obtain ⟨g, hs⟩ := hstep v vs acc H h
    exact ⟨g, hs _ (fun u H' hI => wLoop_ind I hstep hend hI) fun H' hI => wLoop_ind I hstep hend hI⟩

theorem wWhile_ind {test : Env → Hp → (Bool → Hp → Prop) → Prop} {body : Env → Hp → SPost → Prop} {k : SPost} (I : Nat → Env → Hp → Prop)
    (hstep : ∀ m ρ H, I m ρ H → ∀ k' : SPost, (∀ m' ρ' H', m' < m → I m' ρ' H' → k' none ρ' H') → (∀ r ρ' H', k (some r) ρ' H' → k' (some r) ρ' H') → test ρ H fun b H1 => wIf b (body ρ H1 k') (k none ρ H1)) :
    ∀ {n m : Nat} {ρ : Env} {H : Hp}, m < n → I m ρ H → wWhile test body n ρ H k
  | 0, _, _, _, hm, _ => absurd hm (Nat.not_lt_zero _)
  | n + 1, m, ρ, H, hm, h => by
    unfold wWhile
    exact hstep m ρ H h _ (fun m' ρ' H' hl hI => wWhile_ind I hstep (by omega) hI) fun r ρ' H' hk => hk
theorem wWhile_ex {test : Env → Hp → (Bool → Hp → Prop) → Prop} {body : Env → Hp → SPost → Prop} {k : SPost} (I : Nat → Env → Hp → Prop) {m : Nat} {ρ : Env} {H : Hp} (h : I m ρ H)
    (hstep : ∀ m ρ H, I m ρ H → ∀ k' : SPost, (∀ m' ρ' H', m' < m → I m' ρ' H' → k' none ρ' H') → (∀ r ρ' H', k (some r) ρ' H' → k' (some r) ρ' H') → test ρ H fun b H1 => wIf b (body ρ H1 k') (k none ρ H1)) :
    ∃ n, wWhile test body n ρ H k := ⟨m + 1, wWhile_ind I hstep (Nat.lt_succ_self m) h⟩

theorem pre_get {H H' : Hp} (hp : H <+: H') {a : Nat} {o : O} (h : H[a]? = some o) : H'[a]? = some o := by
  obtain ⟨t, rfl⟩ := hp
  rw [List.getElem?_append_left (List.getElem?_eq_some_iff.mp h).1]; exact h
theorem pre_new (H : Hp) (o : O) : H <+: H ++ [o] := List.prefix_append _ _
theorem get_new (H : Hp) (o : O) : (H ++ [o])[H.length]? = some o := by simp

theorem seqOf_list {H : Hp} {a : Nat} {xs : List V} (h : H[a]? = some (.list xs)) : seqOf H a = some xs := by unfold seqOf; rw [h]

theorem wIf_t {p q : Prop} : wIf true p q = p := by unfold wIf; simp
theorem wIf_f {p q : Prop} : wIf false p q = q := by unfold wIf; simp


theorem wSs_step {C : Ctx} {s : S} {ss : List S} {ρ : Env} {H : Hp} {k : SPost} {X : SXP} (h : ∀ K : SPost, (∀ ρ' H', wSs C ss ρ' H' k X → K none ρ' H') → (∀ v ρ' H', k (some v) ρ' H' → K (some v) ρ' H') → wS C s ρ H K X) : wSs C (s :: ss) ρ H k X := by
  rw [ss_cons]
  exact h _ (fun _ _ q => q) fun _ _ _ q => q

theorem add_ii (H : Hp) (i j : Int) : addV (.int i) (.int j) H = some (.int (i + j), H) := rfl
theorem less_ii (H : Hp) (i j : Int) : lessV H (.int i) (.int j) = some (decide (i < j)) := rfl
theorem dq_ii (i j : Int) : PyData.eqv (.int i) (.int j) = (i == j) := rfl
theorem dq_nn : PyData.eqv .none .none = true := rfl
theorem dq_in (i : Int) : PyData.eqv (.int i) .none = false := rfl
theorem dq_ni (i : Int) : PyData.eqv .none (.int i) = false := rfl
theorem dq_bb (i j : Bool) : PyData.eqv (.bool i) (.bool j) = (i == j) := rfl
theorem dq_ss (x y : Str) : PyData.eqv (.str x) (.str y) = (x == y) := rfl
theorem dq_ll (x y : List PyData) : PyData.eqv (.list x) (.list y) = PyData.eqvAll x y := rfl
theorem dq_tt (x y : List PyData) : PyData.eqv (.tuple x) (.tuple y) = PyData.eqvAll x y := rfl
theorem da_nn : PyData.eqvAll [] [] = true := rfl
theorem da_cc (x y : PyData) (xs ys : List PyData) : PyData.eqvAll (x :: xs) (y :: ys) = (PyData.eqv x y && PyData.eqvAll xs ys) := rfl
theorem da_nc (y : PyData) (ys : List PyData) : PyData.eqvAll [] (y :: ys) = false := rfl
theorem da_cn (y : PyData) (ys : List PyData) : PyData.eqvAll (y :: ys) [] = false := rfl
theorem cl_n : PyData.canLay0 .none = true := rfl
theorem cl_b (b : Bool) : PyData.canLay0 (.bool b) = true := rfl
theorem cl_i (i : Int) : PyData.canLay0 (.int i) = true := rfl
theorem cl_s (x : Str) : PyData.canLay0 (.str x) = PyData.strOk x := rfl
theorem cl_l (x : List PyData) : PyData.canLay0 (.list x) = PyData.canLayAll0 x := rfl
theorem cl_t (x : List PyData) : PyData.canLay0 (.tuple x) = PyData.canLayAll0 x := rfl
theorem ca_n : PyData.canLayAll0 [] = true := rfl
theorem ca_c (x : PyData) (xs : List PyData) : PyData.canLayAll0 (x :: xs) = (PyData.canLay0 x && PyData.canLayAll0 xs) := rfl
theorem rd_n {n : Nat} {H : Hp} : readD n H .none = some .none := by cases n <;> rfl
theorem rd_b {n : Nat} {H : Hp} {b : Bool} : readD n H (.bool b) = some (.bool b) := by cases n <;> rfl
theorem rd_i {n : Nat} {H : Hp} {i : Int} : readD n H (.int i) = some (.int i) := by cases n <;> rfl
theorem rd_s {n : Nat} {H : Hp} {x : Str} : readD n H (.str x) = some (.str x) := by cases n <;> rfl
theorem rd_r {n : Nat} {H : Hp} {a : Nat} : readD (n + 1) H (.ref a) = match H[a]? with
    | some (.list xs) => (xs.mapM (readD n H)).map .list
    | some (.frozen xs) => (xs.mapM (readD n H)).map .list
    | some (.tuple xs) => (xs.mapM (readD n H)).map .tuple
    | _ => none := rfl
theorem eqD_of {H : Hp} {a b : V} {x y : PyData} (ha : readD 8 H a = some x) (hb : readD 8 H b = some y) (cx : x.canLay0 = true) (cy : y.canLay0 = true) : eqD H a b = some (PyData.eqv x y) := by
  unfold eqD; rw [ha, hb]; show (if (x.canLay0 && y.canLay0) = true then _ else _) = _; rw [cx, cy]; rfl
theorem eqD_ii (H : Hp) (i j : Int) : eqD H (.int i) (.int j) = some (i == j) := eqD_of rd_i rd_i rfl rfl
theorem eqD_in (H : Hp) (i : Int) : eqD H (.int i) .none = some false := eqD_of rd_i rd_n rfl rfl
theorem eqD_ni (H : Hp) (i : Int) : eqD H .none (.int i) = some false := eqD_of rd_n rd_i rfl rfl
theorem eqD_nn (H : Hp) : eqD H .none .none = some true := eqD_of rd_n rd_n rfl rfl
theorem eqD_bb (H : Hp) (i j : Bool) : eqD H (.bool i) (.bool j) = some (i == j) := eqD_of rd_b rd_b rfl rfl
theorem is_int (i : Int) : isSame (.int i) .none = some false := by simp [isSame]
theorem is_none : isSame .none .none = some true := by simp [isSame]
theorem is_bool (b : Bool) : isSame (.bool b) .none = some false := by simp [isSame]

theorem mapM_asInt : ∀ (is : List Int), (is.map V.int).mapM asInt = some is
  | [] => rfl
  | i :: is => by rw [List.map_cons, List.mapM_cons, mapM_asInt is]; rfl

theorem mapM_read (n : Nat) (H : Hp) : ∀ (is : List Int), (is.map V.int).mapM (readD n H) = some (is.map PyData.int)
  | [] => rfl
  | i :: is => by rw [List.map_cons, List.mapM_cons, mapM_read n H is]; cases n <;> rfl

theorem canLay_ints : ∀ (is : List Int), PyData.canLayAll0 (is.map PyData.int) = true
  | [] => rfl
  | i :: is => by rw [List.map_cons, ca_c, canLay_ints is]; rfl

theorem inD_ints (H : Hp) (x : Int) (is : List Int) : inD H (.int x) (is.map .int) = some (decide (x ∈ is)) := by
  unfold inD
  rw [mapM_read]
  simp only [rd_n, rd_b, rd_i, rd_s, rd_r, canLay_ints, cl_n, cl_b, cl_i, cl_s, cl_l, cl_t, Bool.and_self, if_true, Option.some.injEq]
  rw [List.any_map]
  induction is with
  | nil => rfl
  | cons i is ih =>
    rw [List.any_cons, ih]
    simp only [Function.comp, dq_ii, dq_nn, dq_in, dq_ni, dq_bb, dq_ss, dq_ll, dq_tt, List.mem_cons]
    by_cases e : i = x
    · subst e; simp
    · have : x ≠ i := fun q => e q.symm
      simp [e, this]

/-- a list of whole numbers -/
noncomputable def LI (H : Hp) (a : Nat) (is : List Int) : Prop := H[a]? = some (.list (is.map .int))
theorem LI.pre {H H' : Hp} {a : Nat} {is : List Int} (h : LI H a is) (hp : H <+: H') : LI H' a is := pre_get hp h
theorem LI.mem {H : Hp} {a : Nat} {is : List Int} (h : LI H a is) (x : Int) : Mine.mem H (.int x) (.ref a) = some (decide (x ∈ is)) := by
  exact (mem_ref h).trans (inD_ints H x is)
theorem LI.seq {H : Hp} {a : Nat} {is : List Int} (h : LI H a is) : seqOf H a = some (is.map .int) := seqOf_list h
theorem normIdx_nat {i n : Nat} (h : i < n) : normIdx (i : Int) n = some i := by
  unfold normIdx
  have e : ¬ (i : Int) < 0 := by omega
  simp only [e, if_false]
  rw [if_pos ⟨by omega, by omega⟩]
  simp
theorem setAt_nat {xs : List V} {i : Nat} (h : i < xs.length) (v : V) : setAtV xs (i : Int) v = some (xs.set i v) := by
  unfold setAtV
  rw [if_pos ⟨by omega, by omega⟩]; simp
theorem set_seq {H : Hp} {a : Nat} {xs : List V} {i : Nat} (h : H[a]? = some (.list xs)) (hi : i < xs.length) (v : V) : setV (.ref a) (.int (i : Int)) v H = some (H.set a (.list (xs.set i v))) := by
  simp only [setV, h, setAt_nat hi, Option.map]
theorem item_seq {H : Hp} {a : Nat} {xs : List V} {i : Nat} {v : V} (h : seqOf H a = some xs) (hi : xs[i]? = some v) : itemV (.ref a) (.int (i : Int)) H = some v := by
  unfold itemV
  have hl := (List.getElem?_eq_some_iff.mp hi).1
  simp [h, normIdx_nat hl, hi]
theorem LI.item {H : Hp} {a : Nat} {is : List Int} (h : LI H a is) {i : Nat} {x : Int} (hi : is[i]? = some x) : itemV (.ref a) (.int (i : Int)) H = some (.int x) :=
  item_seq h.seq (by rw [List.getElem?_map, hi]; rfl)

theorem cut_to {α : Type} (xs : List α) (i : Nat) : cut xs none (some (i : Int)) = xs.take i := by
  unfold cut clampIdx
  have e : ¬ (i : Int) < 0 := by omega
  simp only [Option.elim, e, if_false, List.drop_zero, Nat.sub_zero]
  by_cases h : i ≤ xs.length
  · congr 1; omega
  · rw [List.take_of_length_le (by omega), List.take_of_length_le (by omega)]
theorem LI.sliceTo {H : Hp} {a : Nat} {is : List Int} (h : LI H a is) (i : Nat) : sliceV (.ref a) none (some (i : Int)) H = some (.ref H.length, H ++ [.list ((is.take i).map .int)]) := by
  rw [sl_ref h, cut_to, List.map_take]
theorem LI.new (H : Hp) (is : List Int) : LI (H ++ [.list (is.map .int)]) H.length is := get_new H _

/-- a list of lists of whole numbers -/
noncomputable def WH (H : Hp) (w : Nat) (W : List (List Int)) : Prop := ∃ rs : List V, H[w]? = some (.list rs) ∧ All2 (fun r is => ∃ b, r = .ref b ∧ LI H b is) rs W
theorem WH.pre {H H' : Hp} {a : Nat} {W : List (List Int)} (h : WH H a W) (hp : H <+: H') : WH H' a W :=
  let ⟨rs, h1, h2⟩ := h; ⟨rs, pre_get hp h1, h2.mono fun _ _ ⟨b, e, q⟩ => ⟨b, e, q.pre hp⟩⟩
theorem WH.item {H : Hp} {w : Nat} {W : List (List Int)} (h : WH H w W) {i : Nat} {row : List Int} (hi : W[i]? = some row) : ∃ b, itemV (.ref w) (.int (i : Int)) H = some (.ref b) ∧ LI H b row := by
  obtain ⟨rs, h1, h2⟩ := h
  obtain ⟨r, hr, b, rfl, hl⟩ := h2.get' hi
  exact ⟨b, item_seq (seqOf_list h1) hr, hl⟩
theorem WH.len {H : Hp} {w : Nat} {W : List (List Int)} (h : WH H w W) : lenV (.ref w) H = some (W.length : Int) := by
  obtain ⟨rs, h1, h2⟩ := h
  unfold lenV; simp [seqOf_list h1, h2.length]
theorem LI.len {H : Hp} {w : Nat} {W : List Int} (h : LI H w W) : lenV (.ref w) H = some (W.length : Int) := by
  unfold lenV; simp [h.seq]
theorem LI.isList {H : Hp} {w : Nat} {W : List Int} (h : LI H w W) : isInst (.ref w) ["list"] H = some true := by
  unfold LI at h; simp [isInst, isObj, typesOf, h]
theorem WH.isList {H : Hp} {w : Nat} {W : List (List Int)} (h : WH H w W) : isInst (.ref w) ["list"] H = some true := by
  obtain ⟨rs, h1, h2⟩ := h
  simp [isInst, isObj, typesOf, h1]
theorem inst_int (i : Int) (H : Hp) : isInst (.int i) ["int"] H = some true := by simp [isInst, isObj, typesOf]
theorem inst_int_b (i : Int) (H : Hp) : isInst (.int i) ["bool"] H = some false := by simp [isInst, isObj, typesOf]
theorem inst_bool_b (i : Bool) (H : Hp) : isInst (.bool i) ["bool"] H = some true := by simp [isInst, isObj, typesOf]

theorem recvL {H : Hp} {a : Nat} {xs : List V} (h : H[a]? = some (.list xs)) : recvOk .append (.ref a) H = true ∧ recvOk .pop (.ref a) H = true ∧ recvOk .index (.ref a) H = true := by
  simp [recvOk, h]

theorem lim0 : (0 ≤ lim) = True := by simp
theorem lim1 : (0 + 1 ≤ lim) = True := by simp [lim]
theorem lim2 : (0 + 1 + 1 ≤ lim) = True := by simp [lim]
theorem lim3 : (0 + 1 + 1 + 1 ≤ lim) = True := by simp [lim]

noncomputable def rng (n : Nat) : List V := (List.range n).map fun k : Nat => V.int (k : Int)
theorem rangeI_rng (n : Nat) : (rangeI 0 (n : Int) 1).map V.int = rng n := by
  unfold rangeI rng
  rw [List.map_map]
  have : (if (0 : Int) < n then ((n : Int) - 0 - 1) / 1 + 1 else 0).toNat = n := by split <;> omega
  rw [this]
  refine List.map_congr_left fun k _ => ?_
  simp
theorem rng_len (n : Nat) : (rng n).length = n := by simp [rng]
theorem rng_get {n i : Nat} {v : V} (h : (rng n)[i]? = some v) : i < n ∧ v = .int (i : Int) := by
  unfold rng at h
  rw [List.getElem?_map] at h
  obtain ⟨j, hj, rfl⟩ := Option.map_eq_some_iff.mp h
  obtain ⟨hl, e⟩ := List.getElem?_eq_some_iff.mp hj
  simp at hl e; subst e; exact ⟨hl, rfl⟩
theorem range_nat {n : Nat} (h : n ≤ lim) : rangeOf [.int (n : Int)] = some (rangeI 0 (n : Int) 1) := by
  unfold rangeOf; simp [h]

theorem wFor_idx {G : Hp → Prop} {step : V → Env → Hp → SPost → Prop} {k : SPost} {vs : List V} (I : Nat → Env → Hp → Prop) {ρ : Env} {H : Hp} (h0 : I 0 ρ H)
    (hstep : ∀ i v ρ H, vs[i]? = some v → I i ρ H → G H ∧ ∀ k' : SPost, (∀ ρ' H', I (i + 1) ρ' H' → k' none ρ' H') → (∀ r ρ' H', k (some r) ρ' H' → k' (some r) ρ' H') → step v ρ H k')
    (hend : ∀ ρ H, I vs.length ρ H → G H ∧ k none ρ H) : wFor G step vs ρ H k := by
  refine wFor_ind (fun rest ρ H => ∃ i, rest = vs.drop i ∧ i ≤ vs.length ∧ I i ρ H) (fun v rest ρ H h => ?_) (fun ρ H h => ?_) ⟨0, by simp, by simp, h0⟩
  · obtain ⟨i, e, hi, hI⟩ := h
    have hv : vs[i]? = some v := by
      have : (vs.drop i)[0]? = some v := by rw [← e]; rfl
      simpa using this
    obtain ⟨g, hs⟩ := hstep i v ρ H hv hI
    refine ⟨g, fun k' h1 h2 => hs k' (fun ρ' H' hI' => h1 ρ' H' ⟨i + 1, ?_, (List.getElem?_eq_some_iff.mp hv).1, hI'⟩) h2⟩
    have : rest = (v :: rest).drop 1 := rfl
    rw [this, e, List.drop_drop]
  · obtain ⟨i, e, hi, hI⟩ := h
    have : vs.length ≤ i := by
      have := congrArg List.length e
      simp at this; omega
    have : i = vs.length := by omega
    subst this
    exact hend ρ H hI

theorem wLoop_idx {G : Hp → Prop} {step : V → Hp → (Option V → Hp → Prop) → Prop} {k : List V → Hp → Prop} {vs : List V} (I : Nat → List V → Hp → Prop) {H : Hp} (h0 : I 0 [] H)
    (hstep : ∀ i v acc H, vs[i]? = some v → I i acc H → G H ∧ ∀ k' : Option V → Hp → Prop, (∀ u H', I (i + 1) (acc ++ [u]) H' → k' (some u) H') → (∀ H', I (i + 1) acc H' → k' none H') → step v H k')
    (hend : ∀ acc H, I vs.length acc H → G H ∧ k acc H) : wLoop G step vs [] H k := by
  refine wLoop_ind (fun rest acc H => ∃ i, rest = vs.drop i ∧ i ≤ vs.length ∧ I i acc H) (fun v rest acc H h => ?_) (fun acc H h => ?_) ⟨0, by simp, by simp, h0⟩
  · obtain ⟨i, e, hi, hI⟩ := h
    have hv : vs[i]? = some v := by
      have : (vs.drop i)[0]? = some v := by rw [← e]; rfl
      simpa using this
    obtain ⟨g, hs⟩ := hstep i v acc H hv hI
    have hd : rest = vs.drop (i + 1) := by
      have : rest = (v :: rest).drop 1 := rfl
      rw [this, e, List.drop_drop]
    exact ⟨g, fun k' h1 h2 => hs k' (fun u H' hI' => h1 u H' ⟨i + 1, hd, (List.getElem?_eq_some_iff.mp hv).1, hI'⟩) fun H' hI' => h2 H' ⟨i + 1, hd, (List.getElem?_eq_some_iff.mp hv).1, hI'⟩⟩
  · obtain ⟨i, e, hi, hI⟩ := h
    have : vs.length ≤ i := by
      have := congrArg List.length e
      simp at this; omega
    have : i = vs.length := by omega
    subst this
    exact hend acc H hI

theorem wSs_cons {C : Ctx} {s : S} {ss : List S} {ρ : Env} {H : Hp} {k : SPost} {X : SXP} (h : wS C s ρ H (fun r ρ1 H1 => kS r (wSs C ss ρ1 H1 k X) fun v => k (some v) ρ1 H1) X) : wSs C (s :: ss) ρ H k X := h
theorem wSs_nil {C : Ctx} {ρ : Env} {H : Hp} {k : SPost} {X : SXP} (h : k none ρ H) : wSs C [] ρ H k X := h

theorem callN_in {P : Prog} {ok : Bool} {n : Nat} {f : String} {fn : Fn} {vs : List V} {H : Hp} {Q : Post} {X : XP} (h : P.fn f = some fn) (hl : fn.params.length = vs.length)
    (hb : wSs ⟨ok, callN P ok n, P.glob⟩ fn.body (bindP fn.params vs) H (fun r _ H' => Q (r.getD .none) H') X) : callN P ok (n + 1) f vs H Q X := by
  show oE (P.fn f) _
  rw [h]; exact ⟨hl, hb⟩

end Mine
open Mine renaming s_assign → ZA, s_setItem → ZB, s_expr → ZC, s_ret → ZD, s_retN → ZE, s_ite → ZF, s_forR → ZG, s_forS → ZH, s_while → ZI, s_raise → ZJ, s_try → ZK, e_none → ZL, e_bool → ZM, e_int → ZN, e_str → ZO, e_var → ZP, e_glob → ZQ, e_op → ZR, e_mcall → ZS, e_and → ZT, e_or → ZU, e_not → ZV, e_chain → ZW, e_call → ZX, e_compR → ZY, e_compS → ZZ, es_nil → Za, es_cons → Zb, and_nil → Zc, and_cons → Zd, or_nil → Ze, or_cons → Zf, wP → Zg, b_bool → Zh, p_bin → Zi, p_negI → Zj, p_cmpP → Zk, p_len → Zl, p_inst → Zm, p_listP → Zn, p_intP → Zo, p_allP → Zp, p_itemP → Zq, p_slTo → Zr, p_slFrom → Zs, p_slBoth → Zt, p_mkL → Zu, p_mkT → Zv, p_attrP → Zw, p_app → Zx, p_popP → Zy, p_idx → Zz, bin_add → YA, bin_mul → YB, bin_mod → YC, bin_fdiv → YD, cmp_eq → YE, cmp_ne → YF, cmp_lt → YG, cmp_le → YH, cmp_gt → YI, cmp_ge → YJ, cmp_is → YK, cmp_isnt → YL, cmp_in → YM, cmp_out → YN, putNew → YO, t_one → YP, bp_cons → YQ, bp_nil → YR, add_ii → YW, less_ii → YX, oE_some → YY, kS_none → YZ, kS_some → Ya, os_ref → Yb, wIf_t → Yg, wIf_f → Yh, eqD_ii → Yk, eqD_in → Yl, eqD_ni → Ym, eqD_nn → Yn, eqD_bb → Yo, is_int → Yp, is_none → Yq, is_bool → Yr, inst_int → Yt, inst_int_b → Yu, inst_bool_b → Yv, rangeI_rng → Yw, lim0 → Yx, lim1 → Yy, lim2 → Yz, lim3 → XA, ss_nil → XI, ss_cons → XJ, wSs_cons → XK, wSs_nil → XL
open Option renaming map_some → YS, map_none → YT, bind_some → YU, bind_none → YV, getD_some → Yc, getD_none → Yd, elim_some → Ye, elim_none → Yf
open Bool renaming not_true → Yi, not_false → Yj, true_and → XB, false_and → XC, true_or → XD, false_or → XE
open List renaming length_nil → XF, length_cons → XG, length_map → XH

namespace Mine
open PySem
section
variable {P : Prog} {ok : Bool} {n : Nat} {H : Hp} {Q : Post} {X : XP}

theorem s_is_guest (hP : P.fn "is_guest" = some f_is_guest) {i m : Int} (h : Q (.bool (decide (0 ≤ i ∧ i < m))) H) : callN P ok (n + 1) "is_guest" [.int i, .int m] H Q X := by
  (refine callN_in hP rfl ?_; unfold f_is_guest)
  (repeat (first | dsimp only [XI, XJ] | dsimp only [ZA,ZB,ZC,ZD,ZE,ZF,ZG,ZH,ZI,ZJ,ZK,ZL,ZM,ZN,ZO,ZP,ZQ,ZR,ZS,ZT,ZU,ZV,ZW,ZX,ZY,ZZ,Za,Zb,Zc,Zd,Ze,Zf,Zg,Zh,Zi,Zj,Zk,Zl,Zm,Zn,Zo,Zp,Zq,Zr,Zs,Zt,Zu,Zv,Zw,Zx,Zy,Zz,YA,YB,YC,YD,YE,YF,YG,YH,YI,YJ,YK,YL,YM,YN,YO,YP,YQ,YR,Env.set,cond_true,cond_false,String.reduceBEq,YS,YT,YU,YV,YW,YX,YY,YZ,Ya,Yb,Yc,Yd,Ye,Yf] | simp only [Yg,Yh,true_and,Yi,Yj,Yk,Yl,Ym,Yn,Yo,Yp,Yq,Yr,Yt,Yu,Yv,Yw,Yx,Yy,Yz,XA,XB,XC,XD,XE,beq_self_eq_true,reduceIte,reduceCtorEq,↓reduceIte,XF,XG,XH]))
  have key : ∀ b, decide (0 ≤ i ∧ i < m) = b → Q (.bool b) H := fun b e => e ▸ h
  refine ⟨fun h1 => ⟨fun h2 => key _ ?_, fun h2 => key _ ?_⟩, fun h1 => key _ ?_⟩ <;> simp at h1 <;> (try simp at h2) <;> simp <;> omega

structure RowOk (row : List Int) (g m : Int) : Prop where
  low : ∀ x ∈ row, 0 ≤ x ∧ x < m
  ne : g ∉ row
  nodup : row.Nodup
  len : row.length ≤ 6

theorem s_is_row (hP : P.fn "is_row" = some f_is_row) (hP1 : P.fn "is_guest" = some f_is_guest) {r : Nat} {row : List Int} {g m : Int} (hr : LI H r row) (ok : RowOk row g m)
    (h : ∀ H', H <+: H' → Q (.bool true) H') : callN P b (n + 2) "is_row" [.ref r, .int g, .int m] H Q X := by
  have hl : row.length ≤ lim := Nat.le_trans ok.len (by decide)
  (refine callN_in hP rfl ?_; unfold f_is_row)
  (repeat (first | dsimp only [XI, XJ] | dsimp only [ZA,ZB,ZC,ZD,ZE,ZF,ZG,ZH,ZI,ZJ,ZK,ZL,ZM,ZN,ZO,ZP,ZQ,ZR,ZS,ZT,ZU,ZV,ZW,ZX,ZY,ZZ,Za,Zb,Zc,Zd,Ze,Zf,Zg,Zh,Zi,Zj,Zk,Zl,Zm,Zn,Zo,Zp,Zq,Zr,Zs,Zt,Zu,Zv,Zw,Zx,Zy,Zz,YA,YB,YC,YD,YE,YF,YG,YH,YI,YJ,YK,YL,YM,YN,YO,YP,YQ,YR,Env.set,cond_true,cond_false,String.reduceBEq,YS,YT,YU,YV,YW,YX,YY,YZ,Ya,Yb,Yc,Yd,Ye,Yf] | simp only [Yg,Yh,true_and,Yi,Yj,Yk,Yl,Ym,Yn,Yo,Yp,Yq,Yr,Yt,Yu,Yv,Yw,Yx,Yy,Yz,XA,XB,XC,XD,XE,beq_self_eq_true,reduceIte,reduceCtorEq,↓reduceIte,XF,XG,XH, hr.isList, hr.len, range_nat hl]))
  refine wFor_idx (fun i ρ H' => H <+: H' ∧ ρ "row" = some (.ref r) ∧ ρ "guest" = some (.int g) ∧ ρ "many" = some (.int m)) ⟨List.prefix_refl _, rfl, rfl, rfl⟩ (fun i v ρ H' hv hI => ⟨trivial, fun k' h1 h2 => ?_⟩) fun ρ H' hI => ⟨trivial, ?_⟩
  · obtain ⟨hi, rfl⟩ := rng_get hv
    obtain ⟨hp, e1, e2, e3⟩ := hI
    have hr' := hr.pre hp
    obtain ⟨x, hx⟩ : ∃ x, row[i]? = some x := ⟨_, List.getElem?_eq_getElem hi⟩
    (repeat (first | dsimp only [XI, XJ] | dsimp only [ZA,ZB,ZC,ZD,ZE,ZF,ZG,ZH,ZI,ZJ,ZK,ZL,ZM,ZN,ZO,ZP,ZQ,ZR,ZS,ZT,ZU,ZV,ZW,ZX,ZY,ZZ,Za,Zb,Zc,Zd,Ze,Zf,Zg,Zh,Zi,Zj,Zk,Zl,Zm,Zn,Zo,Zp,Zq,Zr,Zs,Zt,Zu,Zv,Zw,Zx,Zy,Zz,YA,YB,YC,YD,YE,YF,YG,YH,YI,YJ,YK,YL,YM,YN,YO,YP,YQ,YR,Env.set,cond_true,cond_false,String.reduceBEq,YS,YT,YU,YV,YW,YX,YY,YZ,Ya,Yb,Yc,Yd,Ye,Yf] | simp only [Yg,Yh,true_and,Yi,Yj,Yk,Yl,Ym,Yn,Yo,Yp,Yq,Yr,Yt,Yu,Yv,Yw,Yx,Yy,Yz,XA,XB,XC,XD,XE,beq_self_eq_true,reduceIte,reduceCtorEq,↓reduceIte,XF,XG,XH, e1, e2, e3, hr'.item hx]))
    refine s_is_guest hP1 ?_
    have hxm := List.mem_of_getElem? hx
    have q1 : decide (0 ≤ x ∧ x < m) = true := by simpa using ok.low x hxm
    have q2 : (x == g) = false := by exact beq_eq_false_iff_ne.mpr (fun e => ok.ne (e ▸ hxm))
    have q3 : decide (x ∈ row.take i) = false := by
      simp only [decide_eq_false_iff_not]
      intro hm
      obtain ⟨j, hj, e⟩ := List.mem_iff_getElem.mp hm
      have hj' : j < i := by simp at hj; omega
      rw [List.getElem_take] at e
      obtain ⟨hi', e'⟩ := List.getElem?_eq_some_iff.mp hx
      exact List.pairwise_iff_getElem.mp ok.nodup j i (by omega) hi' hj' (by rw [e, e'])
    (repeat (first | dsimp only [XI, XJ] | dsimp only [ZA,ZB,ZC,ZD,ZE,ZF,ZG,ZH,ZI,ZJ,ZK,ZL,ZM,ZN,ZO,ZP,ZQ,ZR,ZS,ZT,ZU,ZV,ZW,ZX,ZY,ZZ,Za,Zb,Zc,Zd,Ze,Zf,Zg,Zh,Zi,Zj,Zk,Zl,Zm,Zn,Zo,Zp,Zq,Zr,Zs,Zt,Zu,Zv,Zw,Zx,Zy,Zz,YA,YB,YC,YD,YE,YF,YG,YH,YI,YJ,YK,YL,YM,YN,YO,YP,YQ,YR,Env.set,cond_true,cond_false,String.reduceBEq,YS,YT,YU,YV,YW,YX,YY,YZ,Ya,Yb,Yc,Yd,Ye,Yf] | simp only [Yg,Yh,true_and,Yi,Yj,Yk,Yl,Ym,Yn,Yo,Yp,Yq,Yr,Yt,Yu,Yv,Yw,Yx,Yy,Yz,XA,XB,XC,XD,XE,beq_self_eq_true,reduceIte,reduceCtorEq,↓reduceIte,XF,XG,XH, q1, q2, hr'.item hx, hr'.sliceTo i, (LI.new H' (row.take i)).mem x, q3]))
    refine h1 _ _ ⟨hp.trans (pre_new _ _), ?_⟩
    (repeat (first | dsimp only [XI, XJ] | dsimp only [ZA,ZB,ZC,ZD,ZE,ZF,ZG,ZH,ZI,ZJ,ZK,ZL,ZM,ZN,ZO,ZP,ZQ,ZR,ZS,ZT,ZU,ZV,ZW,ZX,ZY,ZZ,Za,Zb,Zc,Zd,Ze,Zf,Zg,Zh,Zi,Zj,Zk,Zl,Zm,Zn,Zo,Zp,Zq,Zr,Zs,Zt,Zu,Zv,Zw,Zx,Zy,Zz,YA,YB,YC,YD,YE,YF,YG,YH,YI,YJ,YK,YL,YM,YN,YO,YP,YQ,YR,Env.set,cond_true,cond_false,String.reduceBEq,YS,YT,YU,YV,YW,YX,YY,YZ,Ya,Yb,Yc,Yd,Ye,Yf] | simp only [Yg,Yh,true_and,Yi,Yj,Yk,Yl,Ym,Yn,Yo,Yp,Yq,Yr,Yt,Yu,Yv,Yw,Yx,Yy,Yz,XA,XB,XC,XD,XE,beq_self_eq_true,reduceIte,reduceCtorEq,↓reduceIte,XF,XG,XH, e1, e2, e3]))
  · (repeat (first | dsimp only [XI, XJ] | dsimp only [ZA,ZB,ZC,ZD,ZE,ZF,ZG,ZH,ZI,ZJ,ZK,ZL,ZM,ZN,ZO,ZP,ZQ,ZR,ZS,ZT,ZU,ZV,ZW,ZX,ZY,ZZ,Za,Zb,Zc,Zd,Ze,Zf,Zg,Zh,Zi,Zj,Zk,Zl,Zm,Zn,Zo,Zp,Zq,Zr,Zs,Zt,Zu,Zv,Zw,Zx,Zy,Zz,YA,YB,YC,YD,YE,YF,YG,YH,YI,YJ,YK,YL,YM,YN,YO,YP,YQ,YR,Env.set,cond_true,cond_false,String.reduceBEq,YS,YT,YU,YV,YW,YX,YY,YZ,Ya,Yb,Yc,Yd,Ye,Yf] | simp only [Yg,Yh,true_and,Yi,Yj,Yk,Yl,Ym,Yn,Yo,Yp,Yq,Yr,Yt,Yu,Yv,Yw,Yx,Yy,Yz,XA,XB,XC,XD,XE,beq_self_eq_true,reduceIte,reduceCtorEq,↓reduceIte,XF,XG,XH]))
    exact h H' hI.1
end
end Mine

namespace Mine
open PySem

noncomputable def row (W : List (List Int)) (i : Nat) : List Int := W.getD i []
theorem row_get {W : List (List Int)} {i : Nat} (h : i < W.length) : W[i]? = some (row W i) := by
  unfold row; rw [List.getD_eq_getElem?_getD, List.getElem?_eq_getElem h]; rfl

structure WOk (W : List (List Int)) : Prop where
  pos : 1 ≤ W.length
  le : W.length ≤ 6
  rows : ∀ i, i < W.length → RowOk (row W i) i W.length

section
variable {P : Prog} {b : Bool} {n : Nat} {H : Hp} {Q : Post} {X : XP}

theorem s_need_wishes (hP : P.fn "need_wishes" = some f_need_wishes) (hP1 : P.fn "is_row" = some f_is_row) (hP2 : P.fn "is_guest" = some f_is_guest) (hG : P.glob "MOST_GUESTS" = some (.int 6)) {w : Nat} {W : List (List Int)} (hw : WH H w W) (ok : WOk W)
    (h : ∀ H', H <+: H' → Q .none H') : callN P b (n + 3) "need_wishes" [.ref w] H Q X := by
  have l1 := ok.pos
  have l2 := ok.le
  have hl : W.length ≤ lim := Nat.le_trans ok.le (by decide)
  have d1 : decide ((1 : Int) ≤ (W.length : Int)) = true := decide_eq_true (by omega)
  have d2 : decide ((W.length : Int) ≤ 6) = true := decide_eq_true (by omega)
  (refine callN_in hP rfl ?_; unfold f_need_wishes)
  (repeat (first | dsimp only [XI, XJ] | dsimp only [ZA,ZB,ZC,ZD,ZE,ZF,ZG,ZH,ZI,ZJ,ZK,ZL,ZM,ZN,ZO,ZP,ZQ,ZR,ZS,ZT,ZU,ZV,ZW,ZX,ZY,ZZ,Za,Zb,Zc,Zd,Ze,Zf,Zg,Zh,Zi,Zj,Zk,Zl,Zm,Zn,Zo,Zp,Zq,Zr,Zs,Zt,Zu,Zv,Zw,Zx,Zy,Zz,YA,YB,YC,YD,YE,YF,YG,YH,YI,YJ,YK,YL,YM,YN,YO,YP,YQ,YR,Env.set,cond_true,cond_false,String.reduceBEq,YS,YT,YU,YV,YW,YX,YY,YZ,Ya,Yb,Yc,Yd,Ye,Yf] | simp only [Yg,Yh,true_and,Yi,Yj,Yk,Yl,Ym,Yn,Yo,Yp,Yq,Yr,Yt,Yu,Yv,Yw,Yx,Yy,Yz,XA,XB,XC,XD,XE,beq_self_eq_true,reduceIte,reduceCtorEq,↓reduceIte,XF,XG,XH, hw.isList, hw.len, hG, d1, d2, range_nat hl]))
  refine wFor_idx (fun i ρ H' => H <+: H' ∧ ρ "wishes" = some (.ref w)) ⟨List.prefix_refl _, rfl⟩ (fun i v ρ H' hv hI => ⟨trivial, fun k' h1 h2 => ?_⟩) fun ρ H' hI => ⟨trivial, ?_⟩
  · obtain ⟨hi, rfl⟩ := rng_get hv
    obtain ⟨hp, e1⟩ := hI
    have hw' := hw.pre hp
    obtain ⟨a, hit, hli⟩ := hw'.item (row_get hi)
    (repeat (first | dsimp only [XI, XJ] | dsimp only [ZA,ZB,ZC,ZD,ZE,ZF,ZG,ZH,ZI,ZJ,ZK,ZL,ZM,ZN,ZO,ZP,ZQ,ZR,ZS,ZT,ZU,ZV,ZW,ZX,ZY,ZZ,Za,Zb,Zc,Zd,Ze,Zf,Zg,Zh,Zi,Zj,Zk,Zl,Zm,Zn,Zo,Zp,Zq,Zr,Zs,Zt,Zu,Zv,Zw,Zx,Zy,Zz,YA,YB,YC,YD,YE,YF,YG,YH,YI,YJ,YK,YL,YM,YN,YO,YP,YQ,YR,Env.set,cond_true,cond_false,String.reduceBEq,YS,YT,YU,YV,YW,YX,YY,YZ,Ya,Yb,Yc,Yd,Ye,Yf] | simp only [Yg,Yh,true_and,Yi,Yj,Yk,Yl,Ym,Yn,Yo,Yp,Yq,Yr,Yt,Yu,Yv,Yw,Yx,Yy,Yz,XA,XB,XC,XD,XE,beq_self_eq_true,reduceIte,reduceCtorEq,↓reduceIte,XF,XG,XH, e1, hit, hw'.len]))
    refine s_is_row hP1 hP2 hli (ok.rows i hi) fun H'' hp' => ?_
    (repeat (first | dsimp only [XI, XJ] | dsimp only [ZA,ZB,ZC,ZD,ZE,ZF,ZG,ZH,ZI,ZJ,ZK,ZL,ZM,ZN,ZO,ZP,ZQ,ZR,ZS,ZT,ZU,ZV,ZW,ZX,ZY,ZZ,Za,Zb,Zc,Zd,Ze,Zf,Zg,Zh,Zi,Zj,Zk,Zl,Zm,Zn,Zo,Zp,Zq,Zr,Zs,Zt,Zu,Zv,Zw,Zx,Zy,Zz,YA,YB,YC,YD,YE,YF,YG,YH,YI,YJ,YK,YL,YM,YN,YO,YP,YQ,YR,Env.set,cond_true,cond_false,String.reduceBEq,YS,YT,YU,YV,YW,YX,YY,YZ,Ya,Yb,Yc,Yd,Ye,Yf] | simp only [Yg,Yh,true_and,Yi,Yj,Yk,Yl,Ym,Yn,Yo,Yp,Yq,Yr,Yt,Yu,Yv,Yw,Yx,Yy,Yz,XA,XB,XC,XD,XE,beq_self_eq_true,reduceIte,reduceCtorEq,↓reduceIte,XF,XG,XH]))
    exact h1 _ _ ⟨hp.trans hp', by (repeat (first | dsimp only [XI, XJ] | dsimp only [ZA,ZB,ZC,ZD,ZE,ZF,ZG,ZH,ZI,ZJ,ZK,ZL,ZM,ZN,ZO,ZP,ZQ,ZR,ZS,ZT,ZU,ZV,ZW,ZX,ZY,ZZ,Za,Zb,Zc,Zd,Ze,Zf,Zg,Zh,Zi,Zj,Zk,Zl,Zm,Zn,Zo,Zp,Zq,Zr,Zs,Zt,Zu,Zv,Zw,Zx,Zy,Zz,YA,YB,YC,YD,YE,YF,YG,YH,YI,YJ,YK,YL,YM,YN,YO,YP,YQ,YR,Env.set,cond_true,cond_false,String.reduceBEq,YS,YT,YU,YV,YW,YX,YY,YZ,Ya,Yb,Yc,Yd,Ye,Yf] | simp only [Yg,Yh,true_and,Yi,Yj,Yk,Yl,Ym,Yn,Yo,Yp,Yq,Yr,Yt,Yu,Yv,Yw,Yx,Yy,Yz,XA,XB,XC,XD,XE,beq_self_eq_true,reduceIte,reduceCtorEq,↓reduceIte,XF,XG,XH, e1]))⟩
  · (repeat (first | dsimp only [XI, XJ] | dsimp only [ZA,ZB,ZC,ZD,ZE,ZF,ZG,ZH,ZI,ZJ,ZK,ZL,ZM,ZN,ZO,ZP,ZQ,ZR,ZS,ZT,ZU,ZV,ZW,ZX,ZY,ZZ,Za,Zb,Zc,Zd,Ze,Zf,Zg,Zh,Zi,Zj,Zk,Zl,Zm,Zn,Zo,Zp,Zq,Zr,Zs,Zt,Zu,Zv,Zw,Zx,Zy,Zz,YA,YB,YC,YD,YE,YF,YG,YH,YI,YJ,YK,YL,YM,YN,YO,YP,YQ,YR,Env.set,cond_true,cond_false,String.reduceBEq,YS,YT,YU,YV,YW,YX,YY,YZ,Ya,Yb,Yc,Yd,Ye,Yf] | simp only [Yg,Yh,true_and,Yi,Yj,Yk,Yl,Ym,Yn,Yo,Yp,Yq,Yr,Yt,Yu,Yv,Yw,Yx,Yy,Yz,XA,XB,XC,XD,XE,beq_self_eq_true,reduceIte,reduceCtorEq,↓reduceIte,XF,XG,XH]))
    exact h H' hI.1

theorem s_need_guest (hP : P.fn "need_guest" = some f_need_guest) (hP2 : P.fn "is_guest" = some f_is_guest) {w : Nat} {W : List (List Int)} (hw : WH H w W) {i : Nat} (hi : i < W.length) (h : Q .none H) : callN P b (n + 2) "need_guest" [.ref w, .int (i : Int)] H Q X := by
  (refine callN_in hP rfl ?_; unfold f_need_guest)
  (repeat (first | dsimp only [XI, XJ] | dsimp only [ZA,ZB,ZC,ZD,ZE,ZF,ZG,ZH,ZI,ZJ,ZK,ZL,ZM,ZN,ZO,ZP,ZQ,ZR,ZS,ZT,ZU,ZV,ZW,ZX,ZY,ZZ,Za,Zb,Zc,Zd,Ze,Zf,Zg,Zh,Zi,Zj,Zk,Zl,Zm,Zn,Zo,Zp,Zq,Zr,Zs,Zt,Zu,Zv,Zw,Zx,Zy,Zz,YA,YB,YC,YD,YE,YF,YG,YH,YI,YJ,YK,YL,YM,YN,YO,YP,YQ,YR,Env.set,cond_true,cond_false,String.reduceBEq,YS,YT,YU,YV,YW,YX,YY,YZ,Ya,Yb,Yc,Yd,Ye,Yf] | simp only [Yg,Yh,true_and,Yi,Yj,Yk,Yl,Ym,Yn,Yo,Yp,Yq,Yr,Yt,Yu,Yv,Yw,Yx,Yy,Yz,XA,XB,XC,XD,XE,beq_self_eq_true,reduceIte,reduceCtorEq,↓reduceIte,XF,XG,XH, hw.len]))
  refine s_is_guest hP2 ?_
  have : decide ((0 : Int) ≤ (i : Int) ∧ (i : Int) < (W.length : Int)) = true := decide_eq_true (by omega)
  (repeat (first | dsimp only [XI, XJ] | dsimp only [ZA,ZB,ZC,ZD,ZE,ZF,ZG,ZH,ZI,ZJ,ZK,ZL,ZM,ZN,ZO,ZP,ZQ,ZR,ZS,ZT,ZU,ZV,ZW,ZX,ZY,ZZ,Za,Zb,Zc,Zd,Ze,Zf,Zg,Zh,Zi,Zj,Zk,Zl,Zm,Zn,Zo,Zp,Zq,Zr,Zs,Zt,Zu,Zv,Zw,Zx,Zy,Zz,YA,YB,YC,YD,YE,YF,YG,YH,YI,YJ,YK,YL,YM,YN,YO,YP,YQ,YR,Env.set,cond_true,cond_false,String.reduceBEq,YS,YT,YU,YV,YW,YX,YY,YZ,Ya,Yb,Yc,Yd,Ye,Yf] | simp only [Yg,Yh,true_and,Yi,Yj,Yk,Yl,Ym,Yn,Yo,Yp,Yq,Yr,Yt,Yu,Yv,Yw,Yx,Yy,Yz,XA,XB,XC,XD,XE,beq_self_eq_true,reduceIte,reduceCtorEq,↓reduceIte,XF,XG,XH, this]))
  exact h

noncomputable def both (W : List (List Int)) (i j : Nat) : Bool := decide ((j : Int) ∈ row W i) && decide ((i : Int) ∈ row W j)

theorem s_both_wish (hP : P.fn "both_wish" = some f_both_wish) {w : Nat} {W : List (List Int)} (hw : WH H w W) {i j : Nat} (hi : i < W.length) (hj : j < W.length) (h : Q (.bool (both W i j)) H) : callN P b (n + 1) "both_wish" [.ref w, .int (i : Int), .int (j : Int)] H Q X := by
  obtain ⟨a, h1, h2⟩ := hw.item (row_get hi)
  obtain ⟨a', h1', h2'⟩ := hw.item (row_get hj)
  (refine callN_in hP rfl ?_; unfold f_both_wish)
  (repeat (first | dsimp only [XI, XJ] | dsimp only [ZA,ZB,ZC,ZD,ZE,ZF,ZG,ZH,ZI,ZJ,ZK,ZL,ZM,ZN,ZO,ZP,ZQ,ZR,ZS,ZT,ZU,ZV,ZW,ZX,ZY,ZZ,Za,Zb,Zc,Zd,Ze,Zf,Zg,Zh,Zi,Zj,Zk,Zl,Zm,Zn,Zo,Zp,Zq,Zr,Zs,Zt,Zu,Zv,Zw,Zx,Zy,Zz,YA,YB,YC,YD,YE,YF,YG,YH,YI,YJ,YK,YL,YM,YN,YO,YP,YQ,YR,Env.set,cond_true,cond_false,String.reduceBEq,YS,YT,YU,YV,YW,YX,YY,YZ,Ya,Yb,Yc,Yd,Ye,Yf] | simp only [Yg,Yh,true_and,Yi,Yj,Yk,Yl,Ym,Yn,Yo,Yp,Yq,Yr,Yt,Yu,Yv,Yw,Yx,Yy,Yz,XA,XB,XC,XD,XE,beq_self_eq_true,reduceIte,reduceCtorEq,↓reduceIte,XF,XG,XH, h1, h1', h2.mem, h2'.mem]))
  unfold both at h
  refine ⟨fun q => ?_, fun q => ?_⟩
  · rw [q, Bool.true_and] at h
    cases e : decide ((i : Int) ∈ row W j) <;> rw [e] at h <;> (repeat (first | dsimp only [XI, XJ] | dsimp only [ZA,ZB,ZC,ZD,ZE,ZF,ZG,ZH,ZI,ZJ,ZK,ZL,ZM,ZN,ZO,ZP,ZQ,ZR,ZS,ZT,ZU,ZV,ZW,ZX,ZY,ZZ,Za,Zb,Zc,Zd,Ze,Zf,Zg,Zh,Zi,Zj,Zk,Zl,Zm,Zn,Zo,Zp,Zq,Zr,Zs,Zt,Zu,Zv,Zw,Zx,Zy,Zz,YA,YB,YC,YD,YE,YF,YG,YH,YI,YJ,YK,YL,YM,YN,YO,YP,YQ,YR,Env.set,cond_true,cond_false,String.reduceBEq,YS,YT,YU,YV,YW,YX,YY,YZ,Ya,Yb,Yc,Yd,Ye,Yf] | simp only [Yg,Yh,true_and,Yi,Yj,Yk,Yl,Ym,Yn,Yo,Yp,Yq,Yr,Yt,Yu,Yv,Yw,Yx,Yy,Yz,XA,XB,XC,XD,XE,beq_self_eq_true,reduceIte,reduceCtorEq,↓reduceIte,XF,XG,XH])) <;> exact h
  · rw [q, Bool.false_and] at h; exact h

theorem s_law_suits (hP : P.fn "_law_suits" = some f__law_suits) {w : Nat} {W : List (List Int)} (hw : WH H w W) {i j : Nat} (hi : i < W.length) (hj : j < W.length) (h : Q (.bool (both W i j)) H) : callN P b (n + 1) "_law_suits" [.ref w, .int (i : Int), .int (j : Int)] H Q X := by
  obtain ⟨a, h1, h2⟩ := hw.item (row_get hi)
  obtain ⟨a', h1', h2'⟩ := hw.item (row_get hj)
  (refine callN_in hP rfl ?_; unfold f__law_suits)
  (repeat (first | dsimp only [XI, XJ] | dsimp only [ZA,ZB,ZC,ZD,ZE,ZF,ZG,ZH,ZI,ZJ,ZK,ZL,ZM,ZN,ZO,ZP,ZQ,ZR,ZS,ZT,ZU,ZV,ZW,ZX,ZY,ZZ,Za,Zb,Zc,Zd,Ze,Zf,Zg,Zh,Zi,Zj,Zk,Zl,Zm,Zn,Zo,Zp,Zq,Zr,Zs,Zt,Zu,Zv,Zw,Zx,Zy,Zz,YA,YB,YC,YD,YE,YF,YG,YH,YI,YJ,YK,YL,YM,YN,YO,YP,YQ,YR,Env.set,cond_true,cond_false,String.reduceBEq,YS,YT,YU,YV,YW,YX,YY,YZ,Ya,Yb,Yc,Yd,Ye,Yf] | simp only [Yg,Yh,true_and,Yi,Yj,Yk,Yl,Ym,Yn,Yo,Yp,Yq,Yr,Yt,Yu,Yv,Yw,Yx,Yy,Yz,XA,XB,XC,XD,XE,beq_self_eq_true,reduceIte,reduceCtorEq,↓reduceIte,XF,XG,XH, h1, h1', h2.mem, h2'.mem]))
  unfold both at h
  refine ⟨fun q => ?_, fun q => ?_⟩
  · rw [q, Bool.true_and] at h
    cases e : decide ((i : Int) ∈ row W j) <;> rw [e] at h <;> (repeat (first | dsimp only [XI, XJ] | dsimp only [ZA,ZB,ZC,ZD,ZE,ZF,ZG,ZH,ZI,ZJ,ZK,ZL,ZM,ZN,ZO,ZP,ZQ,ZR,ZS,ZT,ZU,ZV,ZW,ZX,ZY,ZZ,Za,Zb,Zc,Zd,Ze,Zf,Zg,Zh,Zi,Zj,Zk,Zl,Zm,Zn,Zo,Zp,Zq,Zr,Zs,Zt,Zu,Zv,Zw,Zx,Zy,Zz,YA,YB,YC,YD,YE,YF,YG,YH,YI,YJ,YK,YL,YM,YN,YO,YP,YQ,YR,Env.set,cond_true,cond_false,String.reduceBEq,YS,YT,YU,YV,YW,YX,YY,YZ,Ya,Yb,Yc,Yd,Ye,Yf] | simp only [Yg,Yh,true_and,Yi,Yj,Yk,Yl,Ym,Yn,Yo,Yp,Yq,Yr,Yt,Yu,Yv,Yw,Yx,Yy,Yz,XA,XB,XC,XD,XE,beq_self_eq_true,reduceIte,reduceCtorEq,↓reduceIte,XF,XG,XH])) <;> exact h
  · rw [q, Bool.false_and] at h; exact h

noncomputable def ov : Option Nat → V
  | none => .none
  | some i => .int (i : Int)

noncomputable def soonerP (W : List (List Int)) (g : Nat) : Option Nat → Option Nat → Bool
  | none, _ => false
  | some a, none => both W g a
  | some a, some c => (a != c) && both W g a && (!both W g c || decide ((row W g).idxOf (a : Int) < (row W g).idxOf (c : Int)))

theorem LI.index {a : Nat} {is : List Int} (h : LI H a is) {x : Int} (hx : x ∈ is) : methV .index [.ref a, .int x] H = some (.int (is.idxOf x : Nat), H) := by
  rw [m_idx, listOf_eq h, Option.bind_some, mapM_asInt, Option.bind_some, if_pos hx]

theorem s_sooner (hP : P.fn "sooner" = some f_sooner) (hP1 : P.fn "both_wish" = some f_both_wish) {w : Nat} {W : List (List Int)} (hw : WH H w W) {g : Nat} (hg : g < W.length) {one other : Option Nat} (h1 : ∀ i, one = some i → i < W.length) (h2 : ∀ i, other = some i → i < W.length)
    (h : Q (.bool (soonerP W g one other)) H) : callN P b (n + 2) "sooner" [.ref w, .int (g : Int), ov one, ov other] H Q X := by
  (refine callN_in hP rfl ?_; unfold f_sooner)
  cases one with
  | none =>
    cases other with
    | none => (repeat (first | with_reducible refine XK ?_ | with_reducible refine XL ?_ | dsimp only [ZA,ZB,ZC,ZD,ZE,ZF,ZG,ZH,ZI,ZJ,ZK,ZL,ZM,ZN,ZO,ZP,ZQ,ZR,ZS,ZT,ZU,ZV,ZW,ZX,ZY,ZZ,Za,Zb,Zc,Zd,Ze,Zf,Zg,Zh,Zi,Zj,Zk,Zl,Zm,Zn,Zo,Zp,Zq,Zr,Zs,Zt,Zu,Zv,Zw,Zx,Zy,Zz,YA,YB,YC,YD,YE,YF,YG,YH,YI,YJ,YK,YL,YM,YN,YO,YP,YQ,YR,Env.set,cond_true,cond_false,String.reduceBEq,YS,YT,YU,YV,YW,YX,YY,YZ,Ya,Yb,Yc,Yd,Ye,Yf] | simp only [Yg,Yh,true_and,Yi,Yj,Yk,Yl,Ym,Yn,Yo,Yp,Yq,Yr,Yt,Yu,Yv,Yw,Yx,Yy,Yz,XA,XB,XC,XD,XE,beq_self_eq_true,reduceIte,reduceCtorEq,↓reduceIte,XF,XG,XH, ov])); exact h
    | some c => (repeat (first | with_reducible refine XK ?_ | with_reducible refine XL ?_ | dsimp only [ZA,ZB,ZC,ZD,ZE,ZF,ZG,ZH,ZI,ZJ,ZK,ZL,ZM,ZN,ZO,ZP,ZQ,ZR,ZS,ZT,ZU,ZV,ZW,ZX,ZY,ZZ,Za,Zb,Zc,Zd,Ze,Zf,Zg,Zh,Zi,Zj,Zk,Zl,Zm,Zn,Zo,Zp,Zq,Zr,Zs,Zt,Zu,Zv,Zw,Zx,Zy,Zz,YA,YB,YC,YD,YE,YF,YG,YH,YI,YJ,YK,YL,YM,YN,YO,YP,YQ,YR,Env.set,cond_true,cond_false,String.reduceBEq,YS,YT,YU,YV,YW,YX,YY,YZ,Ya,Yb,Yc,Yd,Ye,Yf] | simp only [Yg,Yh,true_and,Yi,Yj,Yk,Yl,Ym,Yn,Yo,Yp,Yq,Yr,Yt,Yu,Yv,Yw,Yx,Yy,Yz,XA,XB,XC,XD,XE,beq_self_eq_true,reduceIte,reduceCtorEq,↓reduceIte,XF,XG,XH, ov])); exact h
  | some a =>
    have ha := h1 a rfl
    obtain ⟨r, hr, hl⟩ := hw.item (row_get hg)
    cases other with
    | none =>
      (repeat (first | with_reducible refine XK ?_ | with_reducible refine XL ?_ | dsimp only [ZA,ZB,ZC,ZD,ZE,ZF,ZG,ZH,ZI,ZJ,ZK,ZL,ZM,ZN,ZO,ZP,ZQ,ZR,ZS,ZT,ZU,ZV,ZW,ZX,ZY,ZZ,Za,Zb,Zc,Zd,Ze,Zf,Zg,Zh,Zi,Zj,Zk,Zl,Zm,Zn,Zo,Zp,Zq,Zr,Zs,Zt,Zu,Zv,Zw,Zx,Zy,Zz,YA,YB,YC,YD,YE,YF,YG,YH,YI,YJ,YK,YL,YM,YN,YO,YP,YQ,YR,Env.set,cond_true,cond_false,String.reduceBEq,YS,YT,YU,YV,YW,YX,YY,YZ,Ya,Yb,Yc,Yd,Ye,Yf] | simp only [Yg,Yh,true_and,Yi,Yj,Yk,Yl,Ym,Yn,Yo,Yp,Yq,Yr,Yt,Yu,Yv,Yw,Yx,Yy,Yz,XA,XB,XC,XD,XE,beq_self_eq_true,reduceIte,reduceCtorEq,↓reduceIte,XF,XG,XH, ov]))
      refine s_both_wish hP1 hw hg ha ?_
      simp only [soonerP] at h
      cases e : both W g a <;> rw [e] at h <;> (repeat (first | with_reducible refine XK ?_ | with_reducible refine XL ?_ | dsimp only [ZA,ZB,ZC,ZD,ZE,ZF,ZG,ZH,ZI,ZJ,ZK,ZL,ZM,ZN,ZO,ZP,ZQ,ZR,ZS,ZT,ZU,ZV,ZW,ZX,ZY,ZZ,Za,Zb,Zc,Zd,Ze,Zf,Zg,Zh,Zi,Zj,Zk,Zl,Zm,Zn,Zo,Zp,Zq,Zr,Zs,Zt,Zu,Zv,Zw,Zx,Zy,Zz,YA,YB,YC,YD,YE,YF,YG,YH,YI,YJ,YK,YL,YM,YN,YO,YP,YQ,YR,Env.set,cond_true,cond_false,String.reduceBEq,YS,YT,YU,YV,YW,YX,YY,YZ,Ya,Yb,Yc,Yd,Ye,Yf] | simp only [Yg,Yh,true_and,Yi,Yj,Yk,Yl,Ym,Yn,Yo,Yp,Yq,Yr,Yt,Yu,Yv,Yw,Yx,Yy,Yz,XA,XB,XC,XD,XE,beq_self_eq_true,reduceIte,reduceCtorEq,↓reduceIte,XF,XG,XH])) <;> exact h
    | some c =>
      have hc := h2 c rfl
      (repeat (first | with_reducible refine XK ?_ | with_reducible refine XL ?_ | dsimp only [ZA,ZB,ZC,ZD,ZE,ZF,ZG,ZH,ZI,ZJ,ZK,ZL,ZM,ZN,ZO,ZP,ZQ,ZR,ZS,ZT,ZU,ZV,ZW,ZX,ZY,ZZ,Za,Zb,Zc,Zd,Ze,Zf,Zg,Zh,Zi,Zj,Zk,Zl,Zm,Zn,Zo,Zp,Zq,Zr,Zs,Zt,Zu,Zv,Zw,Zx,Zy,Zz,YA,YB,YC,YD,YE,YF,YG,YH,YI,YJ,YK,YL,YM,YN,YO,YP,YQ,YR,Env.set,cond_true,cond_false,String.reduceBEq,YS,YT,YU,YV,YW,YX,YY,YZ,Ya,Yb,Yc,Yd,Ye,Yf] | simp only [Yg,Yh,true_and,Yi,Yj,Yk,Yl,Ym,Yn,Yo,Yp,Yq,Yr,Yt,Yu,Yv,Yw,Yx,Yy,Yz,XA,XB,XC,XD,XE,beq_self_eq_true,reduceIte,reduceCtorEq,↓reduceIte,XF,XG,XH, ov]))
      by_cases hac : a = c
      · subst hac
        (repeat (first | with_reducible refine XK ?_ | with_reducible refine XL ?_ | dsimp only [ZA,ZB,ZC,ZD,ZE,ZF,ZG,ZH,ZI,ZJ,ZK,ZL,ZM,ZN,ZO,ZP,ZQ,ZR,ZS,ZT,ZU,ZV,ZW,ZX,ZY,ZZ,Za,Zb,Zc,Zd,Ze,Zf,Zg,Zh,Zi,Zj,Zk,Zl,Zm,Zn,Zo,Zp,Zq,Zr,Zs,Zt,Zu,Zv,Zw,Zx,Zy,Zz,YA,YB,YC,YD,YE,YF,YG,YH,YI,YJ,YK,YL,YM,YN,YO,YP,YQ,YR,Env.set,cond_true,cond_false,String.reduceBEq,YS,YT,YU,YV,YW,YX,YY,YZ,Ya,Yb,Yc,Yd,Ye,Yf] | simp only [Yg,Yh,true_and,Yi,Yj,Yk,Yl,Ym,Yn,Yo,Yp,Yq,Yr,Yt,Yu,Yv,Yw,Yx,Yy,Yz,XA,XB,XC,XD,XE,beq_self_eq_true,reduceIte,reduceCtorEq,↓reduceIte,XF,XG,XH]))
        simpa [soonerP] using h
      · have e : ((a : Int) == (c : Int)) = false := beq_eq_false_iff_ne.mpr (by omega)
        (repeat (first | with_reducible refine XK ?_ | with_reducible refine XL ?_ | dsimp only [ZA,ZB,ZC,ZD,ZE,ZF,ZG,ZH,ZI,ZJ,ZK,ZL,ZM,ZN,ZO,ZP,ZQ,ZR,ZS,ZT,ZU,ZV,ZW,ZX,ZY,ZZ,Za,Zb,Zc,Zd,Ze,Zf,Zg,Zh,Zi,Zj,Zk,Zl,Zm,Zn,Zo,Zp,Zq,Zr,Zs,Zt,Zu,Zv,Zw,Zx,Zy,Zz,YA,YB,YC,YD,YE,YF,YG,YH,YI,YJ,YK,YL,YM,YN,YO,YP,YQ,YR,Env.set,cond_true,cond_false,String.reduceBEq,YS,YT,YU,YV,YW,YX,YY,YZ,Ya,Yb,Yc,Yd,Ye,Yf] | simp only [Yg,Yh,true_and,Yi,Yj,Yk,Yl,Ym,Yn,Yo,Yp,Yq,Yr,Yt,Yu,Yv,Yw,Yx,Yy,Yz,XA,XB,XC,XD,XE,beq_self_eq_true,reduceIte,reduceCtorEq,↓reduceIte,XF,XG,XH, e]))
        refine s_both_wish hP1 hw hg ha ?_
        simp only [soonerP] at h
        have e' : (a != c) = true := by simp [hac]
        rw [e'] at h
        cases ea : both W g a with
        | false => rw [ea] at h; (repeat (first | with_reducible refine XK ?_ | with_reducible refine XL ?_ | dsimp only [ZA,ZB,ZC,ZD,ZE,ZF,ZG,ZH,ZI,ZJ,ZK,ZL,ZM,ZN,ZO,ZP,ZQ,ZR,ZS,ZT,ZU,ZV,ZW,ZX,ZY,ZZ,Za,Zb,Zc,Zd,Ze,Zf,Zg,Zh,Zi,Zj,Zk,Zl,Zm,Zn,Zo,Zp,Zq,Zr,Zs,Zt,Zu,Zv,Zw,Zx,Zy,Zz,YA,YB,YC,YD,YE,YF,YG,YH,YI,YJ,YK,YL,YM,YN,YO,YP,YQ,YR,Env.set,cond_true,cond_false,String.reduceBEq,YS,YT,YU,YV,YW,YX,YY,YZ,Ya,Yb,Yc,Yd,Ye,Yf] | simp only [Yg,Yh,true_and,Yi,Yj,Yk,Yl,Ym,Yn,Yo,Yp,Yq,Yr,Yt,Yu,Yv,Yw,Yx,Yy,Yz,XA,XB,XC,XD,XE,beq_self_eq_true,reduceIte,reduceCtorEq,↓reduceIte,XF,XG,XH])); exact h
        | true =>
          rw [ea] at h
          (repeat (first | with_reducible refine XK ?_ | with_reducible refine XL ?_ | dsimp only [ZA,ZB,ZC,ZD,ZE,ZF,ZG,ZH,ZI,ZJ,ZK,ZL,ZM,ZN,ZO,ZP,ZQ,ZR,ZS,ZT,ZU,ZV,ZW,ZX,ZY,ZZ,Za,Zb,Zc,Zd,Ze,Zf,Zg,Zh,Zi,Zj,Zk,Zl,Zm,Zn,Zo,Zp,Zq,Zr,Zs,Zt,Zu,Zv,Zw,Zx,Zy,Zz,YA,YB,YC,YD,YE,YF,YG,YH,YI,YJ,YK,YL,YM,YN,YO,YP,YQ,YR,Env.set,cond_true,cond_false,String.reduceBEq,YS,YT,YU,YV,YW,YX,YY,YZ,Ya,Yb,Yc,Yd,Ye,Yf] | simp only [Yg,Yh,true_and,Yi,Yj,Yk,Yl,Ym,Yn,Yo,Yp,Yq,Yr,Yt,Yu,Yv,Yw,Yx,Yy,Yz,XA,XB,XC,XD,XE,beq_self_eq_true,reduceIte,reduceCtorEq,↓reduceIte,XF,XG,XH]))
          refine s_both_wish hP1 hw hg hc ?_
          cases ec : both W g c with
          | false => rw [ec] at h; (repeat (first | with_reducible refine XK ?_ | with_reducible refine XL ?_ | dsimp only [ZA,ZB,ZC,ZD,ZE,ZF,ZG,ZH,ZI,ZJ,ZK,ZL,ZM,ZN,ZO,ZP,ZQ,ZR,ZS,ZT,ZU,ZV,ZW,ZX,ZY,ZZ,Za,Zb,Zc,Zd,Ze,Zf,Zg,Zh,Zi,Zj,Zk,Zl,Zm,Zn,Zo,Zp,Zq,Zr,Zs,Zt,Zu,Zv,Zw,Zx,Zy,Zz,YA,YB,YC,YD,YE,YF,YG,YH,YI,YJ,YK,YL,YM,YN,YO,YP,YQ,YR,Env.set,cond_true,cond_false,String.reduceBEq,YS,YT,YU,YV,YW,YX,YY,YZ,Ya,Yb,Yc,Yd,Ye,Yf] | simp only [Yg,Yh,true_and,Yi,Yj,Yk,Yl,Ym,Yn,Yo,Yp,Yq,Yr,Yt,Yu,Yv,Yw,Yx,Yy,Yz,XA,XB,XC,XD,XE,beq_self_eq_true,reduceIte,reduceCtorEq,↓reduceIte,XF,XG,XH])); simpa using h
          | true =>
            rw [ec] at h
            have ma : (a : Int) ∈ row W g := by unfold both at ea; simp at ea; exact ea.1
            have mc : (c : Int) ∈ row W g := by unfold both at ec; simp at ec; exact ec.1
            (repeat (first | with_reducible refine XK ?_ | with_reducible refine XL ?_ | dsimp only [ZA,ZB,ZC,ZD,ZE,ZF,ZG,ZH,ZI,ZJ,ZK,ZL,ZM,ZN,ZO,ZP,ZQ,ZR,ZS,ZT,ZU,ZV,ZW,ZX,ZY,ZZ,Za,Zb,Zc,Zd,Ze,Zf,Zg,Zh,Zi,Zj,Zk,Zl,Zm,Zn,Zo,Zp,Zq,Zr,Zs,Zt,Zu,Zv,Zw,Zx,Zy,Zz,YA,YB,YC,YD,YE,YF,YG,YH,YI,YJ,YK,YL,YM,YN,YO,YP,YQ,YR,Env.set,cond_true,cond_false,String.reduceBEq,YS,YT,YU,YV,YW,YX,YY,YZ,Ya,Yb,Yc,Yd,Ye,Yf] | simp only [Yg,Yh,true_and,Yi,Yj,Yk,Yl,Ym,Yn,Yo,Yp,Yq,Yr,Yt,Yu,Yv,Yw,Yx,Yy,Yz,XA,XB,XC,XD,XE,beq_self_eq_true,reduceIte,reduceCtorEq,↓reduceIte,XF,XG,XH, hr, (recvL hl).2.2, hl.index ma, hl.index mc]))
            have hcast : decide (((row W g).idxOf (a : Int) : Int) < ((row W g).idxOf (c : Int) : Int)) = decide ((row W g).idxOf (a : Int) < (row W g).idxOf (c : Int)) := by simp
            rw [hcast]
            simpa using h

theorem s_cell_at (hP : P.fn "_law_cell_at" = some f__law_cell_at) {a : Nat} {is : List Int} (hs : seqOf H a = some (is.map .int)) {k : Nat} (h : Q (.int (is.getD k 0)) H) : callN P b (n + 1) "_law_cell_at" [.ref a, .int (k : Int)] H Q X := by
  have hl : lenV (.ref a) H = some (is.length : Int) := by unfold lenV; simp [hs]
  (refine callN_in hP rfl ?_; unfold f__law_cell_at)
  (repeat (first | dsimp only [XI, XJ] | dsimp only [ZA,ZB,ZC,ZD,ZE,ZF,ZG,ZH,ZI,ZJ,ZK,ZL,ZM,ZN,ZO,ZP,ZQ,ZR,ZS,ZT,ZU,ZV,ZW,ZX,ZY,ZZ,Za,Zb,Zc,Zd,Ze,Zf,Zg,Zh,Zi,Zj,Zk,Zl,Zm,Zn,Zo,Zp,Zq,Zr,Zs,Zt,Zu,Zv,Zw,Zx,Zy,Zz,YA,YB,YC,YD,YE,YF,YG,YH,YI,YJ,YK,YL,YM,YN,YO,YP,YQ,YR,Env.set,cond_true,cond_false,String.reduceBEq,YS,YT,YU,YV,YW,YX,YY,YZ,Ya,Yb,Yc,Yd,Ye,Yf] | simp only [Yg,Yh,true_and,Yi,Yj,Yk,Yl,Ym,Yn,Yo,Yp,Yq,Yr,Yt,Yu,Yv,Yw,Yx,Yy,Yz,XA,XB,XC,XD,XE,beq_self_eq_true,reduceIte,reduceCtorEq,↓reduceIte,XF,XG,XH, hl]))
  refine ⟨fun q => ?_, fun q => ?_⟩
  · have hk : k < is.length := by simp at q; exact q
    have : is[k]? = some is[k] := List.getElem?_eq_getElem hk
    (repeat (first | dsimp only [XI, XJ] | dsimp only [ZA,ZB,ZC,ZD,ZE,ZF,ZG,ZH,ZI,ZJ,ZK,ZL,ZM,ZN,ZO,ZP,ZQ,ZR,ZS,ZT,ZU,ZV,ZW,ZX,ZY,ZZ,Za,Zb,Zc,Zd,Ze,Zf,Zg,Zh,Zi,Zj,Zk,Zl,Zm,Zn,Zo,Zp,Zq,Zr,Zs,Zt,Zu,Zv,Zw,Zx,Zy,Zz,YA,YB,YC,YD,YE,YF,YG,YH,YI,YJ,YK,YL,YM,YN,YO,YP,YQ,YR,Env.set,cond_true,cond_false,String.reduceBEq,YS,YT,YU,YV,YW,YX,YY,YZ,Ya,Yb,Yc,Yd,Ye,Yf] | simp only [Yg,Yh,true_and,Yi,Yj,Yk,Yl,Ym,Yn,Yo,Yp,Yq,Yr,Yt,Yu,Yv,Yw,Yx,Yy,Yz,XA,XB,XC,XD,XE,beq_self_eq_true,reduceIte,reduceCtorEq,↓reduceIte,XF,XG,XH, item_seq hs (i := k) (v := .int is[k]) (by rw [List.getElem?_map, this]; rfl)]))
    rw [List.getD_eq_getElem?_getD, this] at h
    exact h
  · have hk : ¬ k < is.length := by simp at q; omega
    rw [List.getD_eq_getElem?_getD, List.getElem?_eq_none (by omega)] at h
    exact h

theorem get2a (H : Hp) (x y : O) : (H ++ [x, y])[H.length]? = some x := by simp
theorem get2b (H : Hp) (x y : O) : (H ++ [x, y])[H.length + 1]? = some y := by simp
theorem set2a (H : Hp) (x y z : O) : (H ++ [x, y]).set H.length z = H ++ [z, y] := by simp
theorem set2b (H : Hp) (x y z : O) : (H ++ [x, y]).set (H.length + 1) z = H ++ [x, z] := by simp

theorem rowOk_take {row : List Int} {g m : Int} (h : RowOk row g m) (k : Nat) : RowOk (row.take k) g m :=
  ⟨fun x hx => h.low x (List.mem_of_mem_take hx), fun hx => h.ne (List.mem_of_mem_take hx), h.nodup.sublist (List.take_sublist _ _), by have := h.len; rw [List.length_take]; omega⟩

theorem pop_at {a : Nat} {xs : List V} {i : Nat} {v : V} (h : H[a]? = some (.list xs)) (hi : xs[i]? = some v) : methV .pop [.ref a, .int (i : Int)] H = some (v, H.set a (.list (xs.eraseIdx i))) := by
  have hl := (List.getElem?_eq_some_iff.mp hi).1
  rw [m_pop, listOf_eq h, Option.bind_some, normIdx_nat hl, Option.bind_some, hi]; rfl
theorem append_at {a : Nat} {xs : List V} {v : V} (h : H[a]? = some (.list xs)) (hl : xs.length < lim) : methV .append [.ref a, v] H = some (.none, H.set a (.list (xs ++ [v]))) := by
  rw [m_app, listOf_eq h, Option.bind_some, if_pos hl]

theorem fmod_nat (c : Int) {m : Nat} (hm : 0 < m) : ∃ i : Nat, i < m ∧ c.fmod (m : Int) = (i : Int) := by
  have h1 : 0 ≤ c.fmod (m : Int) := Int.fmod_nonneg_of_pos _ (by omega)
  have h2 : c.fmod (m : Int) < m := Int.fmod_lt_of_pos _ (by omega)
  exact ⟨(c.fmod m).toNat, by omega, by omega⟩

theorem map_erase (l : List Int) (i : Nat) : (l.map V.int).eraseIdx i = (l.eraseIdx i).map V.int := by
  induction l generalizing i with
  | nil => rfl
  | cons a l ih => cases i with
    | zero => rfl
    | succ i => simp [ih]

theorem erase_perm {α : Type} {x : α} : ∀ {l : List α} {i : Nat}, l[i]? = some x → List.Perm l (x :: l.eraseIdx i)
  | a :: l, 0, h => by simp at h; subst h; exact List.Perm.refl _
  | a :: l, i + 1, h => by
    have := erase_perm (l := l) (i := i) (by simpa using h)
    exact (this.cons a).trans (List.Perm.swap _ _ _)

theorem s_row_by2 (hP : P.fn "_law_row_by" = some f__law_row_by) {c : Int} {g m : Nat} {full : Bool} (hm : m ≤ 6)
    (h : ∀ H' r l, H <+: H' → H.length ≤ r → LI H' r l → RowOk l g m → Q (.ref r) H') : callN P b (n + 1) "_law_row_by" [.int c, .int (g : Int), .int (m : Int), .bool full] H Q X := by
  have hml : m ≤ lim := Nat.le_trans hm (by decide)
  (refine callN_in hP rfl ?_; unfold f__law_row_by)
  (repeat (first | with_reducible refine XK ?_ | with_reducible refine XL ?_ | dsimp only [ZA,ZB,ZC,ZD,ZE,ZF,ZG,ZH,ZI,ZJ,ZK,ZL,ZM,ZN,ZO,ZP,ZQ,ZR,ZS,ZT,ZU,ZV,ZW,ZX,ZY,ZZ,Za,Zb,Zc,Zd,Ze,Zf,Zg,Zh,Zi,Zj,Zk,Zl,Zm,Zn,Zo,Zp,Zq,Zr,Zs,Zt,Zu,Zv,Zw,Zx,Zy,Zz,YA,YB,YC,YD,YE,YF,YG,YH,YI,YJ,YK,YL,YM,YN,YO,YP,YQ,YR,Env.set,cond_true,cond_false,String.reduceBEq,YS,YT,YU,YV,YW,YX,YY,YZ,Ya,Yb,Yc,Yd,Ye,Yf] | simp only [Yg,Yh,true_and,Yi,Yj,Yk,Yl,Ym,Yn,Yo,Yp,Yq,Yr,Yt,Yu,Yv,Yw,Yx,Yy,Yz,XA,XB,XC,XD,XE,beq_self_eq_true,reduceIte,reduceCtorEq,↓reduceIte,XF,XG,XH, range_nat hml]))
  refine wLoop_idx (fun i acc H' => H' = H ∧ ∃ l : List Int, acc = l.map .int ∧ l.length ≤ i ∧ l.Nodup ∧ (g : Int) ∉ l ∧ ∀ x ∈ l, 0 ≤ x ∧ x < i) ⟨rfl, [], rfl, by simp, by simp, by simp, by simp⟩ (fun i v acc H' hv hI => ⟨trivial, fun k' h1 h2 => ?_⟩) fun acc H' hI => ⟨trivial, ?_⟩
  · obtain ⟨hi, rfl⟩ := rng_get hv
    obtain ⟨rfl, l, rfl, hl, nd, hn, hlow⟩ := hI
    (repeat (first | with_reducible refine XK ?_ | with_reducible refine XL ?_ | dsimp only [ZA,ZB,ZC,ZD,ZE,ZF,ZG,ZH,ZI,ZJ,ZK,ZL,ZM,ZN,ZO,ZP,ZQ,ZR,ZS,ZT,ZU,ZV,ZW,ZX,ZY,ZZ,Za,Zb,Zc,Zd,Ze,Zf,Zg,Zh,Zi,Zj,Zk,Zl,Zm,Zn,Zo,Zp,Zq,Zr,Zs,Zt,Zu,Zv,Zw,Zx,Zy,Zz,YA,YB,YC,YD,YE,YF,YG,YH,YI,YJ,YK,YL,YM,YN,YO,YP,YQ,YR,Env.set,cond_true,cond_false,String.reduceBEq,YS,YT,YU,YV,YW,YX,YY,YZ,Ya,Yb,Yc,Yd,Ye,Yf] | simp only [Yg,Yh,true_and,Yi,Yj,Yk,Yl,Ym,Yn,Yo,Yp,Yq,Yr,Yt,Yu,Yv,Yw,Yx,Yy,Yz,XA,XB,XC,XD,XE,beq_self_eq_true,reduceIte,reduceCtorEq,↓reduceIte,XF,XG,XH]))
    refine ⟨fun q => ?_, fun q => ?_⟩
    · refine h1 _ _ ⟨rfl, l ++ [(i : Int)], by simp, by simp; omega, ?_, ?_, ?_⟩
      · rw [List.nodup_append]
        refine ⟨nd, by simp, fun a ha b hb => ?_⟩
        simp at hb; subst hb
        have := hlow a ha; omega
      · simp only [List.mem_append, List.mem_singleton, not_or]
        refine ⟨hn, fun e => ?_⟩
        simp at q; omega
      · intro x hx
        rcases List.mem_append.mp hx with hx | hx
        · have := hlow x hx; omega
        · simp at hx; omega
    · exact h2 _ ⟨rfl, l, rfl, by omega, nd, hn, fun x hx => by have := hlow x hx; omega⟩
  · obtain ⟨rfl, l, rfl, hl, nd, hn, hlow⟩ := hI
    rw [rng_len] at hl hlow
    (repeat (first | with_reducible refine XK ?_ | with_reducible refine XL ?_ | dsimp only [ZA,ZB,ZC,ZD,ZE,ZF,ZG,ZH,ZI,ZJ,ZK,ZL,ZM,ZN,ZO,ZP,ZQ,ZR,ZS,ZT,ZU,ZV,ZW,ZX,ZY,ZZ,Za,Zb,Zc,Zd,Ze,Zf,Zg,Zh,Zi,Zj,Zk,Zl,Zm,Zn,Zo,Zp,Zq,Zr,Zs,Zt,Zu,Zv,Zw,Zx,Zy,Zz,YA,YB,YC,YD,YE,YF,YG,YH,YI,YJ,YK,YL,YM,YN,YO,YP,YQ,YR,Env.set,cond_true,cond_false,String.reduceBEq,YS,YT,YU,YV,YW,YX,YY,YZ,Ya,Yb,Yc,Yd,Ye,Yf] | simp only [Yg,Yh,true_and,Yi,Yj,Yk,Yl,Ym,Yn,Yo,Yp,Yq,Yr,Yt,Yu,Yv,Yw,Yx,Yy,Yz,XA,XB,XC,XD,XE,beq_self_eq_true,reduceIte,reduceCtorEq,↓reduceIte,XF,XG,XH]))
    refine wWhile_ex (fun k ρ H1 => ∃ (l r : List Int) (c : Int), H1 = H' ++ [.list (l.map .int), .list (r.map .int)] ∧ k = l.length ∧ (l ++ r).length ≤ 6 ∧ (l ++ r).Nodup ∧ (g : Int) ∉ l ++ r ∧ (∀ x ∈ l ++ r, 0 ≤ x ∧ x < (m : Int)) ∧
      ρ "_law_left" = some (.ref H'.length) ∧ ρ "_law_row" = some (.ref (H'.length + 1)) ∧ ρ "_law_cell" = some (.int c) ∧ ρ "_law_full" = some (.bool full)) (m := l.length) ⟨l, [], c, by simp, rfl, by simp; omega, by simpa using nd, by simpa using hn, by simpa using hlow, by (repeat (first | with_reducible refine XK ?_ | with_reducible refine XL ?_ | dsimp only [ZA,ZB,ZC,ZD,ZE,ZF,ZG,ZH,ZI,ZJ,ZK,ZL,ZM,ZN,ZO,ZP,ZQ,ZR,ZS,ZT,ZU,ZV,ZW,ZX,ZY,ZZ,Za,Zb,Zc,Zd,Ze,Zf,Zg,Zh,Zi,Zj,Zk,Zl,Zm,Zn,Zo,Zp,Zq,Zr,Zs,Zt,Zu,Zv,Zw,Zx,Zy,Zz,YA,YB,YC,YD,YE,YF,YG,YH,YI,YJ,YK,YL,YM,YN,YO,YP,YQ,YR,Env.set,cond_true,cond_false,String.reduceBEq,YS,YT,YU,YV,YW,YX,YY,YZ,Ya,Yb,Yc,Yd,Ye,Yf] | simp only [Yg,Yh,true_and,Yi,Yj,Yk,Yl,Ym,Yn,Yo,Yp,Yq,Yr,Yt,Yu,Yv,Yw,Yx,Yy,Yz,XA,XB,XC,XD,XE,beq_self_eq_true,reduceIte,reduceCtorEq,↓reduceIte,XF,XG,XH])), by (repeat (first | with_reducible refine XK ?_ | with_reducible refine XL ?_ | dsimp only [ZA,ZB,ZC,ZD,ZE,ZF,ZG,ZH,ZI,ZJ,ZK,ZL,ZM,ZN,ZO,ZP,ZQ,ZR,ZS,ZT,ZU,ZV,ZW,ZX,ZY,ZZ,Za,Zb,Zc,Zd,Ze,Zf,Zg,Zh,Zi,Zj,Zk,Zl,Zm,Zn,Zo,Zp,Zq,Zr,Zs,Zt,Zu,Zv,Zw,Zx,Zy,Zz,YA,YB,YC,YD,YE,YF,YG,YH,YI,YJ,YK,YL,YM,YN,YO,YP,YQ,YR,Env.set,cond_true,cond_false,String.reduceBEq,YS,YT,YU,YV,YW,YX,YY,YZ,Ya,Yb,Yc,Yd,Ye,Yf] | simp only [Yg,Yh,true_and,Yi,Yj,Yk,Yl,Ym,Yn,Yo,Yp,Yq,Yr,Yt,Yu,Yv,Yw,Yx,Yy,Yz,XA,XB,XC,XD,XE,beq_self_eq_true,reduceIte,reduceCtorEq,↓reduceIte,XF,XG,XH])); simp, by (repeat (first | with_reducible refine XK ?_ | with_reducible refine XL ?_ | dsimp only [ZA,ZB,ZC,ZD,ZE,ZF,ZG,ZH,ZI,ZJ,ZK,ZL,ZM,ZN,ZO,ZP,ZQ,ZR,ZS,ZT,ZU,ZV,ZW,ZX,ZY,ZZ,Za,Zb,Zc,Zd,Ze,Zf,Zg,Zh,Zi,Zj,Zk,Zl,Zm,Zn,Zo,Zp,Zq,Zr,Zs,Zt,Zu,Zv,Zw,Zx,Zy,Zz,YA,YB,YC,YD,YE,YF,YG,YH,YI,YJ,YK,YL,YM,YN,YO,YP,YQ,YR,Env.set,cond_true,cond_false,String.reduceBEq,YS,YT,YU,YV,YW,YX,YY,YZ,Ya,Yb,Yc,Yd,Ye,Yf] | simp only [Yg,Yh,true_and,Yi,Yj,Yk,Yl,Ym,Yn,Yo,Yp,Yq,Yr,Yt,Yu,Yv,Yw,Yx,Yy,Yz,XA,XB,XC,XD,XE,beq_self_eq_true,reduceIte,reduceCtorEq,↓reduceIte,XF,XG,XH])), by (repeat (first | with_reducible refine XK ?_ | with_reducible refine XL ?_ | dsimp only [ZA,ZB,ZC,ZD,ZE,ZF,ZG,ZH,ZI,ZJ,ZK,ZL,ZM,ZN,ZO,ZP,ZQ,ZR,ZS,ZT,ZU,ZV,ZW,ZX,ZY,ZZ,Za,Zb,Zc,Zd,Ze,Zf,Zg,Zh,Zi,Zj,Zk,Zl,Zm,Zn,Zo,Zp,Zq,Zr,Zs,Zt,Zu,Zv,Zw,Zx,Zy,Zz,YA,YB,YC,YD,YE,YF,YG,YH,YI,YJ,YK,YL,YM,YN,YO,YP,YQ,YR,Env.set,cond_true,cond_false,String.reduceBEq,YS,YT,YU,YV,YW,YX,YY,YZ,Ya,Yb,Yc,Yd,Ye,Yf] | simp only [Yg,Yh,true_and,Yi,Yj,Yk,Yl,Ym,Yn,Yo,Yp,Yq,Yr,Yt,Yu,Yv,Yw,Yx,Yy,Yz,XA,XB,XC,XD,XE,beq_self_eq_true,reduceIte,reduceCtorEq,↓reduceIte,XF,XG,XH]))⟩ fun k ρ H1 hI k' h1 h2 => ?_
    obtain ⟨l, r, c, rfl, rfl, hlen, nd, hn, hlow, e1, e2, e3, e4⟩ := hI
    have hL : LI (H' ++ [.list (l.map .int), .list (r.map .int)]) H'.length l := get2a _ _ _
    have hR : LI (H' ++ [.list (l.map .int), .list (r.map .int)]) (H'.length + 1) r := get2b _ _ _
    (repeat (first | with_reducible refine XK ?_ | with_reducible refine XL ?_ | dsimp only [ZA,ZB,ZC,ZD,ZE,ZF,ZG,ZH,ZI,ZJ,ZK,ZL,ZM,ZN,ZO,ZP,ZQ,ZR,ZS,ZT,ZU,ZV,ZW,ZX,ZY,ZZ,Za,Zb,Zc,Zd,Ze,Zf,Zg,Zh,Zi,Zj,Zk,Zl,Zm,Zn,Zo,Zp,Zq,Zr,Zs,Zt,Zu,Zv,Zw,Zx,Zy,Zz,YA,YB,YC,YD,YE,YF,YG,YH,YI,YJ,YK,YL,YM,YN,YO,YP,YQ,YR,Env.set,cond_true,cond_false,String.reduceBEq,YS,YT,YU,YV,YW,YX,YY,YZ,Ya,Yb,Yc,Yd,Ye,Yf] | simp only [Yg,Yh,true_and,Yi,Yj,Yk,Yl,Ym,Yn,Yo,Yp,Yq,Yr,Yt,Yu,Yv,Yw,Yx,Yy,Yz,XA,XB,XC,XD,XE,beq_self_eq_true,reduceIte,reduceCtorEq,↓reduceIte,XF,XG,XH, e1, e2, e3, e4, hL.len]))
    refine ⟨fun q => ?_, fun q => ?_⟩
    · have hpos : 0 < l.length := by simp at q; exact q
      obtain ⟨i, hi, ei⟩ := fmod_nat c hpos
      have hz : ((l.length : Int) = 0) = False := by simp; intro e; simp [e] at hpos
      obtain ⟨x, hx⟩ : ∃ x, l[i]? = some x := ⟨_, List.getElem?_eq_getElem hi⟩
      have hp := pop_at (i := i) (v := .int x) hL (by rw [List.getElem?_map, hx]; rfl)
      rw [set2a, map_erase] at hp
      have hL' : LI (H' ++ [.list ((l.eraseIdx i).map .int), .list (r.map .int)]) H'.length (l.eraseIdx i) := get2a _ _ _
      have hR' : LI (H' ++ [.list ((l.eraseIdx i).map .int), .list (r.map .int)]) (H'.length + 1) r := get2b _ _ _
      have hlr : l.length + r.length ≤ 6 := by simpa using hlen
      have ha := append_at (v := .int x) hR' (by rw [List.length_map]; exact Nat.lt_of_le_of_lt (Nat.le_trans (Nat.le_add_left _ _) hlr) (by decide))
      rw [set2b] at ha
      have hL2 : LI (H' ++ [.list ((l.eraseIdx i).map .int), .list (r.map .int ++ [.int x])]) H'.length (l.eraseIdx i) := get2a _ _ _
      have hz2 : (((l.eraseIdx i).length : Int) + 1 = 0 ∨ 2 ^ 30 ≤ (((l.eraseIdx i).length : Int) + 1).natAbs) = False := by
        have : (l.eraseIdx i).length ≤ 6 := by rw [List.length_eraseIdx]; split <;> omega
        simp; omega
      (repeat (first | with_reducible refine XK ?_ | with_reducible refine XL ?_ | dsimp only [ZA,ZB,ZC,ZD,ZE,ZF,ZG,ZH,ZI,ZJ,ZK,ZL,ZM,ZN,ZO,ZP,ZQ,ZR,ZS,ZT,ZU,ZV,ZW,ZX,ZY,ZZ,Za,Zb,Zc,Zd,Ze,Zf,Zg,Zh,Zi,Zj,Zk,Zl,Zm,Zn,Zo,Zp,Zq,Zr,Zs,Zt,Zu,Zv,Zw,Zx,Zy,Zz,YA,YB,YC,YD,YE,YF,YG,YH,YI,YJ,YK,YL,YM,YN,YO,YP,YQ,YR,Env.set,cond_true,cond_false,String.reduceBEq,YS,YT,YU,YV,YW,YX,YY,YZ,Ya,Yb,Yc,Yd,Ye,Yf] | simp only [Yg,Yh,true_and,Yi,Yj,Yk,Yl,Ym,Yn,Yo,Yp,Yq,Yr,Yt,Yu,Yv,Yw,Yx,Yy,Yz,XA,XB,XC,XD,XE,beq_self_eq_true,reduceIte,reduceCtorEq,↓reduceIte,XF,XG,XH, (recvL hL).2.1, (recvL hR).1, hz, ei, hp, ha, hL2.len, hL.len, e1, e2, e3, hz2]))
      have pm : List.Perm (l.eraseIdx i ++ (r ++ [x])) (l ++ r) := by
        have h1 : List.Perm l (x :: l.eraseIdx i) := erase_perm hx
        refine List.Perm.symm (List.Perm.trans (h1.append_right r) ?_)
        rw [← List.append_assoc]
        refine List.Perm.trans ?_ (List.perm_append_singleton _ _).symm
        exact List.Perm.refl _
      refine h1 (l.eraseIdx i).length _ _ (by rw [List.length_eraseIdx, if_pos hi]; omega) ⟨l.eraseIdx i, r ++ [x], c.fdiv (((l.eraseIdx i).length : Int) + 1), by simp, rfl, by rw [pm.length_eq]; exact hlen, pm.nodup_iff.mpr nd, fun hm => hn (pm.mem_iff.mp hm), fun y hy => hlow y (pm.mem_iff.mp hy), ?_⟩
      (repeat (first | with_reducible refine XK ?_ | with_reducible refine XL ?_ | dsimp only [ZA,ZB,ZC,ZD,ZE,ZF,ZG,ZH,ZI,ZJ,ZK,ZL,ZM,ZN,ZO,ZP,ZQ,ZR,ZS,ZT,ZU,ZV,ZW,ZX,ZY,ZZ,Za,Zb,Zc,Zd,Ze,Zf,Zg,Zh,Zi,Zj,Zk,Zl,Zm,Zn,Zo,Zp,Zq,Zr,Zs,Zt,Zu,Zv,Zw,Zx,Zy,Zz,YA,YB,YC,YD,YE,YF,YG,YH,YI,YJ,YK,YL,YM,YN,YO,YP,YQ,YR,Env.set,cond_true,cond_false,String.reduceBEq,YS,YT,YU,YV,YW,YX,YY,YZ,Ya,Yb,Yc,Yd,Ye,Yf] | simp only [Yg,Yh,true_and,Yi,Yj,Yk,Yl,Ym,Yn,Yo,Yp,Yq,Yr,Yt,Yu,Yv,Yw,Yx,Yy,Yz,XA,XB,XC,XD,XE,beq_self_eq_true,reduceIte,reduceCtorEq,↓reduceIte,XF,XG,XH, e1, e2, e4]))
    · have hpos : l = [] := by simp at q; exact q
      subst hpos
      have rok : RowOk r g m := ⟨by simpa using hlow, by simpa using hn, by simpa using nd, by simpa using hlen⟩
      have hR' : LI (H' ++ [.list (([] : List Int).map .int), .list (r.map .int)]) (H'.length + 1) r := get2b _ _ _
      obtain ⟨i, hi, ei⟩ := fmod_nat c (m := r.length + 1) (by omega)
      have hz : ((r.length : Int) + 1 = 0) = False := by simp; omega
      have ei' : c.fmod ((r.length : Int) + 1) = (i : Int) := ei
      (repeat (first | with_reducible refine XK ?_ | with_reducible refine XL ?_ | dsimp only [ZA,ZB,ZC,ZD,ZE,ZF,ZG,ZH,ZI,ZJ,ZK,ZL,ZM,ZN,ZO,ZP,ZQ,ZR,ZS,ZT,ZU,ZV,ZW,ZX,ZY,ZZ,Za,Zb,Zc,Zd,Ze,Zf,Zg,Zh,Zi,Zj,Zk,Zl,Zm,Zn,Zo,Zp,Zq,Zr,Zs,Zt,Zu,Zv,Zw,Zx,Zy,Zz,YA,YB,YC,YD,YE,YF,YG,YH,YI,YJ,YK,YL,YM,YN,YO,YP,YQ,YR,Env.set,cond_true,cond_false,String.reduceBEq,YS,YT,YU,YV,YW,YX,YY,YZ,Ya,Yb,Yc,Yd,Ye,Yf] | simp only [Yg,Yh,true_and,Yi,Yj,Yk,Yl,Ym,Yn,Yo,Yp,Yq,Yr,Yt,Yu,Yv,Yw,Yx,Yy,Yz,XA,XB,XC,XD,XE,beq_self_eq_true,reduceIte,reduceCtorEq,↓reduceIte,XF,XG,XH, e2, e3, e4, hR'.len, hz, ei', hR'.sliceTo i]))
      refine ⟨fun _ => ?_, fun _ => ?_⟩
      · (repeat (first | with_reducible refine XK ?_ | with_reducible refine XL ?_ | dsimp only [ZA,ZB,ZC,ZD,ZE,ZF,ZG,ZH,ZI,ZJ,ZK,ZL,ZM,ZN,ZO,ZP,ZQ,ZR,ZS,ZT,ZU,ZV,ZW,ZX,ZY,ZZ,Za,Zb,Zc,Zd,Ze,Zf,Zg,Zh,Zi,Zj,Zk,Zl,Zm,Zn,Zo,Zp,Zq,Zr,Zs,Zt,Zu,Zv,Zw,Zx,Zy,Zz,YA,YB,YC,YD,YE,YF,YG,YH,YI,YJ,YK,YL,YM,YN,YO,YP,YQ,YR,Env.set,cond_true,cond_false,String.reduceBEq,YS,YT,YU,YV,YW,YX,YY,YZ,Ya,Yb,Yc,Yd,Ye,Yf] | simp only [Yg,Yh,true_and,Yi,Yj,Yk,Yl,Ym,Yn,Yo,Yp,Yq,Yr,Yt,Yu,Yv,Yw,Yx,Yy,Yz,XA,XB,XC,XD,XE,beq_self_eq_true,reduceIte,reduceCtorEq,↓reduceIte,XF,XG,XH, e2]))
        exact h _ _ r (List.prefix_append _ _) (Nat.le_succ _) hR' rok
      · (repeat (first | with_reducible refine XK ?_ | with_reducible refine XL ?_ | dsimp only [ZA,ZB,ZC,ZD,ZE,ZF,ZG,ZH,ZI,ZJ,ZK,ZL,ZM,ZN,ZO,ZP,ZQ,ZR,ZS,ZT,ZU,ZV,ZW,ZX,ZY,ZZ,Za,Zb,Zc,Zd,Ze,Zf,Zg,Zh,Zi,Zj,Zk,Zl,Zm,Zn,Zo,Zp,Zq,Zr,Zs,Zt,Zu,Zv,Zw,Zx,Zy,Zz,YA,YB,YC,YD,YE,YF,YG,YH,YI,YJ,YK,YL,YM,YN,YO,YP,YQ,YR,Env.set,cond_true,cond_false,String.reduceBEq,YS,YT,YU,YV,YW,YX,YY,YZ,Ya,Yb,Yc,Yd,Ye,Yf] | simp only [Yg,Yh,true_and,Yi,Yj,Yk,Yl,Ym,Yn,Yo,Yp,Yq,Yr,Yt,Yu,Yv,Yw,Yx,Yy,Yz,XA,XB,XC,XD,XE,beq_self_eq_true,reduceIte,reduceCtorEq,↓reduceIte,XF,XG,XH, e2, e3, hR'.len, hz, ei', hR'.sliceTo i]))
        exact h _ _ (r.take i) ((List.prefix_append _ _).trans (pre_new _ _)) (by simp) (LI.new _ _) (rowOk_take rok i)

theorem s_row_by (hP : P.fn "_law_row_by" = some f__law_row_by) {c : Int} {g m : Nat} {full : Bool} (hm : m ≤ 6)
    (h : ∀ H' r l, H <+: H' → LI H' r l → RowOk l g m → Q (.ref r) H') : callN P b (n + 1) "_law_row_by" [.int c, .int (g : Int), .int (m : Int), .bool full] H Q X :=
  s_row_by2 hP hm fun H' r l hp _ hl ok => h H' r l hp hl ok

theorem s_wishes_by (hP : P.fn "_law_wishes_by" = some f__law_wishes_by) (hP1 : P.fn "_law_cell_at" = some f__law_cell_at) (hP2 : P.fn "_law_row_by" = some f__law_row_by) {a : Nat} {is : List Int} (hs : H[a]? = some (.frozen (is.map .int))) {m : Nat} (h1m : 1 ≤ m) (hm : m ≤ 6)
    (h : ∀ H' r W, H <+: H' → WH H' r W → WOk W → W.length = m → Q (.ref r) H') : callN P b (n + 2) "_law_wishes_by" [.ref a, .int (m : Int)] H Q X := by
  have hml : m ≤ lim := Nat.le_trans hm (by decide)
  have hseq : ∀ {H' : Hp}, H <+: H' → seqOf H' a = some (is.map .int) := fun hp => by unfold seqOf; rw [pre_get hp hs]
  (refine callN_in hP rfl ?_; unfold f__law_wishes_by)
  (repeat (first | dsimp only [XI, XJ] | dsimp only [ZA,ZB,ZC,ZD,ZE,ZF,ZG,ZH,ZI,ZJ,ZK,ZL,ZM,ZN,ZO,ZP,ZQ,ZR,ZS,ZT,ZU,ZV,ZW,ZX,ZY,ZZ,Za,Zb,Zc,Zd,Ze,Zf,Zg,Zh,Zi,Zj,Zk,Zl,Zm,Zn,Zo,Zp,Zq,Zr,Zs,Zt,Zu,Zv,Zw,Zx,Zy,Zz,YA,YB,YC,YD,YE,YF,YG,YH,YI,YJ,YK,YL,YM,YN,YO,YP,YQ,YR,Env.set,cond_true,cond_false,String.reduceBEq,YS,YT,YU,YV,YW,YX,YY,YZ,Ya,Yb,Yc,Yd,Ye,Yf] | simp only [Yg,Yh,true_and,Yi,Yj,Yk,Yl,Ym,Yn,Yo,Yp,Yq,Yr,Yt,Yu,Yv,Yw,Yx,Yy,Yz,XA,XB,XC,XD,XE,beq_self_eq_true,reduceIte,reduceCtorEq,↓reduceIte,XF,XG,XH]))
  refine s_cell_at (k := 1) hP1 (hseq (List.prefix_refl _)) ?_
  (repeat (first | dsimp only [XI, XJ] | dsimp only [ZA,ZB,ZC,ZD,ZE,ZF,ZG,ZH,ZI,ZJ,ZK,ZL,ZM,ZN,ZO,ZP,ZQ,ZR,ZS,ZT,ZU,ZV,ZW,ZX,ZY,ZZ,Za,Zb,Zc,Zd,Ze,Zf,Zg,Zh,Zi,Zj,Zk,Zl,Zm,Zn,Zo,Zp,Zq,Zr,Zs,Zt,Zu,Zv,Zw,Zx,Zy,Zz,YA,YB,YC,YD,YE,YF,YG,YH,YI,YJ,YK,YL,YM,YN,YO,YP,YQ,YR,Env.set,cond_true,cond_false,String.reduceBEq,YS,YT,YU,YV,YW,YX,YY,YZ,Ya,Yb,Yc,Yd,Ye,Yf] | simp only [Yg,Yh,true_and,Yi,Yj,Yk,Yl,Ym,Yn,Yo,Yp,Yq,Yr,Yt,Yu,Yv,Yw,Yx,Yy,Yz,XA,XB,XC,XD,XE,beq_self_eq_true,reduceIte,reduceCtorEq,↓reduceIte,XF,XG,XH, range_nat hml]))
  rw [if_neg (by decide)]
  (repeat (first | dsimp only [XI, XJ] | dsimp only [ZA,ZB,ZC,ZD,ZE,ZF,ZG,ZH,ZI,ZJ,ZK,ZL,ZM,ZN,ZO,ZP,ZQ,ZR,ZS,ZT,ZU,ZV,ZW,ZX,ZY,ZZ,Za,Zb,Zc,Zd,Ze,Zf,Zg,Zh,Zi,Zj,Zk,Zl,Zm,Zn,Zo,Zp,Zq,Zr,Zs,Zt,Zu,Zv,Zw,Zx,Zy,Zz,YA,YB,YC,YD,YE,YF,YG,YH,YI,YJ,YK,YL,YM,YN,YO,YP,YQ,YR,Env.set,cond_true,cond_false,String.reduceBEq,YS,YT,YU,YV,YW,YX,YY,YZ,Ya,Yb,Yc,Yd,Ye,Yf] | simp only [Yg,Yh,true_and,Yi,Yj,Yk,Yl,Ym,Yn,Yo,Yp,Yq,Yr,Yt,Yu,Yv,Yw,Yx,Yy,Yz,XA,XB,XC,XD,XE,beq_self_eq_true,reduceIte,reduceCtorEq,↓reduceIte,XF,XG,XH]))
  refine wLoop_idx (fun i acc H' => H <+: H' ∧ ∃ W : List (List Int), W.length = i ∧ All2 (fun r is => ∃ b, r = V.ref b ∧ LI H' b is) acc W ∧ ∀ j, j < i → RowOk (row W j) j m) ⟨List.prefix_refl _, [], rfl, .nil, by simp⟩ (fun i v acc H' hv hI => ⟨trivial, fun k' h1 h2 => ?_⟩) fun acc H' hI => ⟨trivial, ?_⟩
  · obtain ⟨hi, rfl⟩ := rng_get hv
    obtain ⟨hp, W, hW, hA, hR⟩ := hI
    (repeat (first | dsimp only [XI, XJ] | dsimp only [ZA,ZB,ZC,ZD,ZE,ZF,ZG,ZH,ZI,ZJ,ZK,ZL,ZM,ZN,ZO,ZP,ZQ,ZR,ZS,ZT,ZU,ZV,ZW,ZX,ZY,ZZ,Za,Zb,Zc,Zd,Ze,Zf,Zg,Zh,Zi,Zj,Zk,Zl,Zm,Zn,Zo,Zp,Zq,Zr,Zs,Zt,Zu,Zv,Zw,Zx,Zy,Zz,YA,YB,YC,YD,YE,YF,YG,YH,YI,YJ,YK,YL,YM,YN,YO,YP,YQ,YR,Env.set,cond_true,cond_false,String.reduceBEq,YS,YT,YU,YV,YW,YX,YY,YZ,Ya,Yb,Yc,Yd,Ye,Yf] | simp only [Yg,Yh,true_and,Yi,Yj,Yk,Yl,Ym,Yn,Yo,Yp,Yq,Yr,Yt,Yu,Yv,Yw,Yx,Yy,Yz,XA,XB,XC,XD,XE,beq_self_eq_true,reduceIte,reduceCtorEq,↓reduceIte,XF,XG,XH]))
    have e : (3 : Int) + (i : Int) = ((3 + i : Nat) : Int) := by omega
    rw [e]
    refine s_cell_at (k := 3 + i) hP1 (hseq hp) ?_
    (repeat (first | dsimp only [XI, XJ] | dsimp only [ZA,ZB,ZC,ZD,ZE,ZF,ZG,ZH,ZI,ZJ,ZK,ZL,ZM,ZN,ZO,ZP,ZQ,ZR,ZS,ZT,ZU,ZV,ZW,ZX,ZY,ZZ,Za,Zb,Zc,Zd,Ze,Zf,Zg,Zh,Zi,Zj,Zk,Zl,Zm,Zn,Zo,Zp,Zq,Zr,Zs,Zt,Zu,Zv,Zw,Zx,Zy,Zz,YA,YB,YC,YD,YE,YF,YG,YH,YI,YJ,YK,YL,YM,YN,YO,YP,YQ,YR,Env.set,cond_true,cond_false,String.reduceBEq,YS,YT,YU,YV,YW,YX,YY,YZ,Ya,Yb,Yc,Yd,Ye,Yf] | simp only [Yg,Yh,true_and,Yi,Yj,Yk,Yl,Ym,Yn,Yo,Yp,Yq,Yr,Yt,Yu,Yv,Yw,Yx,Yy,Yz,XA,XB,XC,XD,XE,beq_self_eq_true,reduceIte,reduceCtorEq,↓reduceIte,XF,XG,XH]))
    refine s_row_by hP2 hm fun H'' r l hp' hl rok => ?_
    refine h1 _ _ ⟨hp.trans hp', W ++ [l], by simp [hW], (hA.mono fun _ _ ⟨b, e, q⟩ => ⟨b, e, q.pre hp'⟩).append (.cons ⟨r, rfl, hl⟩ .nil), fun j hj => ?_⟩
    by_cases hji : j < i
    · have : row (W ++ [l]) j = row W j := by unfold row; rw [List.getD_eq_getElem?_getD, List.getD_eq_getElem?_getD, List.getElem?_append_left (by omega)]
      rw [this]; exact hR j hji
    · have : j = i := by omega
      subst this
      have : row (W ++ [l]) j = l := by unfold row; rw [List.getD_eq_getElem?_getD, ← hW]; simp
      rw [this]; exact rok
  · obtain ⟨hp, W, hW, hA, hR⟩ := hI
    rw [rng_len] at hW hR
    refine h _ _ W (hp.trans (pre_new _ _)) ⟨acc, get_new _ _, hA.mono fun _ _ ⟨b, e, q⟩ => ⟨b, e, q.pre (pre_new _ _)⟩⟩ ⟨by omega, by omega, fun j hj => ?_⟩ hW
    rw [hW]; exact hR j (by omega)

noncomputable def hitP (W : List (List Int)) (g : Nat) (other : Option Nat) (t : Int) : Bool := match other with
  | some c => t == (c : Int) && both W g c
  | none => false
noncomputable def scanP (W : List (List Int)) (g a : Nat) (other : Option Nat) : List Int → Bool
  | [] => false
  | t :: r => if hitP W g other t then false else if t == (a : Int) then true else scanP W g a other r

theorem scanP_cons {W : List (List Int)} {g a : Nat} {other : Option Nat} {t : Int} {r : List Int} : scanP W g a other (t :: r) = if hitP W g other t then false else if t == (a : Int) then true else scanP W g a other r := rfl

theorem scan_sooner {W : List (List Int)} {g a : Nat} (ha : both W g a = true) (other : Option Nat) : scanP W g a other (row W g) = soonerP W g (some a) other := by
  have hm : (a : Int) ∈ row W g := by unfold both at ha; simp at ha; exact ha.1
  have plain : ∀ l : List Int, (a : Int) ∈ l → (∀ t, hitP W g other t = false) → scanP W g a other l = true := by
    intro l hl hno
    induction l with
    | nil => cases hl
    | cons t r ih =>
      unfold scanP
      rw [hno t]
      by_cases e : t = (a : Int)
      · simp [e]
      · have : (a : Int) ∈ r := by
          rcases List.mem_cons.mp hl with q | q
          · exact absurd q.symm e
          · exact q
        simp [e, ih this]
  cases other with
  | none => simp only [soonerP, ha]; exact plain _ hm fun _ => rfl
  | some c =>
    by_cases hac : a = c
    · subst hac
      simp only [soonerP, bne_self_eq_false, Bool.false_and]
      generalize row W g = l
      induction l with
      | nil => rfl
      | cons t r ih =>
        unfold scanP
        by_cases e : t = (a : Int)
        · simp [e, ha, hitP]
        · simp [e, ih, hitP]
    · have e0 : (a != c) = true := by simp [hac]
      cases hc : both W g c with
      | false => simp only [soonerP, e0, ha, hc]; exact plain _ hm fun t => by simp [hc, hitP]
      | true =>
        simp only [soonerP, e0, ha, hc, Bool.true_and, Bool.not_true, Bool.false_or]
        generalize row W g = l
        induction l with
        | nil => simp [scanP]
        | cons t r ih =>
          unfold scanP
          rw [List.idxOf_cons, List.idxOf_cons]
          have hac' : (a : Int) ≠ (c : Int) := by omega
          by_cases e1 : t = (c : Int)
          · have : (t == (a : Int)) = false := by simp [e1]; omega
            simp [e1, hc, hitP]
          · have e1' : (t == (c : Int)) = false := by simpa using e1
            by_cases e2 : t = (a : Int)
            · have e2' : (t == (a : Int)) = true := by simpa using e2
              simp only [hitP, e1', e2']; simp
            · have e2' : (t == (a : Int)) = false := by simpa using e2
              simp only [hitP, e1', e2', ih]; simp

theorem s_law_rather (hP : P.fn "_law_rather" = some f__law_rather) (hP1 : P.fn "_law_suits" = some f__law_suits) {w : Nat} {W : List (List Int)} (hw : WH H w W) {g : Nat} (hg : g < W.length) {one other : Option Nat} (h1 : ∀ i, one = some i → i < W.length) (h2 : ∀ i, other = some i → i < W.length)
    (h : Q (.bool (soonerP W g one other)) H) : callN P b (n + 2) "_law_rather" [.ref w, .int (g : Int), ov one, ov other] H Q X := by
  (refine callN_in hP rfl ?_; unfold f__law_rather)
  cases one with
  | none => (repeat (first | with_reducible refine XK ?_ | with_reducible refine XL ?_ | dsimp only [ZA,ZB,ZC,ZD,ZE,ZF,ZG,ZH,ZI,ZJ,ZK,ZL,ZM,ZN,ZO,ZP,ZQ,ZR,ZS,ZT,ZU,ZV,ZW,ZX,ZY,ZZ,Za,Zb,Zc,Zd,Ze,Zf,Zg,Zh,Zi,Zj,Zk,Zl,Zm,Zn,Zo,Zp,Zq,Zr,Zs,Zt,Zu,Zv,Zw,Zx,Zy,Zz,YA,YB,YC,YD,YE,YF,YG,YH,YI,YJ,YK,YL,YM,YN,YO,YP,YQ,YR,Env.set,cond_true,cond_false,String.reduceBEq,YS,YT,YU,YV,YW,YX,YY,YZ,Ya,Yb,Yc,Yd,Ye,Yf] | simp only [Yg,Yh,true_and,Yi,Yj,Yk,Yl,Ym,Yn,Yo,Yp,Yq,Yr,Yt,Yu,Yv,Yw,Yx,Yy,Yz,XA,XB,XC,XD,XE,beq_self_eq_true,reduceIte,reduceCtorEq,↓reduceIte,XF,XG,XH, ov])); exact h
  | some a =>
    have ha := h1 a rfl
    obtain ⟨r, hr, hl⟩ := hw.item (row_get hg)
    (repeat (first | with_reducible refine XK ?_ | with_reducible refine XL ?_ | dsimp only [ZA,ZB,ZC,ZD,ZE,ZF,ZG,ZH,ZI,ZJ,ZK,ZL,ZM,ZN,ZO,ZP,ZQ,ZR,ZS,ZT,ZU,ZV,ZW,ZX,ZY,ZZ,Za,Zb,Zc,Zd,Ze,Zf,Zg,Zh,Zi,Zj,Zk,Zl,Zm,Zn,Zo,Zp,Zq,Zr,Zs,Zt,Zu,Zv,Zw,Zx,Zy,Zz,YA,YB,YC,YD,YE,YF,YG,YH,YI,YJ,YK,YL,YM,YN,YO,YP,YQ,YR,Env.set,cond_true,cond_false,String.reduceBEq,YS,YT,YU,YV,YW,YX,YY,YZ,Ya,Yb,Yc,Yd,Ye,Yf] | simp only [Yg,Yh,true_and,Yi,Yj,Yk,Yl,Ym,Yn,Yo,Yp,Yq,Yr,Yt,Yu,Yv,Yw,Yx,Yy,Yz,XA,XB,XC,XD,XE,beq_self_eq_true,reduceIte,reduceCtorEq,↓reduceIte,XF,XG,XH, ov]))
    refine s_law_suits hP1 hw hg ha ?_
    cases ea : both W g a with
    | false =>
      have : soonerP W g (some a) other = false := by cases other <;> simp [soonerP, ea]
      rw [this] at h
      (repeat (first | with_reducible refine XK ?_ | with_reducible refine XL ?_ | dsimp only [ZA,ZB,ZC,ZD,ZE,ZF,ZG,ZH,ZI,ZJ,ZK,ZL,ZM,ZN,ZO,ZP,ZQ,ZR,ZS,ZT,ZU,ZV,ZW,ZX,ZY,ZZ,Za,Zb,Zc,Zd,Ze,Zf,Zg,Zh,Zi,Zj,Zk,Zl,Zm,Zn,Zo,Zp,Zq,Zr,Zs,Zt,Zu,Zv,Zw,Zx,Zy,Zz,YA,YB,YC,YD,YE,YF,YG,YH,YI,YJ,YK,YL,YM,YN,YO,YP,YQ,YR,Env.set,cond_true,cond_false,String.reduceBEq,YS,YT,YU,YV,YW,YX,YY,YZ,Ya,Yb,Yc,Yd,Ye,Yf] | simp only [Yg,Yh,true_and,Yi,Yj,Yk,Yl,Ym,Yn,Yo,Yp,Yq,Yr,Yt,Yu,Yv,Yw,Yx,Yy,Yz,XA,XB,XC,XD,XE,beq_self_eq_true,reduceIte,reduceCtorEq,↓reduceIte,XF,XG,XH])); exact h
    | true =>
      rw [← scan_sooner ea other] at h
      (repeat (first | with_reducible refine XK ?_ | with_reducible refine XL ?_ | dsimp only [ZA,ZB,ZC,ZD,ZE,ZF,ZG,ZH,ZI,ZJ,ZK,ZL,ZM,ZN,ZO,ZP,ZQ,ZR,ZS,ZT,ZU,ZV,ZW,ZX,ZY,ZZ,Za,Zb,Zc,Zd,Ze,Zf,Zg,Zh,Zi,Zj,Zk,Zl,Zm,Zn,Zo,Zp,Zq,Zr,Zs,Zt,Zu,Zv,Zw,Zx,Zy,Zz,YA,YB,YC,YD,YE,YF,YG,YH,YI,YJ,YK,YL,YM,YN,YO,YP,YQ,YR,Env.set,cond_true,cond_false,String.reduceBEq,YS,YT,YU,YV,YW,YX,YY,YZ,Ya,Yb,Yc,Yd,Ye,Yf] | simp only [Yg,Yh,true_and,Yi,Yj,Yk,Yl,Ym,Yn,Yo,Yp,Yq,Yr,Yt,Yu,Yv,Yw,Yx,Yy,Yz,XA,XB,XC,XD,XE,beq_self_eq_true,reduceIte,reduceCtorEq,↓reduceIte,XF,XG,XH, hr, hl.seq]))
      refine wFor_idx (fun i ρ H' => H' = H ∧ scanP W g a other ((row W g).drop i) = scanP W g a other (row W g) ∧ ρ "_law_wishes" = some (.ref w) ∧ ρ "_law_guest" = some (.int (g : Int)) ∧ ρ "_law_one" = some (.int (a : Int)) ∧ ρ "_law_other" = some (ov other)) ⟨rfl, by simp, rfl, rfl, rfl, rfl⟩ (fun i v ρ H' hv hI => ⟨by rw [hI.1], fun k' k1 k2 => ?_⟩) fun ρ H' hI => ⟨by rw [hI.1], ?_⟩
      · obtain ⟨rfl, hsc, e1, e2, e3, e4⟩ := hI
        rw [List.getElem?_map] at hv
        obtain ⟨t, ht, rfl⟩ := Option.map_eq_some_iff.mp hv
        obtain ⟨hti, het⟩ := List.getElem?_eq_some_iff.mp ht
        rw [List.drop_eq_getElem_cons hti, het] at hsc
        rw [scanP_cons] at hsc
        have rest : ∀ (hno : hitP W g other t = false), wIf (t == (a : Int)) (k' (some (.bool true)) (ρ.set "_law_thing" (.int t)) H') (k' none (ρ.set "_law_thing" (.int t)) H') := by
          intro hno
          rw [hno] at hsc
          simp only [Bool.false_eq_true, if_false] at hsc
          refine ⟨fun q => k2 _ _ _ ?_, fun q => k1 _ _ ⟨rfl, ?_, ?_⟩⟩
          · rw [q] at hsc; simp only [if_true] at hsc; rw [← hsc] at h; exact h
          · rw [q] at hsc; simpa using hsc
          · (repeat (first | with_reducible refine XK ?_ | with_reducible refine XL ?_ | dsimp only [ZA,ZB,ZC,ZD,ZE,ZF,ZG,ZH,ZI,ZJ,ZK,ZL,ZM,ZN,ZO,ZP,ZQ,ZR,ZS,ZT,ZU,ZV,ZW,ZX,ZY,ZZ,Za,Zb,Zc,Zd,Ze,Zf,Zg,Zh,Zi,Zj,Zk,Zl,Zm,Zn,Zo,Zp,Zq,Zr,Zs,Zt,Zu,Zv,Zw,Zx,Zy,Zz,YA,YB,YC,YD,YE,YF,YG,YH,YI,YJ,YK,YL,YM,YN,YO,YP,YQ,YR,Env.set,cond_true,cond_false,String.reduceBEq,YS,YT,YU,YV,YW,YX,YY,YZ,Ya,Yb,Yc,Yd,Ye,Yf] | simp only [Yg,Yh,true_and,Yi,Yj,Yk,Yl,Ym,Yn,Yo,Yp,Yq,Yr,Yt,Yu,Yv,Yw,Yx,Yy,Yz,XA,XB,XC,XD,XE,beq_self_eq_true,reduceIte,reduceCtorEq,↓reduceIte,XF,XG,XH, e1, e2, e3, e4]))
        cases other with
        | none => (repeat (first | with_reducible refine XK ?_ | with_reducible refine XL ?_ | dsimp only [ZA,ZB,ZC,ZD,ZE,ZF,ZG,ZH,ZI,ZJ,ZK,ZL,ZM,ZN,ZO,ZP,ZQ,ZR,ZS,ZT,ZU,ZV,ZW,ZX,ZY,ZZ,Za,Zb,Zc,Zd,Ze,Zf,Zg,Zh,Zi,Zj,Zk,Zl,Zm,Zn,Zo,Zp,Zq,Zr,Zs,Zt,Zu,Zv,Zw,Zx,Zy,Zz,YA,YB,YC,YD,YE,YF,YG,YH,YI,YJ,YK,YL,YM,YN,YO,YP,YQ,YR,Env.set,cond_true,cond_false,String.reduceBEq,YS,YT,YU,YV,YW,YX,YY,YZ,Ya,Yb,Yc,Yd,Ye,Yf] | simp only [Yg,Yh,true_and,Yi,Yj,Yk,Yl,Ym,Yn,Yo,Yp,Yq,Yr,Yt,Yu,Yv,Yw,Yx,Yy,Yz,XA,XB,XC,XD,XE,beq_self_eq_true,reduceIte,reduceCtorEq,↓reduceIte,XF,XG,XH, e1, e2, e3, e4, ov])); exact rest rfl
        | some c =>
          (repeat (first | with_reducible refine XK ?_ | with_reducible refine XL ?_ | dsimp only [ZA,ZB,ZC,ZD,ZE,ZF,ZG,ZH,ZI,ZJ,ZK,ZL,ZM,ZN,ZO,ZP,ZQ,ZR,ZS,ZT,ZU,ZV,ZW,ZX,ZY,ZZ,Za,Zb,Zc,Zd,Ze,Zf,Zg,Zh,Zi,Zj,Zk,Zl,Zm,Zn,Zo,Zp,Zq,Zr,Zs,Zt,Zu,Zv,Zw,Zx,Zy,Zz,YA,YB,YC,YD,YE,YF,YG,YH,YI,YJ,YK,YL,YM,YN,YO,YP,YQ,YR,Env.set,cond_true,cond_false,String.reduceBEq,YS,YT,YU,YV,YW,YX,YY,YZ,Ya,Yb,Yc,Yd,Ye,Yf] | simp only [Yg,Yh,true_and,Yi,Yj,Yk,Yl,Ym,Yn,Yo,Yp,Yq,Yr,Yt,Yu,Yv,Yw,Yx,Yy,Yz,XA,XB,XC,XD,XE,beq_self_eq_true,reduceIte,reduceCtorEq,↓reduceIte,XF,XG,XH, e1, e2, e3, e4, ov]))
          refine ⟨fun q => ?_, fun q => ?_⟩
          · refine s_law_suits hP1 hw hg (h2 c rfl) ?_
            cases ec : both W g c with
            | true =>
              (repeat (first | with_reducible refine XK ?_ | with_reducible refine XL ?_ | dsimp only [ZA,ZB,ZC,ZD,ZE,ZF,ZG,ZH,ZI,ZJ,ZK,ZL,ZM,ZN,ZO,ZP,ZQ,ZR,ZS,ZT,ZU,ZV,ZW,ZX,ZY,ZZ,Za,Zb,Zc,Zd,Ze,Zf,Zg,Zh,Zi,Zj,Zk,Zl,Zm,Zn,Zo,Zp,Zq,Zr,Zs,Zt,Zu,Zv,Zw,Zx,Zy,Zz,YA,YB,YC,YD,YE,YF,YG,YH,YI,YJ,YK,YL,YM,YN,YO,YP,YQ,YR,Env.set,cond_true,cond_false,String.reduceBEq,YS,YT,YU,YV,YW,YX,YY,YZ,Ya,Yb,Yc,Yd,Ye,Yf] | simp only [Yg,Yh,true_and,Yi,Yj,Yk,Yl,Ym,Yn,Yo,Yp,Yq,Yr,Yt,Yu,Yv,Yw,Yx,Yy,Yz,XA,XB,XC,XD,XE,beq_self_eq_true,reduceIte,reduceCtorEq,↓reduceIte,XF,XG,XH]))
              refine k2 _ _ _ ?_
              have : scanP W g a (some c) (row W g) = false := by rw [← hsc]; simp [q, ec, hitP]
              rw [this] at h; exact h
            | false => (repeat (first | with_reducible refine XK ?_ | with_reducible refine XL ?_ | dsimp only [ZA,ZB,ZC,ZD,ZE,ZF,ZG,ZH,ZI,ZJ,ZK,ZL,ZM,ZN,ZO,ZP,ZQ,ZR,ZS,ZT,ZU,ZV,ZW,ZX,ZY,ZZ,Za,Zb,Zc,Zd,Ze,Zf,Zg,Zh,Zi,Zj,Zk,Zl,Zm,Zn,Zo,Zp,Zq,Zr,Zs,Zt,Zu,Zv,Zw,Zx,Zy,Zz,YA,YB,YC,YD,YE,YF,YG,YH,YI,YJ,YK,YL,YM,YN,YO,YP,YQ,YR,Env.set,cond_true,cond_false,String.reduceBEq,YS,YT,YU,YV,YW,YX,YY,YZ,Ya,Yb,Yc,Yd,Ye,Yf] | simp only [Yg,Yh,true_and,Yi,Yj,Yk,Yl,Ym,Yn,Yo,Yp,Yq,Yr,Yt,Yu,Yv,Yw,Yx,Yy,Yz,XA,XB,XC,XD,XE,beq_self_eq_true,reduceIte,reduceCtorEq,↓reduceIte,XF,XG,XH, e1, e2, e3, e4])); exact rest (by simp [ec, hitP])
          · (repeat (first | with_reducible refine XK ?_ | with_reducible refine XL ?_ | dsimp only [ZA,ZB,ZC,ZD,ZE,ZF,ZG,ZH,ZI,ZJ,ZK,ZL,ZM,ZN,ZO,ZP,ZQ,ZR,ZS,ZT,ZU,ZV,ZW,ZX,ZY,ZZ,Za,Zb,Zc,Zd,Ze,Zf,Zg,Zh,Zi,Zj,Zk,Zl,Zm,Zn,Zo,Zp,Zq,Zr,Zs,Zt,Zu,Zv,Zw,Zx,Zy,Zz,YA,YB,YC,YD,YE,YF,YG,YH,YI,YJ,YK,YL,YM,YN,YO,YP,YQ,YR,Env.set,cond_true,cond_false,String.reduceBEq,YS,YT,YU,YV,YW,YX,YY,YZ,Ya,Yb,Yc,Yd,Ye,Yf] | simp only [Yg,Yh,true_and,Yi,Yj,Yk,Yl,Ym,Yn,Yo,Yp,Yq,Yr,Yt,Yu,Yv,Yw,Yx,Yy,Yz,XA,XB,XC,XD,XE,beq_self_eq_true,reduceIte,reduceCtorEq,↓reduceIte,XF,XG,XH, e1, e2, e3, e4])); exact rest (by simp [q, hitP])
      · obtain ⟨rfl, hsc, _⟩ := hI
        (repeat (first | with_reducible refine XK ?_ | with_reducible refine XL ?_ | dsimp only [ZA,ZB,ZC,ZD,ZE,ZF,ZG,ZH,ZI,ZJ,ZK,ZL,ZM,ZN,ZO,ZP,ZQ,ZR,ZS,ZT,ZU,ZV,ZW,ZX,ZY,ZZ,Za,Zb,Zc,Zd,Ze,Zf,Zg,Zh,Zi,Zj,Zk,Zl,Zm,Zn,Zo,Zp,Zq,Zr,Zs,Zt,Zu,Zv,Zw,Zx,Zy,Zz,YA,YB,YC,YD,YE,YF,YG,YH,YI,YJ,YK,YL,YM,YN,YO,YP,YQ,YR,Env.set,cond_true,cond_false,String.reduceBEq,YS,YT,YU,YV,YW,YX,YY,YZ,Ya,Yb,Yc,Yd,Ye,Yf] | simp only [Yg,Yh,true_and,Yi,Yj,Yk,Yl,Ym,Yn,Yo,Yp,Yq,Yr,Yt,Yu,Yv,Yw,Yx,Yy,Yz,XA,XB,XC,XD,XE,beq_self_eq_true,reduceIte,reduceCtorEq,↓reduceIte,XF,XG,XH]))
        rw [List.length_map, List.drop_length] at hsc
        rw [← hsc] at h; exact h
end
end Mine

namespace Mine
open PySem

noncomputable def copyE (x y : String) : E := .compS (.op .list [.var y]) (.one y) (.var x) []

theorem w_copy2 {C : Ctx} {x y : String} {ρ : Env} {H : Hp} {Q : Post} {X : XP} {w : Nat} {W : List (List Int)} (hρ : ρ x = some (.ref w)) (hw : WH H w W) (h : ∀ H' r, H <+: H' → H.length ≤ r → WH H' r W → Q (.ref r) H') : wE C (copyE x y) ρ H Q X := by
  obtain ⟨rs, h1, h2⟩ := hw
  unfold copyE
  (repeat (first | dsimp only [XI, XJ] | dsimp only [ZA,ZB,ZC,ZD,ZE,ZF,ZG,ZH,ZI,ZJ,ZK,ZL,ZM,ZN,ZO,ZP,ZQ,ZR,ZS,ZT,ZU,ZV,ZW,ZX,ZY,ZZ,Za,Zb,Zc,Zd,Ze,Zf,Zg,Zh,Zi,Zj,Zk,Zl,Zm,Zn,Zo,Zp,Zq,Zr,Zs,Zt,Zu,Zv,Zw,Zx,Zy,Zz,YA,YB,YC,YD,YE,YF,YG,YH,YI,YJ,YK,YL,YM,YN,YO,YP,YQ,YR,Env.set,cond_true,cond_false,String.reduceBEq,YS,YT,YU,YV,YW,YX,YY,YZ,Ya,Yb,Yc,Yd,Ye,Yf] | simp only [Yg,Yh,true_and,Yi,Yj,Yk,Yl,Ym,Yn,Yo,Yp,Yq,Yr,Yt,Yu,Yv,Yw,Yx,Yy,Yz,XA,XB,XC,XD,XE,beq_self_eq_true,reduceIte,reduceCtorEq,↓reduceIte,XF,XG,XH, hρ, seqOf_list h1]))
  have hkeep : ∀ H' : Hp, H <+: H' → H'[w]? = H[w]? := fun H' hp => by rw [h1]; exact pre_get hp h1
  refine wLoop_idx (fun i acc H' => H <+: H' ∧ All2 (fun r is => ∃ b, r = V.ref b ∧ LI H' b is) acc (W.take i)) ⟨List.prefix_refl _, by rw [List.take_zero]; exact .nil⟩ (fun i v acc H' hv hI => ⟨hkeep _ hI.1, fun k' k1 k2 => ?_⟩) fun acc H' hI => ⟨hkeep _ hI.1, ?_⟩
  · obtain ⟨hp, hA⟩ := hI
    obtain ⟨l, hl, b, rfl, hb⟩ := h2.get hv
    (repeat (first | dsimp only [XI, XJ] | dsimp only [ZA,ZB,ZC,ZD,ZE,ZF,ZG,ZH,ZI,ZJ,ZK,ZL,ZM,ZN,ZO,ZP,ZQ,ZR,ZS,ZT,ZU,ZV,ZW,ZX,ZY,ZZ,Za,Zb,Zc,Zd,Ze,Zf,Zg,Zh,Zi,Zj,Zk,Zl,Zm,Zn,Zo,Zp,Zq,Zr,Zs,Zt,Zu,Zv,Zw,Zx,Zy,Zz,YA,YB,YC,YD,YE,YF,YG,YH,YI,YJ,YK,YL,YM,YN,YO,YP,YQ,YR,Env.set,cond_true,cond_false,String.reduceBEq,YS,YT,YU,YV,YW,YX,YY,YZ,Ya,Yb,Yc,Yd,Ye,Yf] | simp only [Yg,Yh,true_and,Yi,Yj,Yk,Yl,Ym,Yn,Yo,Yp,Yq,Yr,Yt,Yu,Yv,Yw,Yx,Yy,Yz,XA,XB,XC,XD,XE,beq_self_eq_true,reduceIte,reduceCtorEq,↓reduceIte,XF,XG,XH, (hb.pre hp).seq]))
    refine k1 _ _ ⟨hp.trans (pre_new _ _), ?_⟩
    have : W.take (i + 1) = W.take i ++ [l] := by
      obtain ⟨hi, e⟩ := List.getElem?_eq_some_iff.mp hl
      rw [List.take_succ_eq_append_getElem hi, e]
    rw [this]
    exact (hA.mono fun _ _ ⟨b, e, q⟩ => ⟨b, e, q.pre (pre_new _ _)⟩).append (.cons ⟨_, rfl, LI.new _ _⟩ .nil)
  · obtain ⟨hp, hA⟩ := hI
    have : W.take rs.length = W := by rw [h2.length]; exact List.take_length
    rw [this] at hA
    exact h _ _ (hp.trans (pre_new _ _)) hp.length_le ⟨acc, get_new _ _, hA.mono fun _ _ ⟨b, e, q⟩ => ⟨b, e, q.pre (pre_new _ _)⟩⟩

theorem WH.read {H : Hp} {w : Nat} {W : List (List Int)} (h : WH H w W) : readD 8 H (.ref w) = some (.list (W.map fun l => .list (l.map .int))) := by
  obtain ⟨rs, h1, h2⟩ := h
  have : rs.mapM (readD 7 H) = some (W.map fun l => PyData.list (l.map .int)) := by
    clear h1
    induction h2 with
    | nil => rfl
    | cons hr _ ih =>
      obtain ⟨b, rfl, hb⟩ := hr
      unfold LI at hb
      rw [List.mapM_cons, ih]
      simp only [rd_n, rd_b, rd_i, rd_s, rd_r, hb, mapM_read]; rfl
  simp [rd_n, rd_b, rd_i, rd_s, rd_r, h1, this]

theorem eqvAll_ints : ∀ l l' : List Int, PyData.eqvAll (l.map .int) (l'.map .int) = decide (l = l')
  | [], [] => rfl
  | [], _ :: _ => by simp [da_nn, da_cc, da_nc, da_cn]
  | _ :: _, [] => by simp [da_nn, da_cc, da_nc, da_cn]
  | i :: l, j :: l' => by
    simp only [List.map_cons, da_nn, da_cc, da_nc, da_cn, dq_ii, dq_nn, dq_in, dq_ni, dq_bb, dq_ss, dq_ll, dq_tt, eqvAll_ints l l', List.cons.injEq]
    by_cases e : i = j <;> simp [e]
theorem eqvAll_rows : ∀ W W' : List (List Int), PyData.eqvAll (W.map fun l => .list (l.map .int)) (W'.map fun l => .list (l.map .int)) = decide (W = W')
  | [], [] => rfl
  | [], _ :: _ => by simp [da_nn, da_cc, da_nc, da_cn]
  | _ :: _, [] => by simp [da_nn, da_cc, da_nc, da_cn]
  | i :: l, j :: l' => by
    simp only [List.map_cons, da_nn, da_cc, da_nc, da_cn, dq_ii, dq_nn, dq_in, dq_ni, dq_bb, dq_ss, dq_ll, dq_tt, eqvAll_rows l l', eqvAll_ints, List.cons.injEq]
    by_cases e : i = j <;> simp [e]
theorem canLay_rows : ∀ W : List (List Int), PyData.canLayAll0 (W.map fun l => .list (l.map .int)) = true
  | [] => rfl
  | l :: W => by simp [ca_n, ca_c, cl_n, cl_b, cl_i, cl_s, cl_l, cl_t, canLay_ints, canLay_rows W]
theorem WH.eq {H : Hp} {w w' : Nat} {W W' : List (List Int)} (h : WH H w W) (h' : WH H w' W') : eqD H (.ref w) (.ref w') = some (decide (W = W')) := by
  simp [eqD, h.read, h'.read, cl_n, cl_b, cl_i, cl_s, cl_l, cl_t, canLay_rows, dq_ii, dq_nn, dq_in, dq_ni, dq_bb, dq_ss, dq_ll, dq_tt, eqvAll_rows]

section
variable {P : Prog} {b : Bool} {n : Nat} {H : Hp} {Q : Post} {X : XP}

end


end Mine

namespace Mine
open PySem

/-- mates -/
noncomputable def MT (H : Hp) (a : Nat) (M : List (Option Nat)) : Prop := H[a]? = some (.list (M.map ov))
theorem MT.pre {H H' : Hp} {a : Nat} {M : List (Option Nat)} (h : MT H a M) (hp : H <+: H') : MT H' a M := pre_get hp h
theorem MT.item {H : Hp} {a : Nat} {M : List (Option Nat)} (h : MT H a M) {i : Nat} (hi : i < M.length) : itemV (.ref a) (.int (i : Int)) H = some (ov (M.getD i none)) :=
  item_seq (seqOf_list h) (by rw [List.getElem?_map, List.getElem?_eq_getElem hi, List.getD_eq_getElem?_getD, List.getElem?_eq_getElem hi]; rfl)
theorem MT.len {H : Hp} {w : Nat} {M : List (Option Nat)} (h : MT H w M) : lenV (.ref w) H = some (M.length : Int) := by
  unfold lenV; simp [seqOf_list h]
theorem MT.isList {H : Hp} {w : Nat} {M : List (Option Nat)} (h : MT H w M) : isInst (.ref w) ["list"] H = some true := by
  unfold MT at h; simp [isInst, isObj, typesOf, h]

structure MOk (W : List (List Int)) (M : List (Option Nat)) : Prop where
  len : M.length = W.length
  two : ∀ i j, M.getD i none = some j → j < W.length ∧ M.getD j none = some i ∧ both W i j = true

noncomputable def PRv (H : Hp) (v : V) (p : Nat × Nat) : Prop := ∃ b, v = .ref b ∧ H[b]? = some (.tuple [.int (p.1 : Int), .int (p.2 : Int)])
/-- a list of pairs -/
noncomputable def PR (H : Hp) (r : Nat) (ps : List (Nat × Nat)) : Prop := ∃ rs, H[r]? = some (.list rs) ∧ All2 (PRv H) rs ps
theorem PRv.pre {H H' : Hp} {v : V} {p : Nat × Nat} (h : PRv H v p) (hp : H <+: H') : PRv H' v p := let ⟨b, e, q⟩ := h; ⟨b, e, pre_get hp q⟩
theorem PR.pre {H H' : Hp} {a : Nat} {ps : List (Nat × Nat)} (h : PR H a ps) (hp : H <+: H') : PR H' a ps :=
  let ⟨rs, h1, h2⟩ := h; ⟨rs, pre_get hp h1, h2.mono fun _ _ q => q.pre hp⟩
theorem PR.len {H : Hp} {w : Nat} {ps : List (Nat × Nat)} (h : PR H w ps) : lenV (.ref w) H = some (ps.length : Int) := by
  obtain ⟨rs, h1, h2⟩ := h
  unfold lenV; simp [seqOf_list h1, h2.length]
theorem PR.isList {H : Hp} {w : Nat} {ps : List (Nat × Nat)} (h : PR H w ps) : isInst (.ref w) ["list"] H = some true := by
  obtain ⟨rs, h1, h2⟩ := h; simp [isInst, isObj, typesOf, h1]

theorem pre_set {H H' : Hp} (hp : H <+: H') {r : Nat} (hr : H.length ≤ r) (o : O) : H <+: H'.set r o := by
  obtain ⟨t, rfl⟩ := hp
  rw [List.set_append_right _ _ hr]; exact List.prefix_append _ _
theorem get_set_ne {H : Hp} {r b : Nat} (h : b ≠ r) (o : O) : (H.set r o)[b]? = H[b]? := List.getElem?_set_ne (Ne.symm h)
theorem get_set_eq {H : Hp} {r : Nat} {o' : O} (h : H[r]? = some o') (o : O) : (H.set r o)[r]? = some o := by
  rw [List.getElem?_set_self (List.getElem?_eq_some_iff.mp h).1]

/-- a pair put behind -/
theorem PR.push {H : Hp} {r : Nat} {ps : List (Nat × Nat)} (h : PR H r ps) (hl : ps.length < lim) {i j : Nat} : ∃ H', methV .append [.ref r, .ref H.length] (H ++ [.tuple [.int (i : Int), .int (j : Int)]]) = some (.none, H') ∧ PR H' r (ps ++ [(i, j)]) ∧
    ∀ H₀, H₀ <+: H → H₀.length ≤ r → H₀ <+: H' := by
  obtain ⟨rs, h1, h2⟩ := h
  have h1' := pre_get (pre_new H (.tuple [.int (i : Int), .int (j : Int)])) h1
  refine ⟨_, append_at h1' (by rw [h2.length]; exact hl), ⟨_, get_set_eq h1' _, ?_⟩, fun H₀ hp hr => pre_set (hp.trans (pre_new _ _)) hr _⟩
  have keep : ∀ v p, PRv H v p → PRv ((H ++ [O.tuple [.int (i : Int), .int (j : Int)]]).set r (O.list (rs ++ [V.ref H.length]))) v p := fun v p ⟨b, e, q⟩ => ⟨b, e, by
    rw [get_set_ne (by rintro rfl; rw [h1] at q; cases q)]; exact pre_get (pre_new _ _) q⟩
  refine (h2.mono keep).append (.cons ⟨H.length, rfl, ?_⟩ .nil)
  have hlt := (List.getElem?_eq_some_iff.mp h1).1
  rw [get_set_ne (by omega)]; exact get_new _ _

noncomputable def restAt (W : List (List Int)) (M : List (Option Nat)) (i j : Nat) : Bool := soonerP W i (some j) (M.getD i none) && soonerP W j (some i) (M.getD j none)
noncomputable def rowP (W : List (List Int)) (M : List (Option Nat)) (i d : Nat) : List (Nat × Nat) := ((List.range d).filter fun k => restAt W M i (i + 1 + k)).map fun k => (i, i + 1 + k)
noncomputable def restTo (W : List (List Int)) (M : List (Option Nat)) (i : Nat) : List (Nat × Nat) := (List.range i).flatMap fun i => rowP W M i (W.length - (i + 1))
/-- the pairs that are restless -/
noncomputable def restP (W : List (List Int)) (M : List (Option Nat)) : List (Nat × Nat) := restTo W M W.length

theorem rowP_succ (W : List (List Int)) (M : List (Option Nat)) (i d : Nat) : rowP W M i (d + 1) = rowP W M i d ++ (if restAt W M i (i + 1 + d) then [(i, i + 1 + d)] else []) := by
  unfold rowP
  rw [List.range_succ, List.filter_append, List.map_append]
  congr 1
  by_cases h : restAt W M i (i + 1 + d) <;> simp [h]
theorem restTo_succ (W : List (List Int)) (M : List (Option Nat)) (i : Nat) : restTo W M (i + 1) = restTo W M i ++ rowP W M i (W.length - (i + 1)) := by
  unfold restTo
  rw [List.range_succ, List.flatMap_append]; simp
theorem rowP_len (W : List (List Int)) (M : List (Option Nat)) (i d : Nat) : (rowP W M i d).length ≤ d := by
  unfold rowP
  rw [List.length_map]; exact Nat.le_trans (List.length_filter_le _ _) (by simp)
theorem restTo_len (W : List (List Int)) (M : List (Option Nat)) (i : Nat) : (restTo W M i).length ≤ i * W.length := by
  induction i with
  | zero => simp [restTo]
  | succ i ih =>
    rw [restTo_succ, List.length_append, Nat.succ_mul]
    have := rowP_len W M i (W.length - (i + 1)); omega

noncomputable def rng2 (a b : Nat) : List V := (List.range (b - a)).map fun k : Nat => V.int ((a + k : Nat) : Int)
theorem rangeI_rng2 (a b : Nat) : (rangeI (a : Int) (b : Int) 1).map V.int = rng2 a b := by
  unfold rangeI rng2
  rw [List.map_map]
  have : (if (a : Int) < b then ((b : Int) - a - 1) / 1 + 1 else 0).toNat = b - a := by split <;> omega
  rw [this]
  refine List.map_congr_left fun k _ => ?_
  simp
theorem rng2_len (a b : Nat) : (rng2 a b).length = b - a := by simp [rng2]
theorem rng2_get {a b i : Nat} {v : V} (h : (rng2 a b)[i]? = some v) : a + i < b ∧ v = .int ((a + i : Nat) : Int) := by
  unfold rng2 at h
  rw [List.getElem?_map] at h
  obtain ⟨j, hj, rfl⟩ := Option.map_eq_some_iff.mp h
  obtain ⟨hl, e⟩ := List.getElem?_eq_some_iff.mp hj
  simp at hl e; subst e; exact ⟨by omega, rfl⟩
theorem range2_nat {a b : Nat} (ha : a ≤ lim) (hb : b ≤ lim) : rangeOf [.int (a : Int), .int (b : Int)] = some (rangeI (a : Int) (b : Int) 1) := by
  unfold rangeOf; simp [ha, hb]

noncomputable def SoonSpec (P : Prog) (b : Bool) (n : Nat) (f : String) : Prop := ∀ {H : Hp} {Q : Post} {X : XP} {w : Nat} {W : List (List Int)}, WH H w W → ∀ {g : Nat}, g < W.length → ∀ {one other : Option Nat}, (∀ i, one = some i → i < W.length) → (∀ i, other = some i → i < W.length) →
  Q (.bool (soonerP W g one other)) H → callN P b n f [.ref w, .int (g : Int), ov one, ov other] H Q X

/-- found_restless, in all its spellings -/
noncomputable def restFn (w m p o t f : String) : Fn := ⟨[w, m], [.assign p (.op .mkList []),
  .forR o [.op .len [.var w]]
    [.forR t [.op (.bin .add) [.var o, .int 1], .op .len [.var w]]
      [.ite (.and_ [.call f [.var w, .var o, .var t, .op .item [.var m, .var o]], .call f [.var w, .var t, .var o, .op .item [.var m, .var t]]])
        [.expr (.mcall .append (.var p) [.op .mkTuple [.var o, .var t]])]
        []]],
  .ret (.var p)]⟩

section
variable {P : Prog} {b : Bool} {n : Nat} {H : Hp} {Q : Post} {X : XP}

theorem s_restFn {w m p o t f g : String} (hP : P.fn g = some (restFn w m p o t f)) (hf : SoonSpec P b n f) (hn : [w, m, p, o, t].Nodup) {aw am : Nat} {W : List (List Int)} {M : List (Option Nat)} (hw : WH H aw W) (ok : WOk W) (hm : MT H am M) (mok : MOk W M)
    (h : ∀ H' r, H <+: H' → H.length ≤ r → PR H' r (restP W M) → Q (.ref r) H') : callN P b (n + 1) g [.ref aw, .ref am] H Q X := by
  simp only [List.nodup_cons, List.mem_cons, List.not_mem_nil, or_false, not_or, not_false_eq_true, List.nodup_nil, _root_.and_true] at hn
  obtain ⟨⟨wm, wp, wo, wt⟩, ⟨mp, mo, mt⟩, ⟨po, pt⟩, ot⟩ := hn
  have bq : ∀ {a b : String}, ¬ a = b → (a == b) = false := fun h => beq_eq_false_iff_ne.mpr h
  have hl : W.length ≤ lim := Nat.le_trans ok.le (by decide)
  have l6 := ok.le
  have mlen := mok.len
  (refine callN_in hP rfl ?_; unfold restFn)
  (repeat (first | dsimp only [XI, XJ] | dsimp only [ZA,ZB,ZC,ZD,ZE,ZF,ZG,ZH,ZI,ZJ,ZK,ZL,ZM,ZN,ZO,ZP,ZQ,ZR,ZS,ZT,ZU,ZV,ZW,ZX,ZY,ZZ,Za,Zb,Zc,Zd,Ze,Zf,Zg,Zh,Zi,Zj,Zk,Zl,Zm,Zn,Zo,Zp,Zq,Zr,Zs,Zt,Zu,Zv,Zw,Zx,Zy,Zz,YA,YB,YC,YD,YE,YF,YG,YH,YI,YJ,YK,YL,YM,YN,YO,YP,YQ,YR,Env.set,cond_true,cond_false,String.reduceBEq,YS,YT,YU,YV,YW,YX,YY,YZ,Ya,Yb,Yc,Yd,Ye,Yf] | simp only [Yg,Yh,true_and,Yi,Yj,Yk,Yl,Ym,Yn,Yo,Yp,Yq,Yr,Yt,Yu,Yv,Yw,Yx,Yy,Yz,XA,XB,XC,XD,XE,beq_self_eq_true,reduceIte,reduceCtorEq,↓reduceIte,XF,XG,XH, bq wm, (bq (Ne.symm wm)), bq wp, (bq (Ne.symm wp)), hw.pre (pre_new _ _) |>.len, range_nat hl]))
  refine wFor_idx (fun i ρ H' => H <+: H' ∧ PR H' H.length (restTo W M i) ∧ ρ w = some (.ref aw) ∧ ρ m = some (.ref am) ∧ ρ p = some (.ref H.length)) ⟨pre_new _ _, ⟨[], get_new _ _, .nil⟩, by (repeat (first | dsimp only [XI, XJ] | dsimp only [ZA,ZB,ZC,ZD,ZE,ZF,ZG,ZH,ZI,ZJ,ZK,ZL,ZM,ZN,ZO,ZP,ZQ,ZR,ZS,ZT,ZU,ZV,ZW,ZX,ZY,ZZ,Za,Zb,Zc,Zd,Ze,Zf,Zg,Zh,Zi,Zj,Zk,Zl,Zm,Zn,Zo,Zp,Zq,Zr,Zs,Zt,Zu,Zv,Zw,Zx,Zy,Zz,YA,YB,YC,YD,YE,YF,YG,YH,YI,YJ,YK,YL,YM,YN,YO,YP,YQ,YR,Env.set,cond_true,cond_false,String.reduceBEq,YS,YT,YU,YV,YW,YX,YY,YZ,Ya,Yb,Yc,Yd,Ye,Yf] | simp only [Yg,Yh,true_and,Yi,Yj,Yk,Yl,Ym,Yn,Yo,Yp,Yq,Yr,Yt,Yu,Yv,Yw,Yx,Yy,Yz,XA,XB,XC,XD,XE,beq_self_eq_true,reduceIte,reduceCtorEq,↓reduceIte,XF,XG,XH, bq wp, bq wm])), by (repeat (first | dsimp only [XI, XJ] | dsimp only [ZA,ZB,ZC,ZD,ZE,ZF,ZG,ZH,ZI,ZJ,ZK,ZL,ZM,ZN,ZO,ZP,ZQ,ZR,ZS,ZT,ZU,ZV,ZW,ZX,ZY,ZZ,Za,Zb,Zc,Zd,Ze,Zf,Zg,Zh,Zi,Zj,Zk,Zl,Zm,Zn,Zo,Zp,Zq,Zr,Zs,Zt,Zu,Zv,Zw,Zx,Zy,Zz,YA,YB,YC,YD,YE,YF,YG,YH,YI,YJ,YK,YL,YM,YN,YO,YP,YQ,YR,Env.set,cond_true,cond_false,String.reduceBEq,YS,YT,YU,YV,YW,YX,YY,YZ,Ya,Yb,Yc,Yd,Ye,Yf] | simp only [Yg,Yh,true_and,Yi,Yj,Yk,Yl,Ym,Yn,Yo,Yp,Yq,Yr,Yt,Yu,Yv,Yw,Yx,Yy,Yz,XA,XB,XC,XD,XE,beq_self_eq_true,reduceIte,reduceCtorEq,↓reduceIte,XF,XG,XH, bq mp, (bq (Ne.symm wm))])), by (repeat (first | dsimp only [XI, XJ] | dsimp only [ZA,ZB,ZC,ZD,ZE,ZF,ZG,ZH,ZI,ZJ,ZK,ZL,ZM,ZN,ZO,ZP,ZQ,ZR,ZS,ZT,ZU,ZV,ZW,ZX,ZY,ZZ,Za,Zb,Zc,Zd,Ze,Zf,Zg,Zh,Zi,Zj,Zk,Zl,Zm,Zn,Zo,Zp,Zq,Zr,Zs,Zt,Zu,Zv,Zw,Zx,Zy,Zz,YA,YB,YC,YD,YE,YF,YG,YH,YI,YJ,YK,YL,YM,YN,YO,YP,YQ,YR,Env.set,cond_true,cond_false,String.reduceBEq,YS,YT,YU,YV,YW,YX,YY,YZ,Ya,Yb,Yc,Yd,Ye,Yf] | simp only [Yg,Yh,true_and,Yi,Yj,Yk,Yl,Ym,Yn,Yo,Yp,Yq,Yr,Yt,Yu,Yv,Yw,Yx,Yy,Yz,XA,XB,XC,XD,XE,beq_self_eq_true,reduceIte,reduceCtorEq,↓reduceIte,XF,XG,XH]))⟩ (fun i v ρ H' hv hI => ⟨trivial, fun k' h1 h2 => ?_⟩) fun ρ H' hI => ⟨trivial, ?_⟩
  · obtain ⟨hi, rfl⟩ := rng_get hv
    obtain ⟨hp, hpr, e1, e2, e3⟩ := hI
    have ec : (i : Int) + 1 = ((i + 1 : Nat) : Int) := by omega
    (repeat (first | dsimp only [XI, XJ] | dsimp only [ZA,ZB,ZC,ZD,ZE,ZF,ZG,ZH,ZI,ZJ,ZK,ZL,ZM,ZN,ZO,ZP,ZQ,ZR,ZS,ZT,ZU,ZV,ZW,ZX,ZY,ZZ,Za,Zb,Zc,Zd,Ze,Zf,Zg,Zh,Zi,Zj,Zk,Zl,Zm,Zn,Zo,Zp,Zq,Zr,Zs,Zt,Zu,Zv,Zw,Zx,Zy,Zz,YA,YB,YC,YD,YE,YF,YG,YH,YI,YJ,YK,YL,YM,YN,YO,YP,YQ,YR,Env.set,cond_true,cond_false,String.reduceBEq,YS,YT,YU,YV,YW,YX,YY,YZ,Ya,Yb,Yc,Yd,Ye,Yf] | simp only [Yg,Yh,true_and,Yi,Yj,Yk,Yl,Ym,Yn,Yo,Yp,Yq,Yr,Yt,Yu,Yv,Yw,Yx,Yy,Yz,XA,XB,XC,XD,XE,beq_self_eq_true,reduceIte,reduceCtorEq,↓reduceIte,XF,XG,XH, e1, e2, e3, bq wo, (hw.pre hp).len, ec, range2_nat (show i + 1 ≤ lim by omega) hl, rangeI_rng2]))
    refine wFor_idx (fun d ρ H' => H <+: H' ∧ PR H' H.length (restTo W M i ++ rowP W M i d) ∧ ρ w = some (.ref aw) ∧ ρ m = some (.ref am) ∧ ρ p = some (.ref H.length) ∧ ρ o = some (.int (i : Int))) ⟨hp, by simpa [rowP] using hpr, by (repeat (first | dsimp only [XI, XJ] | dsimp only [ZA,ZB,ZC,ZD,ZE,ZF,ZG,ZH,ZI,ZJ,ZK,ZL,ZM,ZN,ZO,ZP,ZQ,ZR,ZS,ZT,ZU,ZV,ZW,ZX,ZY,ZZ,Za,Zb,Zc,Zd,Ze,Zf,Zg,Zh,Zi,Zj,Zk,Zl,Zm,Zn,Zo,Zp,Zq,Zr,Zs,Zt,Zu,Zv,Zw,Zx,Zy,Zz,YA,YB,YC,YD,YE,YF,YG,YH,YI,YJ,YK,YL,YM,YN,YO,YP,YQ,YR,Env.set,cond_true,cond_false,String.reduceBEq,YS,YT,YU,YV,YW,YX,YY,YZ,Ya,Yb,Yc,Yd,Ye,Yf] | simp only [Yg,Yh,true_and,Yi,Yj,Yk,Yl,Ym,Yn,Yo,Yp,Yq,Yr,Yt,Yu,Yv,Yw,Yx,Yy,Yz,XA,XB,XC,XD,XE,beq_self_eq_true,reduceIte,reduceCtorEq,↓reduceIte,XF,XG,XH, bq wo, e1])), by (repeat (first | dsimp only [XI, XJ] | dsimp only [ZA,ZB,ZC,ZD,ZE,ZF,ZG,ZH,ZI,ZJ,ZK,ZL,ZM,ZN,ZO,ZP,ZQ,ZR,ZS,ZT,ZU,ZV,ZW,ZX,ZY,ZZ,Za,Zb,Zc,Zd,Ze,Zf,Zg,Zh,Zi,Zj,Zk,Zl,Zm,Zn,Zo,Zp,Zq,Zr,Zs,Zt,Zu,Zv,Zw,Zx,Zy,Zz,YA,YB,YC,YD,YE,YF,YG,YH,YI,YJ,YK,YL,YM,YN,YO,YP,YQ,YR,Env.set,cond_true,cond_false,String.reduceBEq,YS,YT,YU,YV,YW,YX,YY,YZ,Ya,Yb,Yc,Yd,Ye,Yf] | simp only [Yg,Yh,true_and,Yi,Yj,Yk,Yl,Ym,Yn,Yo,Yp,Yq,Yr,Yt,Yu,Yv,Yw,Yx,Yy,Yz,XA,XB,XC,XD,XE,beq_self_eq_true,reduceIte,reduceCtorEq,↓reduceIte,XF,XG,XH, bq mo, e2])), by (repeat (first | dsimp only [XI, XJ] | dsimp only [ZA,ZB,ZC,ZD,ZE,ZF,ZG,ZH,ZI,ZJ,ZK,ZL,ZM,ZN,ZO,ZP,ZQ,ZR,ZS,ZT,ZU,ZV,ZW,ZX,ZY,ZZ,Za,Zb,Zc,Zd,Ze,Zf,Zg,Zh,Zi,Zj,Zk,Zl,Zm,Zn,Zo,Zp,Zq,Zr,Zs,Zt,Zu,Zv,Zw,Zx,Zy,Zz,YA,YB,YC,YD,YE,YF,YG,YH,YI,YJ,YK,YL,YM,YN,YO,YP,YQ,YR,Env.set,cond_true,cond_false,String.reduceBEq,YS,YT,YU,YV,YW,YX,YY,YZ,Ya,Yb,Yc,Yd,Ye,Yf] | simp only [Yg,Yh,true_and,Yi,Yj,Yk,Yl,Ym,Yn,Yo,Yp,Yq,Yr,Yt,Yu,Yv,Yw,Yx,Yy,Yz,XA,XB,XC,XD,XE,beq_self_eq_true,reduceIte,reduceCtorEq,↓reduceIte,XF,XG,XH, bq po, e3])), by (repeat (first | dsimp only [XI, XJ] | dsimp only [ZA,ZB,ZC,ZD,ZE,ZF,ZG,ZH,ZI,ZJ,ZK,ZL,ZM,ZN,ZO,ZP,ZQ,ZR,ZS,ZT,ZU,ZV,ZW,ZX,ZY,ZZ,Za,Zb,Zc,Zd,Ze,Zf,Zg,Zh,Zi,Zj,Zk,Zl,Zm,Zn,Zo,Zp,Zq,Zr,Zs,Zt,Zu,Zv,Zw,Zx,Zy,Zz,YA,YB,YC,YD,YE,YF,YG,YH,YI,YJ,YK,YL,YM,YN,YO,YP,YQ,YR,Env.set,cond_true,cond_false,String.reduceBEq,YS,YT,YU,YV,YW,YX,YY,YZ,Ya,Yb,Yc,Yd,Ye,Yf] | simp only [Yg,Yh,true_and,Yi,Yj,Yk,Yl,Ym,Yn,Yo,Yp,Yq,Yr,Yt,Yu,Yv,Yw,Yx,Yy,Yz,XA,XB,XC,XD,XE,beq_self_eq_true,reduceIte,reduceCtorEq,↓reduceIte,XF,XG,XH]))⟩ (fun d v ρ H' hv hI => ⟨trivial, fun k'' g1 g2 => ?_⟩) fun ρ H' hI => ⟨trivial, ?_⟩
    · obtain ⟨hd, rfl⟩ := rng2_get hv
      obtain ⟨hp, hpr, e1, e2, e3, e4⟩ := hI
      have hw' := hw.pre hp
      have hm' := hm.pre hp
      have ho : ∀ {i k}, M.getD i none = some k → k < W.length := fun q => (mok.two _ _ q).1
      (repeat (first | dsimp only [XI, XJ] | dsimp only [ZA,ZB,ZC,ZD,ZE,ZF,ZG,ZH,ZI,ZJ,ZK,ZL,ZM,ZN,ZO,ZP,ZQ,ZR,ZS,ZT,ZU,ZV,ZW,ZX,ZY,ZZ,Za,Zb,Zc,Zd,Ze,Zf,Zg,Zh,Zi,Zj,Zk,Zl,Zm,Zn,Zo,Zp,Zq,Zr,Zs,Zt,Zu,Zv,Zw,Zx,Zy,Zz,YA,YB,YC,YD,YE,YF,YG,YH,YI,YJ,YK,YL,YM,YN,YO,YP,YQ,YR,Env.set,cond_true,cond_false,String.reduceBEq,YS,YT,YU,YV,YW,YX,YY,YZ,Ya,Yb,Yc,Yd,Ye,Yf] | simp only [Yg,Yh,true_and,Yi,Yj,Yk,Yl,Ym,Yn,Yo,Yp,Yq,Yr,Yt,Yu,Yv,Yw,Yx,Yy,Yz,XA,XB,XC,XD,XE,beq_self_eq_true,reduceIte,reduceCtorEq,↓reduceIte,XF,XG,XH, e1, e2, e3, e4, bq wt, bq mt, bq pt, bq ot, hm'.item (show i < M.length by omega), hm'.item (show i + 1 + d < M.length by omega)]))
      refine hf hw' hi (one := some (i + 1 + d)) (fun k q => by cases q; omega) (fun k q => ho q) ?_
      have fin : ∀ q, restAt W M i (i + 1 + d) = q → q = false → k'' none (ρ.set t (.int ((i + 1 + d : Nat) : Int))) H' := fun q hq hf => by
        refine g1 _ _ ⟨hp, ?_, by (repeat (first | dsimp only [XI, XJ] | dsimp only [ZA,ZB,ZC,ZD,ZE,ZF,ZG,ZH,ZI,ZJ,ZK,ZL,ZM,ZN,ZO,ZP,ZQ,ZR,ZS,ZT,ZU,ZV,ZW,ZX,ZY,ZZ,Za,Zb,Zc,Zd,Ze,Zf,Zg,Zh,Zi,Zj,Zk,Zl,Zm,Zn,Zo,Zp,Zq,Zr,Zs,Zt,Zu,Zv,Zw,Zx,Zy,Zz,YA,YB,YC,YD,YE,YF,YG,YH,YI,YJ,YK,YL,YM,YN,YO,YP,YQ,YR,Env.set,cond_true,cond_false,String.reduceBEq,YS,YT,YU,YV,YW,YX,YY,YZ,Ya,Yb,Yc,Yd,Ye,Yf] | simp only [Yg,Yh,true_and,Yi,Yj,Yk,Yl,Ym,Yn,Yo,Yp,Yq,Yr,Yt,Yu,Yv,Yw,Yx,Yy,Yz,XA,XB,XC,XD,XE,beq_self_eq_true,reduceIte,reduceCtorEq,↓reduceIte,XF,XG,XH, bq wt, e1])), by (repeat (first | dsimp only [XI, XJ] | dsimp only [ZA,ZB,ZC,ZD,ZE,ZF,ZG,ZH,ZI,ZJ,ZK,ZL,ZM,ZN,ZO,ZP,ZQ,ZR,ZS,ZT,ZU,ZV,ZW,ZX,ZY,ZZ,Za,Zb,Zc,Zd,Ze,Zf,Zg,Zh,Zi,Zj,Zk,Zl,Zm,Zn,Zo,Zp,Zq,Zr,Zs,Zt,Zu,Zv,Zw,Zx,Zy,Zz,YA,YB,YC,YD,YE,YF,YG,YH,YI,YJ,YK,YL,YM,YN,YO,YP,YQ,YR,Env.set,cond_true,cond_false,String.reduceBEq,YS,YT,YU,YV,YW,YX,YY,YZ,Ya,Yb,Yc,Yd,Ye,Yf] | simp only [Yg,Yh,true_and,Yi,Yj,Yk,Yl,Ym,Yn,Yo,Yp,Yq,Yr,Yt,Yu,Yv,Yw,Yx,Yy,Yz,XA,XB,XC,XD,XE,beq_self_eq_true,reduceIte,reduceCtorEq,↓reduceIte,XF,XG,XH, bq mt, e2])), by (repeat (first | dsimp only [XI, XJ] | dsimp only [ZA,ZB,ZC,ZD,ZE,ZF,ZG,ZH,ZI,ZJ,ZK,ZL,ZM,ZN,ZO,ZP,ZQ,ZR,ZS,ZT,ZU,ZV,ZW,ZX,ZY,ZZ,Za,Zb,Zc,Zd,Ze,Zf,Zg,Zh,Zi,Zj,Zk,Zl,Zm,Zn,Zo,Zp,Zq,Zr,Zs,Zt,Zu,Zv,Zw,Zx,Zy,Zz,YA,YB,YC,YD,YE,YF,YG,YH,YI,YJ,YK,YL,YM,YN,YO,YP,YQ,YR,Env.set,cond_true,cond_false,String.reduceBEq,YS,YT,YU,YV,YW,YX,YY,YZ,Ya,Yb,Yc,Yd,Ye,Yf] | simp only [Yg,Yh,true_and,Yi,Yj,Yk,Yl,Ym,Yn,Yo,Yp,Yq,Yr,Yt,Yu,Yv,Yw,Yx,Yy,Yz,XA,XB,XC,XD,XE,beq_self_eq_true,reduceIte,reduceCtorEq,↓reduceIte,XF,XG,XH, bq pt, e3])), by (repeat (first | dsimp only [XI, XJ] | dsimp only [ZA,ZB,ZC,ZD,ZE,ZF,ZG,ZH,ZI,ZJ,ZK,ZL,ZM,ZN,ZO,ZP,ZQ,ZR,ZS,ZT,ZU,ZV,ZW,ZX,ZY,ZZ,Za,Zb,Zc,Zd,Ze,Zf,Zg,Zh,Zi,Zj,Zk,Zl,Zm,Zn,Zo,Zp,Zq,Zr,Zs,Zt,Zu,Zv,Zw,Zx,Zy,Zz,YA,YB,YC,YD,YE,YF,YG,YH,YI,YJ,YK,YL,YM,YN,YO,YP,YQ,YR,Env.set,cond_true,cond_false,String.reduceBEq,YS,YT,YU,YV,YW,YX,YY,YZ,Ya,Yb,Yc,Yd,Ye,Yf] | simp only [Yg,Yh,true_and,Yi,Yj,Yk,Yl,Ym,Yn,Yo,Yp,Yq,Yr,Yt,Yu,Yv,Yw,Yx,Yy,Yz,XA,XB,XC,XD,XE,beq_self_eq_true,reduceIte,reduceCtorEq,↓reduceIte,XF,XG,XH, bq ot, e4]))⟩
        rw [rowP_succ, hq, hf]; simpa using hpr
      cases q1 : soonerP W i (some (i + 1 + d)) (M.getD i none) with
      | false => (repeat (first | dsimp only [XI, XJ] | dsimp only [ZA,ZB,ZC,ZD,ZE,ZF,ZG,ZH,ZI,ZJ,ZK,ZL,ZM,ZN,ZO,ZP,ZQ,ZR,ZS,ZT,ZU,ZV,ZW,ZX,ZY,ZZ,Za,Zb,Zc,Zd,Ze,Zf,Zg,Zh,Zi,Zj,Zk,Zl,Zm,Zn,Zo,Zp,Zq,Zr,Zs,Zt,Zu,Zv,Zw,Zx,Zy,Zz,YA,YB,YC,YD,YE,YF,YG,YH,YI,YJ,YK,YL,YM,YN,YO,YP,YQ,YR,Env.set,cond_true,cond_false,String.reduceBEq,YS,YT,YU,YV,YW,YX,YY,YZ,Ya,Yb,Yc,Yd,Ye,Yf] | simp only [Yg,Yh,true_and,Yi,Yj,Yk,Yl,Ym,Yn,Yo,Yp,Yq,Yr,Yt,Yu,Yv,Yw,Yx,Yy,Yz,XA,XB,XC,XD,XE,beq_self_eq_true,reduceIte,reduceCtorEq,↓reduceIte,XF,XG,XH])); exact fin _ rfl (by unfold restAt; rw [q1]; rfl)
      | true =>
        (repeat (first | dsimp only [XI, XJ] | dsimp only [ZA,ZB,ZC,ZD,ZE,ZF,ZG,ZH,ZI,ZJ,ZK,ZL,ZM,ZN,ZO,ZP,ZQ,ZR,ZS,ZT,ZU,ZV,ZW,ZX,ZY,ZZ,Za,Zb,Zc,Zd,Ze,Zf,Zg,Zh,Zi,Zj,Zk,Zl,Zm,Zn,Zo,Zp,Zq,Zr,Zs,Zt,Zu,Zv,Zw,Zx,Zy,Zz,YA,YB,YC,YD,YE,YF,YG,YH,YI,YJ,YK,YL,YM,YN,YO,YP,YQ,YR,Env.set,cond_true,cond_false,String.reduceBEq,YS,YT,YU,YV,YW,YX,YY,YZ,Ya,Yb,Yc,Yd,Ye,Yf] | simp only [Yg,Yh,true_and,Yi,Yj,Yk,Yl,Ym,Yn,Yo,Yp,Yq,Yr,Yt,Yu,Yv,Yw,Yx,Yy,Yz,XA,XB,XC,XD,XE,beq_self_eq_true,reduceIte,reduceCtorEq,↓reduceIte,XF,XG,XH, hm'.item (show i + 1 + d < M.length by omega)]))
        refine hf hw' (show i + 1 + d < W.length by omega) (one := some i) (fun k q => by cases q; omega) (fun k q => ho q) ?_
        cases q2 : soonerP W (i + 1 + d) (some i) (M.getD (i + 1 + d) none) with
        | false => (repeat (first | dsimp only [XI, XJ] | dsimp only [ZA,ZB,ZC,ZD,ZE,ZF,ZG,ZH,ZI,ZJ,ZK,ZL,ZM,ZN,ZO,ZP,ZQ,ZR,ZS,ZT,ZU,ZV,ZW,ZX,ZY,ZZ,Za,Zb,Zc,Zd,Ze,Zf,Zg,Zh,Zi,Zj,Zk,Zl,Zm,Zn,Zo,Zp,Zq,Zr,Zs,Zt,Zu,Zv,Zw,Zx,Zy,Zz,YA,YB,YC,YD,YE,YF,YG,YH,YI,YJ,YK,YL,YM,YN,YO,YP,YQ,YR,Env.set,cond_true,cond_false,String.reduceBEq,YS,YT,YU,YV,YW,YX,YY,YZ,Ya,Yb,Yc,Yd,Ye,Yf] | simp only [Yg,Yh,true_and,Yi,Yj,Yk,Yl,Ym,Yn,Yo,Yp,Yq,Yr,Yt,Yu,Yv,Yw,Yx,Yy,Yz,XA,XB,XC,XD,XE,beq_self_eq_true,reduceIte,reduceCtorEq,↓reduceIte,XF,XG,XH])); exact fin _ rfl (by unfold restAt; rw [q1, q2]; rfl)
        | true =>
          have hlen : (restTo W M i ++ rowP W M i d).length < lim := by
            rw [List.length_append]
            have a1 := restTo_len W M i
            have a2 := rowP_len W M i d
            have a3 : i * W.length ≤ 6 * 6 := Nat.mul_le_mul (by omega) (by omega)
            unfold lim; omega
          obtain ⟨H'', hap, hpr', hpre⟩ := hpr.push hlen (i := i) (j := i + 1 + d)
          obtain ⟨rs, hrs, _⟩ := hpr
          (repeat (first | dsimp only [XI, XJ] | dsimp only [ZA,ZB,ZC,ZD,ZE,ZF,ZG,ZH,ZI,ZJ,ZK,ZL,ZM,ZN,ZO,ZP,ZQ,ZR,ZS,ZT,ZU,ZV,ZW,ZX,ZY,ZZ,Za,Zb,Zc,Zd,Ze,Zf,Zg,Zh,Zi,Zj,Zk,Zl,Zm,Zn,Zo,Zp,Zq,Zr,Zs,Zt,Zu,Zv,Zw,Zx,Zy,Zz,YA,YB,YC,YD,YE,YF,YG,YH,YI,YJ,YK,YL,YM,YN,YO,YP,YQ,YR,Env.set,cond_true,cond_false,String.reduceBEq,YS,YT,YU,YV,YW,YX,YY,YZ,Ya,Yb,Yc,Yd,Ye,Yf] | simp only [Yg,Yh,true_and,Yi,Yj,Yk,Yl,Ym,Yn,Yo,Yp,Yq,Yr,Yt,Yu,Yv,Yw,Yx,Yy,Yz,XA,XB,XC,XD,XE,beq_self_eq_true,reduceIte,reduceCtorEq,↓reduceIte,XF,XG,XH, e1, e2, e3, e4, bq wt, bq mt, bq pt, bq ot, (recvL hrs).1, hap]))
          refine g1 _ _ ⟨hpre H hp (Nat.le_refl _), ?_, by (repeat (first | dsimp only [XI, XJ] | dsimp only [ZA,ZB,ZC,ZD,ZE,ZF,ZG,ZH,ZI,ZJ,ZK,ZL,ZM,ZN,ZO,ZP,ZQ,ZR,ZS,ZT,ZU,ZV,ZW,ZX,ZY,ZZ,Za,Zb,Zc,Zd,Ze,Zf,Zg,Zh,Zi,Zj,Zk,Zl,Zm,Zn,Zo,Zp,Zq,Zr,Zs,Zt,Zu,Zv,Zw,Zx,Zy,Zz,YA,YB,YC,YD,YE,YF,YG,YH,YI,YJ,YK,YL,YM,YN,YO,YP,YQ,YR,Env.set,cond_true,cond_false,String.reduceBEq,YS,YT,YU,YV,YW,YX,YY,YZ,Ya,Yb,Yc,Yd,Ye,Yf] | simp only [Yg,Yh,true_and,Yi,Yj,Yk,Yl,Ym,Yn,Yo,Yp,Yq,Yr,Yt,Yu,Yv,Yw,Yx,Yy,Yz,XA,XB,XC,XD,XE,beq_self_eq_true,reduceIte,reduceCtorEq,↓reduceIte,XF,XG,XH, bq wt, e1])), by (repeat (first | dsimp only [XI, XJ] | dsimp only [ZA,ZB,ZC,ZD,ZE,ZF,ZG,ZH,ZI,ZJ,ZK,ZL,ZM,ZN,ZO,ZP,ZQ,ZR,ZS,ZT,ZU,ZV,ZW,ZX,ZY,ZZ,Za,Zb,Zc,Zd,Ze,Zf,Zg,Zh,Zi,Zj,Zk,Zl,Zm,Zn,Zo,Zp,Zq,Zr,Zs,Zt,Zu,Zv,Zw,Zx,Zy,Zz,YA,YB,YC,YD,YE,YF,YG,YH,YI,YJ,YK,YL,YM,YN,YO,YP,YQ,YR,Env.set,cond_true,cond_false,String.reduceBEq,YS,YT,YU,YV,YW,YX,YY,YZ,Ya,Yb,Yc,Yd,Ye,Yf] | simp only [Yg,Yh,true_and,Yi,Yj,Yk,Yl,Ym,Yn,Yo,Yp,Yq,Yr,Yt,Yu,Yv,Yw,Yx,Yy,Yz,XA,XB,XC,XD,XE,beq_self_eq_true,reduceIte,reduceCtorEq,↓reduceIte,XF,XG,XH, bq mt, e2])), by (repeat (first | dsimp only [XI, XJ] | dsimp only [ZA,ZB,ZC,ZD,ZE,ZF,ZG,ZH,ZI,ZJ,ZK,ZL,ZM,ZN,ZO,ZP,ZQ,ZR,ZS,ZT,ZU,ZV,ZW,ZX,ZY,ZZ,Za,Zb,Zc,Zd,Ze,Zf,Zg,Zh,Zi,Zj,Zk,Zl,Zm,Zn,Zo,Zp,Zq,Zr,Zs,Zt,Zu,Zv,Zw,Zx,Zy,Zz,YA,YB,YC,YD,YE,YF,YG,YH,YI,YJ,YK,YL,YM,YN,YO,YP,YQ,YR,Env.set,cond_true,cond_false,String.reduceBEq,YS,YT,YU,YV,YW,YX,YY,YZ,Ya,Yb,Yc,Yd,Ye,Yf] | simp only [Yg,Yh,true_and,Yi,Yj,Yk,Yl,Ym,Yn,Yo,Yp,Yq,Yr,Yt,Yu,Yv,Yw,Yx,Yy,Yz,XA,XB,XC,XD,XE,beq_self_eq_true,reduceIte,reduceCtorEq,↓reduceIte,XF,XG,XH, bq pt, e3])), by (repeat (first | dsimp only [XI, XJ] | dsimp only [ZA,ZB,ZC,ZD,ZE,ZF,ZG,ZH,ZI,ZJ,ZK,ZL,ZM,ZN,ZO,ZP,ZQ,ZR,ZS,ZT,ZU,ZV,ZW,ZX,ZY,ZZ,Za,Zb,Zc,Zd,Ze,Zf,Zg,Zh,Zi,Zj,Zk,Zl,Zm,Zn,Zo,Zp,Zq,Zr,Zs,Zt,Zu,Zv,Zw,Zx,Zy,Zz,YA,YB,YC,YD,YE,YF,YG,YH,YI,YJ,YK,YL,YM,YN,YO,YP,YQ,YR,Env.set,cond_true,cond_false,String.reduceBEq,YS,YT,YU,YV,YW,YX,YY,YZ,Ya,Yb,Yc,Yd,Ye,Yf] | simp only [Yg,Yh,true_and,Yi,Yj,Yk,Yl,Ym,Yn,Yo,Yp,Yq,Yr,Yt,Yu,Yv,Yw,Yx,Yy,Yz,XA,XB,XC,XD,XE,beq_self_eq_true,reduceIte,reduceCtorEq,↓reduceIte,XF,XG,XH, bq ot, e4]))⟩
          rw [rowP_succ, ← List.append_assoc]
          have : restAt W M i (i + 1 + d) = true := by unfold restAt; rw [q1, q2]; rfl
          rw [this]; exact hpr'
    · obtain ⟨hp, hpr, e1, e2, e3, e4⟩ := hI
      rw [rng2_len] at hpr
      refine h1 _ _ ⟨hp, ?_, e1, e2, e3⟩
      rw [restTo_succ]; exact hpr
  · obtain ⟨hp, hpr, e1, e2, e3⟩ := hI
    rw [rng_len] at hpr
    (repeat (first | dsimp only [XI, XJ] | dsimp only [ZA,ZB,ZC,ZD,ZE,ZF,ZG,ZH,ZI,ZJ,ZK,ZL,ZM,ZN,ZO,ZP,ZQ,ZR,ZS,ZT,ZU,ZV,ZW,ZX,ZY,ZZ,Za,Zb,Zc,Zd,Ze,Zf,Zg,Zh,Zi,Zj,Zk,Zl,Zm,Zn,Zo,Zp,Zq,Zr,Zs,Zt,Zu,Zv,Zw,Zx,Zy,Zz,YA,YB,YC,YD,YE,YF,YG,YH,YI,YJ,YK,YL,YM,YN,YO,YP,YQ,YR,Env.set,cond_true,cond_false,String.reduceBEq,YS,YT,YU,YV,YW,YX,YY,YZ,Ya,Yb,Yc,Yd,Ye,Yf] | simp only [Yg,Yh,true_and,Yi,Yj,Yk,Yl,Ym,Yn,Yo,Yp,Yq,Yr,Yt,Yu,Yv,Yw,Yx,Yy,Yz,XA,XB,XC,XD,XE,beq_self_eq_true,reduceIte,reduceCtorEq,↓reduceIte,XF,XG,XH, e3]))
    exact h _ _ hp (Nat.le_refl _) hpr

end
end Mine

namespace Mine
open PySem

section
variable {P : Prog} {b : Bool} {n : Nat} {H : Hp} {Q : Post} {X : XP}

theorem getD_set {α : Type} (l : List α) (i j : Nat) (x d : α) (hi : i < l.length) : (l.set i x).getD j d = if i = j then x else l.getD j d := by
  rw [List.getD_eq_getElem?_getD, List.getD_eq_getElem?_getD, List.getElem?_set]
  split
  · rename_i e; subst e; simp [hi]
  · rfl

theorem MOk.pair {W : List (List Int)} {M : List (Option Nat)} (h : MOk W M) {g x : Nat} (hg : g < W.length) (hx : x < W.length) (hne : x ≠ g) (eg : M.getD g none = none) (ex : M.getD x none = none) (hb : both W g x = true) : MOk W ((M.set g (some x)).set x (some g)) := by
  have hl := h.len
  have hb' : both W x g = true := by unfold both at hb ⊢; rw [Bool.and_comm]; exact hb
  refine ⟨by simp [hl], fun i j hij => ?_⟩
  rw [getD_set _ _ _ _ _ (by simp; omega), getD_set _ _ _ _ _ (by omega)] at hij
  rw [getD_set _ _ _ _ _ (by simp; omega), getD_set _ _ _ _ _ (by omega)]
  by_cases hxi : x = i
  · rw [if_pos hxi] at hij; cases hij
    subst hxi
    exact ⟨hg, by rw [if_neg hne, if_pos rfl], hb'⟩
  · rw [if_neg hxi] at hij
    by_cases hgi : g = i
    · rw [if_pos hgi] at hij; cases hij
      subst hgi
      exact ⟨hx, by rw [if_pos rfl], hb⟩
    · rw [if_neg hgi] at hij
      obtain ⟨a1, a2, a3⟩ := h.two i j hij
      have n1 : x ≠ j := by rintro rfl; rw [ex] at a2; cases a2
      have n2 : g ≠ j := by rintro rfl; rw [eg] at a2; cases a2
      exact ⟨a1, by rw [if_neg n1, if_neg n2]; exact a2, a3⟩

theorem MT.set {a : Nat} {M : List (Option Nat)} (h : MT H a M) {i : Nat} (hi : i < M.length) (x : Option Nat) : setV (.ref a) (.int (i : Int)) (ov x) H = some (H.set a (.list ((M.set i x).map ov))) ∧ MT (H.set a (.list ((M.set i x).map ov))) a (M.set i x) := by
  have h' := h
  unfold MT at h'
  have e : (M.map ov).set i (ov x) = (M.set i x).map ov := by rw [List.map_set]
  refine ⟨?_, get_set_eq h' _⟩
  rw [set_seq h' (by rw [List.length_map]; exact hi), e]

theorem s_whole (hP : P.fn "_law_whole" = some f__law_whole) {i : Int} (h : Q (.bool true) H) : callN P b (n + 1) "_law_whole" [.int i] H Q X := by
  (refine callN_in hP rfl ?_; unfold f__law_whole)
  (repeat (first | dsimp only [XI, XJ] | dsimp only [ZA,ZB,ZC,ZD,ZE,ZF,ZG,ZH,ZI,ZJ,ZK,ZL,ZM,ZN,ZO,ZP,ZQ,ZR,ZS,ZT,ZU,ZV,ZW,ZX,ZY,ZZ,Za,Zb,Zc,Zd,Ze,Zf,Zg,Zh,Zi,Zj,Zk,Zl,Zm,Zn,Zo,Zp,Zq,Zr,Zs,Zt,Zu,Zv,Zw,Zx,Zy,Zz,YA,YB,YC,YD,YE,YF,YG,YH,YI,YJ,YK,YL,YM,YN,YO,YP,YQ,YR,Env.set,cond_true,cond_false,String.reduceBEq,YS,YT,YU,YV,YW,YX,YY,YZ,Ya,Yb,Yc,Yd,Ye,Yf] | simp only [Yg,Yh,true_and,Yi,Yj,Yk,Yl,Ym,Yn,Yo,Yp,Yq,Yr,Yt,Yu,Yv,Yw,Yx,Yy,Yz,XA,XB,XC,XD,XE,beq_self_eq_true,reduceIte,reduceCtorEq,↓reduceIte,XF,XG,XH]))
  exact h
end

noncomputable def od : Option Nat → PyData
  | none => .none
  | some i => .int (i : Int)

theorem WH.readN {H : Hp} {w : Nat} {W : List (List Int)} (h : WH H w W) (n : Nat) : readD (n + 2) H (.ref w) = some (.list (W.map fun l => .list (l.map .int))) := by
  obtain ⟨rs, h1, h2⟩ := h
  have : rs.mapM (readD (n + 1) H) = some (W.map fun l => PyData.list (l.map .int)) := by
    clear h1
    induction h2 with
    | nil => rfl
    | cons hr _ ih =>
      obtain ⟨b, rfl, hb⟩ := hr
      unfold LI at hb
      rw [List.mapM_cons, ih]
      simp only [rd_n, rd_b, rd_i, rd_s, rd_r, hb, mapM_read]; rfl
  simp [rd_n, rd_b, rd_i, rd_s, rd_r, h1, this]
theorem MT.readN {H : Hp} {w : Nat} {M : List (Option Nat)} (h : MT H w M) (n : Nat) : readD (n + 1) H (.ref w) = some (.list (M.map od)) := by
  unfold MT at h
  have : ∀ M : List (Option Nat), (M.map ov).mapM (readD n H) = some (M.map od) := by
    intro M
    induction M with
    | nil => rfl
    | cons x M ih =>
      rw [List.map_cons, List.mapM_cons, ih]
      cases x <;> cases n <;> rfl
  simp only [rd_n, rd_b, rd_i, rd_s, rd_r, h, this]; rfl
theorem PR.readN {H : Hp} {w : Nat} {ps : List (Nat × Nat)} (h : PR H w ps) (n : Nat) : readD (n + 2) H (.ref w) = some (.list (ps.map fun p => .tuple [.int (p.1 : Int), .int (p.2 : Int)])) := by
  obtain ⟨rs, h1, h2⟩ := h
  have : rs.mapM (readD (n + 1) H) = some (ps.map fun p => PyData.tuple [.int (p.1 : Int), .int (p.2 : Int)]) := by
    clear h1
    induction h2 with
    | nil => rfl
    | @cons v p vs ps hr _ ih =>
      obtain ⟨b, rfl, hb⟩ := hr
      rw [List.mapM_cons, ih]
      have : [V.int (p.1 : Int), V.int (p.2 : Int)].mapM (readD n H) = some [.int (p.1 : Int), .int (p.2 : Int)] := mapM_read n H [(p.1 : Int), (p.2 : Int)]
      simp only [rd_n, rd_b, rd_i, rd_s, rd_r, hb, this]; rfl
  simp only [rd_n, rd_b, rd_i, rd_s, rd_r, h1, this]; rfl

theorem canLay_od : ∀ M : List (Option Nat), PyData.canLayAll0 (M.map od) = true
  | [] => rfl
  | none :: M => by simp [ca_n, ca_c, cl_n, cl_b, cl_i, cl_s, cl_l, cl_t, od, canLay_od M]
  | some _ :: M => by simp [ca_n, ca_c, cl_n, cl_b, cl_i, cl_s, cl_l, cl_t, od, canLay_od M]
theorem eqv_od : ∀ M M' : List (Option Nat), PyData.eqvAll (M.map od) (M'.map od) = decide (M = M')
  | [], [] => rfl
  | [], _ :: _ => by simp [da_nn, da_cc, da_nc, da_cn]
  | _ :: _, [] => by simp [da_nn, da_cc, da_nc, da_cn]
  | x :: M, y :: M' => by
    rw [List.map_cons, List.map_cons, da_cc, eqv_od M M']
    cases x with
    | none => cases y <;> simp [od, dq_ii, dq_nn, dq_in, dq_ni, dq_bb, dq_ss, dq_ll, dq_tt]
    | some a => cases y with
      | none => simp [od, dq_ii, dq_nn, dq_in, dq_ni, dq_bb, dq_ss, dq_ll, dq_tt]
      | some c =>
        simp only [od, dq_ii, dq_nn, dq_in, dq_ni, dq_bb, dq_ss, dq_ll, dq_tt, List.cons.injEq, Option.some.injEq]
        by_cases e : a = c
        · subst e; simp
        · have : ((a : Int) == (c : Int)) = false := beq_eq_false_iff_ne.mpr (by omega)
          simp [e, this]
theorem canLay_ps : ∀ ps : List (Nat × Nat), PyData.canLayAll0 (ps.map fun p => .tuple [.int (p.1 : Int), .int (p.2 : Int)]) = true
  | [] => rfl
  | _ :: M => by simp [ca_n, ca_c, cl_n, cl_b, cl_i, cl_s, cl_l, cl_t, canLay_ps M]
theorem eqv_ps : ∀ ps qs : List (Nat × Nat), PyData.eqvAll (ps.map fun p => .tuple [.int (p.1 : Int), .int (p.2 : Int)]) (qs.map fun p => .tuple [.int (p.1 : Int), .int (p.2 : Int)]) = decide (ps = qs)
  | [], [] => rfl
  | [], _ :: _ => by simp [da_nn, da_cc, da_nc, da_cn]
  | _ :: _, [] => by simp [da_nn, da_cc, da_nc, da_cn]
  | (a, c) :: M, (a', c') :: M' => by
    rw [List.map_cons, List.map_cons, da_cc, eqv_ps M M']
    simp only [dq_ii, dq_nn, dq_in, dq_ni, dq_bb, dq_ss, dq_ll, dq_tt, da_nn, da_cc, da_nc, da_cn, List.cons.injEq, Prod.mk.injEq]
    by_cases e : a = a'
    · by_cases e' : c = c'
      · subst e; subst e'; simp
      · have : ((c : Int) == (c' : Int)) = false := beq_eq_false_iff_ne.mpr (by omega)
        simp [e', this]
    · have : ((a : Int) == (a' : Int)) = false := beq_eq_false_iff_ne.mpr (by omega)
      simp [e, this]
theorem PR.eq {H : Hp} {w w' : Nat} {ps qs : List (Nat × Nat)} (h : PR H w ps) (h' : PR H w' qs) : eqD H (.ref w) (.ref w') = some (decide (ps = qs)) := by
  simp [eqD, h.readN 6, h'.readN 6, cl_n, cl_b, cl_i, cl_s, cl_l, cl_t, canLay_ps, dq_ii, dq_nn, dq_in, dq_ni, dq_bb, dq_ss, dq_ll, dq_tt, eqv_ps]
theorem WH.ne {H : Hp} {d : Nat} {W : List (List Int)} (h : WH H d W) {c : Nat} {is : List Int} (hc : LI H c is) (hW : W ≠ []) : c ≠ d := by
  obtain ⟨rs, h1, h2⟩ := h
  rintro rfl
  unfold LI at hc
  rw [h1] at hc
  have q : rs = is.map .int := by simpa using hc
  cases h2 with
  | nil => exact hW rfl
  | cons hr _ =>
    obtain ⟨b, rfl, _⟩ := hr
    cases is with
    | nil => simp at q
    | cons i is => simp at q
end Mine

namespace Mine

abbrev Mt := List (Option Nat)

noncomputable def pairM (M : Mt) (g o : Nat) : Mt := (M.set g (some o)).set o (some g)

noncomputable def twos (bo : Nat → Nat → Bool) : Nat → List Nat → Mt → List Mt
  | 0, _, M => [M]
  | _ + 1, [], M => [M]
  | k + 1, g :: r, M => twos bo k r M ++ (r.filter (bo g)).flatMap fun o => twos bo k (r.filter (· != o)) (pairM M g o)

noncomputable def cnt (bo : Nat → Nat → Bool) : Nat → List Nat → Nat
  | 0, _ => 1
  | _ + 1, [] => 1
  | k + 1, g :: r => cnt bo k r + ((r.filter (bo g)).map fun o => cnt bo k (r.filter (· != o))).sum

theorem twos_len (bo : Nat → Nat → Bool) : ∀ (k : Nat) (l : List Nat) (M : Mt), (twos bo k l M).length = cnt bo k l
  | 0, _, _ => rfl
  | _ + 1, [], _ => rfl
  | k + 1, g :: r, M => by
    rw [twos, cnt, List.length_append, twos_len bo k, List.length_flatMap]
    congr 2
    exact List.map_congr_left fun o _ => twos_len bo k _ _

theorem pairM_len (M : Mt) (g o : Nat) : (pairM M g o).length = M.length := by simp [pairM]
theorem pairM_ne {M : Mt} {g o i : Nat} (h1 : i ≠ g) (h2 : i ≠ o) : (pairM M g o).getD i none = M.getD i none := by
  simp only [pairM, List.getD_eq_getElem?_getD]
  rw [List.getElem?_set_ne (Ne.symm h2), List.getElem?_set_ne (Ne.symm h1)]
/-- the figure that stands for a mate -/
noncomputable def kx : Option Nat → Int
  | none => -1
  | some i => (i : Int)

/-- all of them have a property that putting two together keeps -/
theorem twos_all (bo : Nat → Nat → Bool) (p : Mt → Prop) : ∀ (k : Nat) (l : List Nat) (M : Mt), l.Nodup → p M → (∀ x ∈ l, x < M.length ∧ M.getD x none = none) →
    (∀ M g o, p M → g < M.length → o < M.length → g ≠ o → M.getD g none = none → M.getD o none = none → bo g o = true → p (pairM M g o)) → ∀ X ∈ twos bo k l M, p X
  | 0, _, M, _, hp, _, _, X, h => by rw [twos, List.mem_singleton] at h; subst h; exact hp
  | _ + 1, [], M, _, hp, _, _, X, h => by rw [twos, List.mem_singleton] at h; subst h; exact hp
  | k + 1, g :: r, M, hs, hp, hl, step, X, h => by
    rw [twos, List.mem_append, List.mem_flatMap] at h
    obtain ⟨gr, hr⟩ := List.nodup_cons.mp hs
    rcases h with h | ⟨o, ho, h⟩
    · exact twos_all bo p k r M hr hp (fun x hx => hl x (.tail _ hx)) step X h
    · obtain ⟨hor, hb⟩ := List.mem_filter.mp ho
      obtain ⟨g1, g2⟩ := hl g (.head _)
      obtain ⟨o1, o2⟩ := hl o (.tail _ hor)
      have hgo : g ≠ o := fun e => gr (e ▸ hor)
      refine twos_all bo p k _ _ (hr.sublist List.filter_sublist) (step M g o hp g1 o1 hgo g2 o2 hb) (fun x hx => ?_) step X h
      obtain ⟨hxr, hxo⟩ := List.mem_filter.mp hx
      have hxo : x ≠ o := by simpa using hxo
      obtain ⟨q1, q2⟩ := hl x (.tail _ hxr)
      refine ⟨by rw [pairM_len]; exact q1, ?_⟩
      rw [pairM_ne (fun e : x = g => gr (e ▸ hxr)) hxo]; exact q2

end Mine

namespace Mine
open PySem

noncomputable def Fd (H₀ H : Hp) (m t f : Nat) (v : V) (M : Mt) : Prop := ∃ r, v = .ref r ∧ H₀.length ≤ r ∧ r ≠ m ∧ r ≠ t ∧ r ≠ f ∧ MT H r M

structure SS (H₀ H : Hp) (m t f : Nat) (M : Mt) (B : List Bool) (Xs : List Mt) : Prop where
  pre : H₀ <+: H
  m0 : H₀.length ≤ m
  t0 : H₀.length ≤ t
  f0 : H₀.length ≤ f
  mt : m ≠ t
  mf : m ≠ f
  tf : t ≠ f
  hm : MT H m M
  ht : H[t]? = some (.list (B.map .bool))
  hf : ∃ fs, H[f]? = some (.list fs) ∧ All2 (Fd H₀ H m t f) fs Xs

section
variable {H₀ H : Hp} {m t f : Nat} {M : Mt} {B : List Bool} {Xs : List Mt}

theorem SS.setM (h : SS H₀ H m t f M B Xs) {i : Nat} (hi : i < M.length) (x : Option Nat) : ∃ H', setV (.ref m) (.int (i : Int)) (ov x) H = some H' ∧ SS H₀ H' m t f (M.set i x) B Xs := by
  obtain ⟨a, b⟩ := h.hm.set hi x
  obtain ⟨fs, f1, f2⟩ := h.hf
  refine ⟨_, a, pre_set h.pre h.m0 _, h.m0, h.t0, h.f0, h.mt, h.mf, h.tf, b, by rw [get_set_ne (Ne.symm h.mt)]; exact h.ht, fs, by rw [get_set_ne (Ne.symm h.mf)]; exact f1, f2.mono fun v X ⟨r, e, r0, r1, r2, r3, r4⟩ => ⟨r, e, r0, r1, r2, r3, ?_⟩⟩
  unfold MT; rw [get_set_ne r1]; exact r4

theorem SS.setB (h : SS H₀ H m t f M B Xs) {i : Nat} (hi : i < B.length) (x : Bool) : ∃ H', setV (.ref t) (.int (i : Int)) (.bool x) H = some H' ∧ SS H₀ H' m t f M (B.set i x) Xs := by
  have a := set_seq h.ht (i := i) (by rw [List.length_map]; exact hi) (.bool x)
  obtain ⟨fs, f1, f2⟩ := h.hf
  refine ⟨_, a, pre_set h.pre h.t0 _, h.m0, h.t0, h.f0, h.mt, h.mf, h.tf, by unfold MT; rw [get_set_ne h.mt]; exact h.hm, by rw [get_set_eq h.ht, List.map_set], fs, by rw [get_set_ne (Ne.symm h.tf)]; exact f1, f2.mono fun v X ⟨r, e, r0, r1, r2, r3, r4⟩ => ⟨r, e, r0, r1, r2, r3, ?_⟩⟩
  unfold MT; rw [get_set_ne r2]; exact r4

theorem SS.grow (h : SS H₀ H m t f M B Xs) (o : O) : SS H₀ (H ++ [o]) m t f M B Xs := by
  obtain ⟨fs, f1, f2⟩ := h.hf
  exact ⟨h.pre.trans (pre_new _ _), h.m0, h.t0, h.f0, h.mt, h.mf, h.tf, h.hm.pre (pre_new _ _), pre_get (pre_new _ _) h.ht, fs, pre_get (pre_new _ _) f1, f2.mono fun v X ⟨r, e, r0, r1, r2, r3, r4⟩ => ⟨r, e, r0, r1, r2, r3, r4.pre (pre_new _ _)⟩⟩

theorem SS.push (h : SS H₀ H m t f M B Xs) (hl : Xs.length < lim) : ∃ H', methV .append [.ref f, .ref H.length] (H ++ [.list (M.map ov)]) = some (.none, H') ∧ SS H₀ H' m t f M B (Xs ++ [M]) := by
  have g := h.grow (.list (M.map ov))
  obtain ⟨fs, f1, f2⟩ := g.hf
  have hlt : ∀ {a o}, H[a]? = some o → a < H.length := fun q => (List.getElem?_eq_some_iff.mp q).1
  obtain ⟨fs', f1', _⟩ := h.hf
  have a := append_at (v := .ref H.length) f1 (by rw [f2.length]; exact hl)
  refine ⟨_, a, pre_set g.pre h.f0 _, h.m0, h.t0, h.f0, h.mt, h.mf, h.tf, by unfold MT; rw [get_set_ne h.mf]; exact g.hm, by rw [get_set_ne h.tf]; exact g.ht, _, get_set_eq f1 _, ?_⟩
  refine (f2.mono fun v X ⟨r, e, r0, r1, r2, r3, r4⟩ => ⟨r, e, r0, r1, r2, r3, ?_⟩).append (.cons ⟨H.length, rfl, h.pre.length_le, Ne.symm (Nat.ne_of_lt (hlt h.hm)), Ne.symm (Nat.ne_of_lt (hlt h.ht)), Ne.symm (Nat.ne_of_lt (hlt f1')), ?_⟩ .nil)
  · unfold MT; rw [get_set_ne (Ne.symm (Nat.ne_of_lt (hlt f1')))]; exact get_new _ _
  · unfold MT; rw [get_set_ne r3]; exact r4

theorem SS.itemB (h : SS H₀ H m t f M B Xs) {i : Nat} (hi : i < B.length) : itemV (.ref t) (.int (i : Int)) H = some (.bool (B.getD i true)) :=
  item_seq (seqOf_list h.ht) (by rw [List.getElem?_map, List.getElem?_eq_getElem hi, List.getD_eq_getElem?_getD, List.getElem?_eq_getElem hi]; rfl)
end

/-- the guests from g on who are not met -/
noncomputable def lf (B : List Bool) (g n : Nat) : List Nat := (List.range' g (n - g)).filter fun i => !B.getD i true

theorem lf_end (B : List Bool) (n : Nat) : lf B n n = [] := by simp [lf]
theorem lf_cons {B : List Bool} {g n : Nat} (h : g < n) : lf B g n = if B.getD g true then lf B (g + 1) n else g :: lf B (g + 1) n := by
  unfold lf
  obtain ⟨d, rfl⟩ : ∃ d, n = g + 1 + d := ⟨n - (g + 1), by omega⟩
  rw [show g + 1 + d - g = d + 1 by omega, show g + 1 + d - (g + 1) = d by omega, List.range'_succ, List.filter_cons]
  cases B.getD g true <;> simp
theorem lf_set {B : List Bool} {g n : Nat} (h : g < B.length) : lf (B.set g true) (g + 1) n = lf B (g + 1) n := by
  unfold lf
  refine List.filter_congr fun i hi => ?_
  have : g + 1 ≤ i := by have := List.mem_range'.mp hi; omega
  rw [getD_set _ _ _ _ _ h, if_neg (by omega)]
theorem lf_set2 {B : List Bool} {g o n : Nat} (hg : g < B.length) (ho : o < B.length) : lf ((B.set g true).set o true) (g + 1) n = (lf B (g + 1) n).filter (· != o) := by
  unfold lf
  rw [List.filter_filter]
  refine List.filter_congr fun i hi => ?_
  have : g + 1 ≤ i := by have := List.mem_range'.mp hi; omega
  rw [getD_set _ _ _ _ _ (by simpa using ho), getD_set _ _ _ _ _ hg, if_neg (show ¬ g = i by omega)]
  by_cases e : o = i
  · subst e; simp
  · have : (i != o) = true := by simp [Ne.symm e]
    rw [if_neg e, this]; simp
theorem lf_mem {B : List Bool} {g n i : Nat} : i ∈ lf B g n ↔ g ≤ i ∧ i < n ∧ B.getD i true = false := by
  unfold lf
  rw [List.mem_filter, List.mem_range'_1]
  constructor
  · rintro ⟨⟨a, b⟩, c⟩; exact ⟨a, by omega, by simpa using c⟩
  · rintro ⟨a, b, c⟩; exact ⟨⟨a, by omega⟩, by simpa using c⟩
theorem set_back {α : Type} {l : List α} {i : Nat} {x : α} (h : l[i]? = some x) (y : α) : (l.set i y).set i x = l := by
  rw [List.set_set]
  obtain ⟨hi, rfl⟩ := List.getElem?_eq_some_iff.mp h
  exact List.set_getElem_self hi
theorem getD_some {α : Type} {l : List α} {i : Nat} {d x : α} (hi : i < l.length) (h : l.getD i d = x) : l[i]? = some x := by
  rw [List.getD_eq_getElem?_getD, List.getElem?_eq_getElem hi] at h
  rw [List.getElem?_eq_getElem hi]; exact congrArg some h
theorem pair_back {M : Mt} {g o : Nat} (hg : M[g]? = some none) (ho : M[o]? = some none) (hne : g ≠ o) : ((pairM M g o).set g none).set o none = M := by
  unfold pairM
  rw [List.set_comm _ _ (Ne.symm hne), List.set_set, List.set_set]
  have e1 : M.set g none = M := by obtain ⟨q, e⟩ := List.getElem?_eq_some_iff.mp hg; rw [← e]; exact List.set_getElem_self q
  have e2 : M.set o none = M := by obtain ⟨q, e⟩ := List.getElem?_eq_some_iff.mp ho; rw [← e]; exact List.set_getElem_self q
  rw [e1, e2]
theorem sub_sum {l m : List Nat} (h : l.Sublist m) : l.sum ≤ m.sum := by
  induction h with
  | slnil => exact Nat.le_refl _
  | cons a _ ih => simp only [List.sum_cons]; omega
  | cons_cons a _ ih => simp only [List.sum_cons]; omega

section
variable {P : Prog} {b : Bool} {n : Nat} {Q : Post} {X : XP}

/-- as many as there are is few enough -/
noncomputable def room (bo : Nat → Nat → Bool) (k : Nat) (l : List Nat) (Xs : List Mt) : Prop := Xs.length + cnt bo k l < lim

set_option maxRecDepth 5000 in
theorem s_settled (hP : P.fn "settled" = some f_settled) (hP1 : P.fn "both_wish" = some f_both_wish) {H₀ : Hp} {w m t f : Nat} {W : List (List Int)} (hw : WH H₀ w W) (ok : WOk W) : ∀ (k : Nat) {H : Hp} {Q : Post} {g : Nat} {M : Mt} {B : List Bool} {Xs : List Mt},
    SS H₀ H m t f M B Xs → M.length = W.length → B.length = W.length → g ≤ W.length → (lf B g W.length).length ≤ k → (∀ i ∈ lf B g W.length, M.getD i none = none) → room (both W) k (lf B g W.length) Xs →
    (∀ H', SS H₀ H' m t f M B (Xs ++ twos (both W) k (lf B g W.length) M) → Q .none H') → callN P b (n + (k + 2)) "settled" [.ref w, .int (g : Int), .ref m, .ref t, .ref f] H Q X := by
  intro k
  induction k with
  | zero =>
    intro H Q g M B Xs ss lm lb hg hk hM hr h
    have hl0 : lf B g W.length = [] := List.length_eq_zero_iff.mp (Nat.le_zero.mp hk)
    rw [hl0] at h hr
    have hw' := hw.pre ss.pre
    (refine callN_in hP rfl ?_; unfold f_settled)
    refine wSs_step fun K hn hrr => ?_
    rw [s_while]
    refine wWhile_ex (fun d ρ H' => ∃ i : Nat, H' = H ∧ d = W.length - i ∧ i ≤ W.length ∧ lf B i W.length = [] ∧ ρ "wishes" = some (.ref w) ∧ ρ "guest" = some (.int (i : Int)) ∧ ρ "mates" = some (.ref m) ∧ ρ "met" = some (.ref t) ∧ ρ "found" = some (.ref f)) (m := W.length - g) ⟨g, rfl, rfl, hg, hl0, rfl, rfl, rfl, rfl, rfl⟩ fun d ρ H' hI k' h1 h2 => ?_
    obtain ⟨i, rfl, rfl, hi, hl, e1, e2, e3, e4, e5⟩ := hI
    (repeat (first | dsimp only [XI, XJ] | dsimp only [ZA,ZB,ZC,ZD,ZE,ZF,ZG,ZH,ZI,ZJ,ZK,ZL,ZM,ZN,ZO,ZP,ZQ,ZR,ZS,ZT,ZU,ZV,ZW,ZX,ZY,ZZ,Za,Zb,Zc,Zd,Ze,Zf,Zg,Zh,Zi,Zj,Zk,Zl,Zm,Zn,Zo,Zp,Zq,Zr,Zs,Zt,Zu,Zv,Zw,Zx,Zy,Zz,YA,YB,YC,YD,YE,YF,YG,YH,YI,YJ,YK,YL,YM,YN,YO,YP,YQ,YR,Env.set,cond_true,cond_false,String.reduceBEq,YS,YT,YU,YV,YW,YX,YY,YZ,Ya,Yb,Yc,Yd,Ye,Yf] | simp only [Yg,Yh,true_and,Yi,Yj,Yk,Yl,Ym,Yn,Yo,Yp,Yq,Yr,Yt,Yu,Yv,Yw,Yx,Yy,Yz,XA,XB,XC,XD,XE,beq_self_eq_true,reduceIte,reduceCtorEq,↓reduceIte,XF,XG,XH, e1, e2, e3, e4, e5, hw'.len]))
    refine ⟨fun q => ?_, fun q => ?_⟩
    · have hi' : i < W.length := by simp at q; exact q
      have hb : B.getD i true = true := by
        cases e : B.getD i true with
        | true => rfl
        | false => rw [lf_cons hi', e] at hl; simp at hl
      (repeat (first | dsimp only [XI, XJ] | dsimp only [ZA,ZB,ZC,ZD,ZE,ZF,ZG,ZH,ZI,ZJ,ZK,ZL,ZM,ZN,ZO,ZP,ZQ,ZR,ZS,ZT,ZU,ZV,ZW,ZX,ZY,ZZ,Za,Zb,Zc,Zd,Ze,Zf,Zg,Zh,Zi,Zj,Zk,Zl,Zm,Zn,Zo,Zp,Zq,Zr,Zs,Zt,Zu,Zv,Zw,Zx,Zy,Zz,YA,YB,YC,YD,YE,YF,YG,YH,YI,YJ,YK,YL,YM,YN,YO,YP,YQ,YR,Env.set,cond_true,cond_false,String.reduceBEq,YS,YT,YU,YV,YW,YX,YY,YZ,Ya,Yb,Yc,Yd,Ye,Yf] | simp only [Yg,Yh,true_and,Yi,Yj,Yk,Yl,Ym,Yn,Yo,Yp,Yq,Yr,Yt,Yu,Yv,Yw,Yx,Yy,Yz,XA,XB,XC,XD,XE,beq_self_eq_true,reduceIte,reduceCtorEq,↓reduceIte,XF,XG,XH, ss.itemB (show i < B.length by omega), hb, e2]))
      refine h1 _ _ _ ?_ ⟨i + 1, rfl, rfl, hi', ?_, by (repeat (first | dsimp only [XI, XJ] | dsimp only [ZA,ZB,ZC,ZD,ZE,ZF,ZG,ZH,ZI,ZJ,ZK,ZL,ZM,ZN,ZO,ZP,ZQ,ZR,ZS,ZT,ZU,ZV,ZW,ZX,ZY,ZZ,Za,Zb,Zc,Zd,Ze,Zf,Zg,Zh,Zi,Zj,Zk,Zl,Zm,Zn,Zo,Zp,Zq,Zr,Zs,Zt,Zu,Zv,Zw,Zx,Zy,Zz,YA,YB,YC,YD,YE,YF,YG,YH,YI,YJ,YK,YL,YM,YN,YO,YP,YQ,YR,Env.set,cond_true,cond_false,String.reduceBEq,YS,YT,YU,YV,YW,YX,YY,YZ,Ya,Yb,Yc,Yd,Ye,Yf] | simp only [Yg,Yh,true_and,Yi,Yj,Yk,Yl,Ym,Yn,Yo,Yp,Yq,Yr,Yt,Yu,Yv,Yw,Yx,Yy,Yz,XA,XB,XC,XD,XE,beq_self_eq_true,reduceIte,reduceCtorEq,↓reduceIte,XF,XG,XH, e1])), by (repeat (first | dsimp only [XI, XJ] | dsimp only [ZA,ZB,ZC,ZD,ZE,ZF,ZG,ZH,ZI,ZJ,ZK,ZL,ZM,ZN,ZO,ZP,ZQ,ZR,ZS,ZT,ZU,ZV,ZW,ZX,ZY,ZZ,Za,Zb,Zc,Zd,Ze,Zf,Zg,Zh,Zi,Zj,Zk,Zl,Zm,Zn,Zo,Zp,Zq,Zr,Zs,Zt,Zu,Zv,Zw,Zx,Zy,Zz,YA,YB,YC,YD,YE,YF,YG,YH,YI,YJ,YK,YL,YM,YN,YO,YP,YQ,YR,Env.set,cond_true,cond_false,String.reduceBEq,YS,YT,YU,YV,YW,YX,YY,YZ,Ya,Yb,Yc,Yd,Ye,Yf] | simp only [Yg,Yh,true_and,Yi,Yj,Yk,Yl,Ym,Yn,Yo,Yp,Yq,Yr,Yt,Yu,Yv,Yw,Yx,Yy,Yz,XA,XB,XC,XD,XE,beq_self_eq_true,reduceIte,reduceCtorEq,↓reduceIte,XF,XG,XH, e2])); rfl, by (repeat (first | dsimp only [XI, XJ] | dsimp only [ZA,ZB,ZC,ZD,ZE,ZF,ZG,ZH,ZI,ZJ,ZK,ZL,ZM,ZN,ZO,ZP,ZQ,ZR,ZS,ZT,ZU,ZV,ZW,ZX,ZY,ZZ,Za,Zb,Zc,Zd,Ze,Zf,Zg,Zh,Zi,Zj,Zk,Zl,Zm,Zn,Zo,Zp,Zq,Zr,Zs,Zt,Zu,Zv,Zw,Zx,Zy,Zz,YA,YB,YC,YD,YE,YF,YG,YH,YI,YJ,YK,YL,YM,YN,YO,YP,YQ,YR,Env.set,cond_true,cond_false,String.reduceBEq,YS,YT,YU,YV,YW,YX,YY,YZ,Ya,Yb,Yc,Yd,Ye,Yf] | simp only [Yg,Yh,true_and,Yi,Yj,Yk,Yl,Ym,Yn,Yo,Yp,Yq,Yr,Yt,Yu,Yv,Yw,Yx,Yy,Yz,XA,XB,XC,XD,XE,beq_self_eq_true,reduceIte,reduceCtorEq,↓reduceIte,XF,XG,XH, e3])), by (repeat (first | dsimp only [XI, XJ] | dsimp only [ZA,ZB,ZC,ZD,ZE,ZF,ZG,ZH,ZI,ZJ,ZK,ZL,ZM,ZN,ZO,ZP,ZQ,ZR,ZS,ZT,ZU,ZV,ZW,ZX,ZY,ZZ,Za,Zb,Zc,Zd,Ze,Zf,Zg,Zh,Zi,Zj,Zk,Zl,Zm,Zn,Zo,Zp,Zq,Zr,Zs,Zt,Zu,Zv,Zw,Zx,Zy,Zz,YA,YB,YC,YD,YE,YF,YG,YH,YI,YJ,YK,YL,YM,YN,YO,YP,YQ,YR,Env.set,cond_true,cond_false,String.reduceBEq,YS,YT,YU,YV,YW,YX,YY,YZ,Ya,Yb,Yc,Yd,Ye,Yf] | simp only [Yg,Yh,true_and,Yi,Yj,Yk,Yl,Ym,Yn,Yo,Yp,Yq,Yr,Yt,Yu,Yv,Yw,Yx,Yy,Yz,XA,XB,XC,XD,XE,beq_self_eq_true,reduceIte,reduceCtorEq,↓reduceIte,XF,XG,XH, e4])), by (repeat (first | dsimp only [XI, XJ] | dsimp only [ZA,ZB,ZC,ZD,ZE,ZF,ZG,ZH,ZI,ZJ,ZK,ZL,ZM,ZN,ZO,ZP,ZQ,ZR,ZS,ZT,ZU,ZV,ZW,ZX,ZY,ZZ,Za,Zb,Zc,Zd,Ze,Zf,Zg,Zh,Zi,Zj,Zk,Zl,Zm,Zn,Zo,Zp,Zq,Zr,Zs,Zt,Zu,Zv,Zw,Zx,Zy,Zz,YA,YB,YC,YD,YE,YF,YG,YH,YI,YJ,YK,YL,YM,YN,YO,YP,YQ,YR,Env.set,cond_true,cond_false,String.reduceBEq,YS,YT,YU,YV,YW,YX,YY,YZ,Ya,Yb,Yc,Yd,Ye,Yf] | simp only [Yg,Yh,true_and,Yi,Yj,Yk,Yl,Ym,Yn,Yo,Yp,Yq,Yr,Yt,Yu,Yv,Yw,Yx,Yy,Yz,XA,XB,XC,XD,XE,beq_self_eq_true,reduceIte,reduceCtorEq,↓reduceIte,XF,XG,XH, e5]))⟩
      · omega
      · rw [lf_cons hi', hb] at hl; simpa using hl
    · have hi' : i = W.length := by simp at q; omega
      subst hi'
      (repeat (first | dsimp only [XI, XJ] | dsimp only [ZA,ZB,ZC,ZD,ZE,ZF,ZG,ZH,ZI,ZJ,ZK,ZL,ZM,ZN,ZO,ZP,ZQ,ZR,ZS,ZT,ZU,ZV,ZW,ZX,ZY,ZZ,Za,Zb,Zc,Zd,Ze,Zf,Zg,Zh,Zi,Zj,Zk,Zl,Zm,Zn,Zo,Zp,Zq,Zr,Zs,Zt,Zu,Zv,Zw,Zx,Zy,Zz,YA,YB,YC,YD,YE,YF,YG,YH,YI,YJ,YK,YL,YM,YN,YO,YP,YQ,YR,Env.set,cond_true,cond_false,String.reduceBEq,YS,YT,YU,YV,YW,YX,YY,YZ,Ya,Yb,Yc,Yd,Ye,Yf] | simp only [Yg,Yh,true_and,Yi,Yj,Yk,Yl,Ym,Yn,Yo,Yp,Yq,Yr,Yt,Yu,Yv,Yw,Yx,Yy,Yz,XA,XB,XC,XD,XE,beq_self_eq_true,reduceIte,reduceCtorEq,↓reduceIte,XF,XG,XH]))
      refine hn _ _ ?_
      obtain ⟨H2, p1, p2⟩ := ss.push (by unfold room cnt at hr; omega)
      obtain ⟨fs, f1, _⟩ := ss.hf
      (repeat (first | dsimp only [XI, XJ] | dsimp only [ZA,ZB,ZC,ZD,ZE,ZF,ZG,ZH,ZI,ZJ,ZK,ZL,ZM,ZN,ZO,ZP,ZQ,ZR,ZS,ZT,ZU,ZV,ZW,ZX,ZY,ZZ,Za,Zb,Zc,Zd,Ze,Zf,Zg,Zh,Zi,Zj,Zk,Zl,Zm,Zn,Zo,Zp,Zq,Zr,Zs,Zt,Zu,Zv,Zw,Zx,Zy,Zz,YA,YB,YC,YD,YE,YF,YG,YH,YI,YJ,YK,YL,YM,YN,YO,YP,YQ,YR,Env.set,cond_true,cond_false,String.reduceBEq,YS,YT,YU,YV,YW,YX,YY,YZ,Ya,Yb,Yc,Yd,Ye,Yf] | simp only [Yg,Yh,true_and,Yi,Yj,Yk,Yl,Ym,Yn,Yo,Yp,Yq,Yr,Yt,Yu,Yv,Yw,Yx,Yy,Yz,XA,XB,XC,XD,XE,beq_self_eq_true,reduceIte,reduceCtorEq,↓reduceIte,XF,XG,XH, e1, e2, e3, e4, e5, hw'.len, seqOf_list ss.hm, (recvL f1).1, p1]))
      exact h _ p2
  | succ k ih =>
    intro H Q g M B Xs ss lm lb hg hk hM hr h
    have hw' := hw.pre ss.pre
    have l6 := ok.le
    have hll : W.length ≤ lim := Nat.le_trans ok.le (by decide)
    (refine callN_in hP rfl ?_; unfold f_settled)
    refine wSs_step fun K hn hrr => ?_
    rw [s_while]
    refine wWhile_ex (fun d ρ H' => ∃ i : Nat, H' = H ∧ d = W.length - i ∧ i ≤ W.length ∧ lf B i W.length = lf B g W.length ∧ ρ "wishes" = some (.ref w) ∧ ρ "guest" = some (.int (i : Int)) ∧ ρ "mates" = some (.ref m) ∧ ρ "met" = some (.ref t) ∧ ρ "found" = some (.ref f)) (m := W.length - g) ⟨g, rfl, rfl, hg, rfl, rfl, rfl, rfl, rfl, rfl⟩ fun d ρ H' hI k' h1 h2 => ?_
    obtain ⟨i, rfl, rfl, hi, hl, e1, e2, e3, e4, e5⟩ := hI
    (repeat (first | dsimp only [XI, XJ] | dsimp only [ZA,ZB,ZC,ZD,ZE,ZF,ZG,ZH,ZI,ZJ,ZK,ZL,ZM,ZN,ZO,ZP,ZQ,ZR,ZS,ZT,ZU,ZV,ZW,ZX,ZY,ZZ,Za,Zb,Zc,Zd,Ze,Zf,Zg,Zh,Zi,Zj,Zk,Zl,Zm,Zn,Zo,Zp,Zq,Zr,Zs,Zt,Zu,Zv,Zw,Zx,Zy,Zz,YA,YB,YC,YD,YE,YF,YG,YH,YI,YJ,YK,YL,YM,YN,YO,YP,YQ,YR,Env.set,cond_true,cond_false,String.reduceBEq,YS,YT,YU,YV,YW,YX,YY,YZ,Ya,Yb,Yc,Yd,Ye,Yf] | simp only [Yg,Yh,true_and,Yi,Yj,Yk,Yl,Ym,Yn,Yo,Yp,Yq,Yr,Yt,Yu,Yv,Yw,Yx,Yy,Yz,XA,XB,XC,XD,XE,beq_self_eq_true,reduceIte,reduceCtorEq,↓reduceIte,XF,XG,XH, e1, e2, e3, e4, e5, hw'.len]))
    refine ⟨fun q => ?_, fun q => ?_⟩
    · have hi' : i < W.length := by simp at q; exact q
      (repeat (first | dsimp only [XI, XJ] | dsimp only [ZA,ZB,ZC,ZD,ZE,ZF,ZG,ZH,ZI,ZJ,ZK,ZL,ZM,ZN,ZO,ZP,ZQ,ZR,ZS,ZT,ZU,ZV,ZW,ZX,ZY,ZZ,Za,Zb,Zc,Zd,Ze,Zf,Zg,Zh,Zi,Zj,Zk,Zl,Zm,Zn,Zo,Zp,Zq,Zr,Zs,Zt,Zu,Zv,Zw,Zx,Zy,Zz,YA,YB,YC,YD,YE,YF,YG,YH,YI,YJ,YK,YL,YM,YN,YO,YP,YQ,YR,Env.set,cond_true,cond_false,String.reduceBEq,YS,YT,YU,YV,YW,YX,YY,YZ,Ya,Yb,Yc,Yd,Ye,Yf] | simp only [Yg,Yh,true_and,Yi,Yj,Yk,Yl,Ym,Yn,Yo,Yp,Yq,Yr,Yt,Yu,Yv,Yw,Yx,Yy,Yz,XA,XB,XC,XD,XE,beq_self_eq_true,reduceIte,reduceCtorEq,↓reduceIte,XF,XG,XH, ss.itemB (show i < B.length by omega)]))
      cases hb : B.getD i true with
      | true =>
        (repeat (first | dsimp only [XI, XJ] | dsimp only [ZA,ZB,ZC,ZD,ZE,ZF,ZG,ZH,ZI,ZJ,ZK,ZL,ZM,ZN,ZO,ZP,ZQ,ZR,ZS,ZT,ZU,ZV,ZW,ZX,ZY,ZZ,Za,Zb,Zc,Zd,Ze,Zf,Zg,Zh,Zi,Zj,Zk,Zl,Zm,Zn,Zo,Zp,Zq,Zr,Zs,Zt,Zu,Zv,Zw,Zx,Zy,Zz,YA,YB,YC,YD,YE,YF,YG,YH,YI,YJ,YK,YL,YM,YN,YO,YP,YQ,YR,Env.set,cond_true,cond_false,String.reduceBEq,YS,YT,YU,YV,YW,YX,YY,YZ,Ya,Yb,Yc,Yd,Ye,Yf] | simp only [Yg,Yh,true_and,Yi,Yj,Yk,Yl,Ym,Yn,Yo,Yp,Yq,Yr,Yt,Yu,Yv,Yw,Yx,Yy,Yz,XA,XB,XC,XD,XE,beq_self_eq_true,reduceIte,reduceCtorEq,↓reduceIte,XF,XG,XH, e2]))
        refine h1 _ _ _ ?_ ⟨i + 1, rfl, rfl, hi', ?_, by (repeat (first | dsimp only [XI, XJ] | dsimp only [ZA,ZB,ZC,ZD,ZE,ZF,ZG,ZH,ZI,ZJ,ZK,ZL,ZM,ZN,ZO,ZP,ZQ,ZR,ZS,ZT,ZU,ZV,ZW,ZX,ZY,ZZ,Za,Zb,Zc,Zd,Ze,Zf,Zg,Zh,Zi,Zj,Zk,Zl,Zm,Zn,Zo,Zp,Zq,Zr,Zs,Zt,Zu,Zv,Zw,Zx,Zy,Zz,YA,YB,YC,YD,YE,YF,YG,YH,YI,YJ,YK,YL,YM,YN,YO,YP,YQ,YR,Env.set,cond_true,cond_false,String.reduceBEq,YS,YT,YU,YV,YW,YX,YY,YZ,Ya,Yb,Yc,Yd,Ye,Yf] | simp only [Yg,Yh,true_and,Yi,Yj,Yk,Yl,Ym,Yn,Yo,Yp,Yq,Yr,Yt,Yu,Yv,Yw,Yx,Yy,Yz,XA,XB,XC,XD,XE,beq_self_eq_true,reduceIte,reduceCtorEq,↓reduceIte,XF,XG,XH, e1])), by (repeat (first | dsimp only [XI, XJ] | dsimp only [ZA,ZB,ZC,ZD,ZE,ZF,ZG,ZH,ZI,ZJ,ZK,ZL,ZM,ZN,ZO,ZP,ZQ,ZR,ZS,ZT,ZU,ZV,ZW,ZX,ZY,ZZ,Za,Zb,Zc,Zd,Ze,Zf,Zg,Zh,Zi,Zj,Zk,Zl,Zm,Zn,Zo,Zp,Zq,Zr,Zs,Zt,Zu,Zv,Zw,Zx,Zy,Zz,YA,YB,YC,YD,YE,YF,YG,YH,YI,YJ,YK,YL,YM,YN,YO,YP,YQ,YR,Env.set,cond_true,cond_false,String.reduceBEq,YS,YT,YU,YV,YW,YX,YY,YZ,Ya,Yb,Yc,Yd,Ye,Yf] | simp only [Yg,Yh,true_and,Yi,Yj,Yk,Yl,Ym,Yn,Yo,Yp,Yq,Yr,Yt,Yu,Yv,Yw,Yx,Yy,Yz,XA,XB,XC,XD,XE,beq_self_eq_true,reduceIte,reduceCtorEq,↓reduceIte,XF,XG,XH, e2])); rfl, by (repeat (first | dsimp only [XI, XJ] | dsimp only [ZA,ZB,ZC,ZD,ZE,ZF,ZG,ZH,ZI,ZJ,ZK,ZL,ZM,ZN,ZO,ZP,ZQ,ZR,ZS,ZT,ZU,ZV,ZW,ZX,ZY,ZZ,Za,Zb,Zc,Zd,Ze,Zf,Zg,Zh,Zi,Zj,Zk,Zl,Zm,Zn,Zo,Zp,Zq,Zr,Zs,Zt,Zu,Zv,Zw,Zx,Zy,Zz,YA,YB,YC,YD,YE,YF,YG,YH,YI,YJ,YK,YL,YM,YN,YO,YP,YQ,YR,Env.set,cond_true,cond_false,String.reduceBEq,YS,YT,YU,YV,YW,YX,YY,YZ,Ya,Yb,Yc,Yd,Ye,Yf] | simp only [Yg,Yh,true_and,Yi,Yj,Yk,Yl,Ym,Yn,Yo,Yp,Yq,Yr,Yt,Yu,Yv,Yw,Yx,Yy,Yz,XA,XB,XC,XD,XE,beq_self_eq_true,reduceIte,reduceCtorEq,↓reduceIte,XF,XG,XH, e3])), by (repeat (first | dsimp only [XI, XJ] | dsimp only [ZA,ZB,ZC,ZD,ZE,ZF,ZG,ZH,ZI,ZJ,ZK,ZL,ZM,ZN,ZO,ZP,ZQ,ZR,ZS,ZT,ZU,ZV,ZW,ZX,ZY,ZZ,Za,Zb,Zc,Zd,Ze,Zf,Zg,Zh,Zi,Zj,Zk,Zl,Zm,Zn,Zo,Zp,Zq,Zr,Zs,Zt,Zu,Zv,Zw,Zx,Zy,Zz,YA,YB,YC,YD,YE,YF,YG,YH,YI,YJ,YK,YL,YM,YN,YO,YP,YQ,YR,Env.set,cond_true,cond_false,String.reduceBEq,YS,YT,YU,YV,YW,YX,YY,YZ,Ya,Yb,Yc,Yd,Ye,Yf] | simp only [Yg,Yh,true_and,Yi,Yj,Yk,Yl,Ym,Yn,Yo,Yp,Yq,Yr,Yt,Yu,Yv,Yw,Yx,Yy,Yz,XA,XB,XC,XD,XE,beq_self_eq_true,reduceIte,reduceCtorEq,↓reduceIte,XF,XG,XH, e4])), by (repeat (first | dsimp only [XI, XJ] | dsimp only [ZA,ZB,ZC,ZD,ZE,ZF,ZG,ZH,ZI,ZJ,ZK,ZL,ZM,ZN,ZO,ZP,ZQ,ZR,ZS,ZT,ZU,ZV,ZW,ZX,ZY,ZZ,Za,Zb,Zc,Zd,Ze,Zf,Zg,Zh,Zi,Zj,Zk,Zl,Zm,Zn,Zo,Zp,Zq,Zr,Zs,Zt,Zu,Zv,Zw,Zx,Zy,Zz,YA,YB,YC,YD,YE,YF,YG,YH,YI,YJ,YK,YL,YM,YN,YO,YP,YQ,YR,Env.set,cond_true,cond_false,String.reduceBEq,YS,YT,YU,YV,YW,YX,YY,YZ,Ya,Yb,Yc,Yd,Ye,Yf] | simp only [Yg,Yh,true_and,Yi,Yj,Yk,Yl,Ym,Yn,Yo,Yp,Yq,Yr,Yt,Yu,Yv,Yw,Yx,Yy,Yz,XA,XB,XC,XD,XE,beq_self_eq_true,reduceIte,reduceCtorEq,↓reduceIte,XF,XG,XH, e5]))⟩
        · omega
        · rw [lf_cons hi', hb] at hl; simpa using hl
      | false =>
        (repeat (first | dsimp only [XI, XJ] | dsimp only [ZA,ZB,ZC,ZD,ZE,ZF,ZG,ZH,ZI,ZJ,ZK,ZL,ZM,ZN,ZO,ZP,ZQ,ZR,ZS,ZT,ZU,ZV,ZW,ZX,ZY,ZZ,Za,Zb,Zc,Zd,Ze,Zf,Zg,Zh,Zi,Zj,Zk,Zl,Zm,Zn,Zo,Zp,Zq,Zr,Zs,Zt,Zu,Zv,Zw,Zx,Zy,Zz,YA,YB,YC,YD,YE,YF,YG,YH,YI,YJ,YK,YL,YM,YN,YO,YP,YQ,YR,Env.set,cond_true,cond_false,String.reduceBEq,YS,YT,YU,YV,YW,YX,YY,YZ,Ya,Yb,Yc,Yd,Ye,Yf] | simp only [Yg,Yh,true_and,Yi,Yj,Yk,Yl,Ym,Yn,Yo,Yp,Yq,Yr,Yt,Yu,Yv,Yw,Yx,Yy,Yz,XA,XB,XC,XD,XE,beq_self_eq_true,reduceIte,reduceCtorEq,↓reduceIte,XF,XG,XH]))
        refine hn _ _ ?_
        clear hn hrr h1 h2 q
        have hlc : lf B g W.length = i :: lf B (i + 1) W.length := by rw [← hl, lf_cons hi', hb]; simp
        rw [hlc] at hk hM hr h
        clear hl hlc
        have hne : ((i : Int) == (W.length : Int)) = false := beq_eq_false_iff_ne.mpr (by omega)
        have hBi : B[i]? = some false := getD_some (by omega) hb
        have hMi : M[i]? = some none := getD_some (by omega) (hM i (.head _))
        have ec : (i : Int) + 1 = ((i + 1 : Nat) : Int) := by omega
        have hrk : room (both W) k (lf B (i + 1) W.length) Xs := by unfold room cnt at hr; unfold room; omega
        have hkk : (lf B (i + 1) W.length).length ≤ k := by simp at hk; omega
        obtain ⟨H1, s1, ss1⟩ := ss.setB (show i < B.length by omega) true
        (repeat (first | dsimp only [XI, XJ] | dsimp only [ZA,ZB,ZC,ZD,ZE,ZF,ZG,ZH,ZI,ZJ,ZK,ZL,ZM,ZN,ZO,ZP,ZQ,ZR,ZS,ZT,ZU,ZV,ZW,ZX,ZY,ZZ,Za,Zb,Zc,Zd,Ze,Zf,Zg,Zh,Zi,Zj,Zk,Zl,Zm,Zn,Zo,Zp,Zq,Zr,Zs,Zt,Zu,Zv,Zw,Zx,Zy,Zz,YA,YB,YC,YD,YE,YF,YG,YH,YI,YJ,YK,YL,YM,YN,YO,YP,YQ,YR,Env.set,cond_true,cond_false,String.reduceBEq,YS,YT,YU,YV,YW,YX,YY,YZ,Ya,Yb,Yc,Yd,Ye,Yf] | simp only [Yg,Yh,true_and,Yi,Yj,Yk,Yl,Ym,Yn,Yo,Yp,Yq,Yr,Yt,Yu,Yv,Yw,Yx,Yy,Yz,XA,XB,XC,XD,XE,beq_self_eq_true,reduceIte,reduceCtorEq,↓reduceIte,XF,XG,XH, e1, e2, e3, e4, e5, hw'.len, hne, s1, ec]))
        have l1 := lf_set (B := B) (g := i) (n := W.length) (by omega)
        refine ih ss1 lm (by simpa using lb) hi' (by rw [l1]; exact hkk) (by rw [l1]; exact fun j hj => hM j (.tail _ hj)) (by rw [l1]; exact hrk) fun H2 ss2 => ?_
        rw [l1] at ss2
        have hw2 := hw.pre ss2.pre
        (repeat (first | dsimp only [XI, XJ] | dsimp only [ZA,ZB,ZC,ZD,ZE,ZF,ZG,ZH,ZI,ZJ,ZK,ZL,ZM,ZN,ZO,ZP,ZQ,ZR,ZS,ZT,ZU,ZV,ZW,ZX,ZY,ZZ,Za,Zb,Zc,Zd,Ze,Zf,Zg,Zh,Zi,Zj,Zk,Zl,Zm,Zn,Zo,Zp,Zq,Zr,Zs,Zt,Zu,Zv,Zw,Zx,Zy,Zz,YA,YB,YC,YD,YE,YF,YG,YH,YI,YJ,YK,YL,YM,YN,YO,YP,YQ,YR,Env.set,cond_true,cond_false,String.reduceBEq,YS,YT,YU,YV,YW,YX,YY,YZ,Ya,Yb,Yc,Yd,Ye,Yf] | simp only [Yg,Yh,true_and,Yi,Yj,Yk,Yl,Ym,Yn,Yo,Yp,Yq,Yr,Yt,Yu,Yv,Yw,Yx,Yy,Yz,XA,XB,XC,XD,XE,beq_self_eq_true,reduceIte,reduceCtorEq,↓reduceIte,XF,XG,XH, e1, e2, hw2.len, ec, range2_nat (show i + 1 ≤ lim by omega) hll, rangeI_rng2]))
        have F : ∀ d, d ≤ W.length - (i + 1) → (((List.range' (i + 1) d).filter fun i => !B.getD i true).filter (both W i)).Sublist ((lf B (i + 1) W.length).filter (both W i)) := fun d hd => by
          refine List.Sublist.filter _ (List.Sublist.filter _ ?_)
          obtain ⟨d', e⟩ : ∃ d', W.length - (i + 1) = d + d' := ⟨_, (Nat.add_sub_of_le hd).symm⟩
          rw [e, ← List.range'_append_1]
          exact List.sublist_append_left _ _
        refine wFor_idx (fun d ρ H' => SS H₀ H' m t f M (B.set i true) (Xs ++ twos (both W) k (lf B (i + 1) W.length) M ++ (((List.range' (i + 1) d).filter fun i => !B.getD i true).filter (both W i)).flatMap fun o => twos (both W) k ((lf B (i + 1) W.length).filter (· != o)) (pairM M i o)) ∧
          ρ "wishes" = some (.ref w) ∧ ρ "guest" = some (.int (i : Int)) ∧ ρ "mates" = some (.ref m) ∧ ρ "met" = some (.ref t) ∧ ρ "found" = some (.ref f)) ⟨by simpa using ss2, e1, e2, e3, e4, e5⟩ (fun d v ρ H' hv hI => ⟨trivial, fun k' h1 h2 => ?_⟩) fun ρ H' hI => ⟨trivial, ?_⟩
        · obtain ⟨hd, rfl⟩ := rng2_get hv
          obtain ⟨ss3, e1, e2, e3, e4, e5⟩ := hI
          have hw3 := hw.pre ss3.pre
          have it := ss3.itemB (i := i + 1 + d) (by simp; omega)
          rw [getD_set _ _ _ _ _ (by omega), if_neg (by omega)] at it
          have step : ((List.range' (i + 1) (d + 1)).filter fun i => !B.getD i true).filter (both W i) = ((List.range' (i + 1) d).filter fun i => !B.getD i true).filter (both W i) ++ if !B.getD (i + 1 + d) true && both W i (i + 1 + d) then [i + 1 + d] else [] := by
            rw [List.range'_1_concat, List.filter_append, List.filter_append]
            congr 1
            cases hB : B.getD (i + 1 + d) true <;> cases hq : both W i (i + 1 + d) <;> simp only [List.filter, hB, hq, Bool.not_true, Bool.not_false, Bool.false_and, Bool.true_and, if_true, if_false, Bool.false_eq_true]
          have skip : (!B.getD (i + 1 + d) true && both W i (i + 1 + d)) = false → k' none (ρ.set "other" (.int ((i + 1 + d : Nat) : Int))) H' := fun q => by
            refine h1 _ _ ⟨?_, by (repeat (first | dsimp only [XI, XJ] | dsimp only [ZA,ZB,ZC,ZD,ZE,ZF,ZG,ZH,ZI,ZJ,ZK,ZL,ZM,ZN,ZO,ZP,ZQ,ZR,ZS,ZT,ZU,ZV,ZW,ZX,ZY,ZZ,Za,Zb,Zc,Zd,Ze,Zf,Zg,Zh,Zi,Zj,Zk,Zl,Zm,Zn,Zo,Zp,Zq,Zr,Zs,Zt,Zu,Zv,Zw,Zx,Zy,Zz,YA,YB,YC,YD,YE,YF,YG,YH,YI,YJ,YK,YL,YM,YN,YO,YP,YQ,YR,Env.set,cond_true,cond_false,String.reduceBEq,YS,YT,YU,YV,YW,YX,YY,YZ,Ya,Yb,Yc,Yd,Ye,Yf] | simp only [Yg,Yh,true_and,Yi,Yj,Yk,Yl,Ym,Yn,Yo,Yp,Yq,Yr,Yt,Yu,Yv,Yw,Yx,Yy,Yz,XA,XB,XC,XD,XE,beq_self_eq_true,reduceIte,reduceCtorEq,↓reduceIte,XF,XG,XH, e1])), by (repeat (first | dsimp only [XI, XJ] | dsimp only [ZA,ZB,ZC,ZD,ZE,ZF,ZG,ZH,ZI,ZJ,ZK,ZL,ZM,ZN,ZO,ZP,ZQ,ZR,ZS,ZT,ZU,ZV,ZW,ZX,ZY,ZZ,Za,Zb,Zc,Zd,Ze,Zf,Zg,Zh,Zi,Zj,Zk,Zl,Zm,Zn,Zo,Zp,Zq,Zr,Zs,Zt,Zu,Zv,Zw,Zx,Zy,Zz,YA,YB,YC,YD,YE,YF,YG,YH,YI,YJ,YK,YL,YM,YN,YO,YP,YQ,YR,Env.set,cond_true,cond_false,String.reduceBEq,YS,YT,YU,YV,YW,YX,YY,YZ,Ya,Yb,Yc,Yd,Ye,Yf] | simp only [Yg,Yh,true_and,Yi,Yj,Yk,Yl,Ym,Yn,Yo,Yp,Yq,Yr,Yt,Yu,Yv,Yw,Yx,Yy,Yz,XA,XB,XC,XD,XE,beq_self_eq_true,reduceIte,reduceCtorEq,↓reduceIte,XF,XG,XH, e2])), by (repeat (first | dsimp only [XI, XJ] | dsimp only [ZA,ZB,ZC,ZD,ZE,ZF,ZG,ZH,ZI,ZJ,ZK,ZL,ZM,ZN,ZO,ZP,ZQ,ZR,ZS,ZT,ZU,ZV,ZW,ZX,ZY,ZZ,Za,Zb,Zc,Zd,Ze,Zf,Zg,Zh,Zi,Zj,Zk,Zl,Zm,Zn,Zo,Zp,Zq,Zr,Zs,Zt,Zu,Zv,Zw,Zx,Zy,Zz,YA,YB,YC,YD,YE,YF,YG,YH,YI,YJ,YK,YL,YM,YN,YO,YP,YQ,YR,Env.set,cond_true,cond_false,String.reduceBEq,YS,YT,YU,YV,YW,YX,YY,YZ,Ya,Yb,Yc,Yd,Ye,Yf] | simp only [Yg,Yh,true_and,Yi,Yj,Yk,Yl,Ym,Yn,Yo,Yp,Yq,Yr,Yt,Yu,Yv,Yw,Yx,Yy,Yz,XA,XB,XC,XD,XE,beq_self_eq_true,reduceIte,reduceCtorEq,↓reduceIte,XF,XG,XH, e3])), by (repeat (first | dsimp only [XI, XJ] | dsimp only [ZA,ZB,ZC,ZD,ZE,ZF,ZG,ZH,ZI,ZJ,ZK,ZL,ZM,ZN,ZO,ZP,ZQ,ZR,ZS,ZT,ZU,ZV,ZW,ZX,ZY,ZZ,Za,Zb,Zc,Zd,Ze,Zf,Zg,Zh,Zi,Zj,Zk,Zl,Zm,Zn,Zo,Zp,Zq,Zr,Zs,Zt,Zu,Zv,Zw,Zx,Zy,Zz,YA,YB,YC,YD,YE,YF,YG,YH,YI,YJ,YK,YL,YM,YN,YO,YP,YQ,YR,Env.set,cond_true,cond_false,String.reduceBEq,YS,YT,YU,YV,YW,YX,YY,YZ,Ya,Yb,Yc,Yd,Ye,Yf] | simp only [Yg,Yh,true_and,Yi,Yj,Yk,Yl,Ym,Yn,Yo,Yp,Yq,Yr,Yt,Yu,Yv,Yw,Yx,Yy,Yz,XA,XB,XC,XD,XE,beq_self_eq_true,reduceIte,reduceCtorEq,↓reduceIte,XF,XG,XH, e4])), by (repeat (first | dsimp only [XI, XJ] | dsimp only [ZA,ZB,ZC,ZD,ZE,ZF,ZG,ZH,ZI,ZJ,ZK,ZL,ZM,ZN,ZO,ZP,ZQ,ZR,ZS,ZT,ZU,ZV,ZW,ZX,ZY,ZZ,Za,Zb,Zc,Zd,Ze,Zf,Zg,Zh,Zi,Zj,Zk,Zl,Zm,Zn,Zo,Zp,Zq,Zr,Zs,Zt,Zu,Zv,Zw,Zx,Zy,Zz,YA,YB,YC,YD,YE,YF,YG,YH,YI,YJ,YK,YL,YM,YN,YO,YP,YQ,YR,Env.set,cond_true,cond_false,String.reduceBEq,YS,YT,YU,YV,YW,YX,YY,YZ,Ya,Yb,Yc,Yd,Ye,Yf] | simp only [Yg,Yh,true_and,Yi,Yj,Yk,Yl,Ym,Yn,Yo,Yp,Yq,Yr,Yt,Yu,Yv,Yw,Yx,Yy,Yz,XA,XB,XC,XD,XE,beq_self_eq_true,reduceIte,reduceCtorEq,↓reduceIte,XF,XG,XH, e5]))⟩
            rw [step, q]; simpa using ss3
          (repeat (first | dsimp only [XI, XJ] | dsimp only [ZA,ZB,ZC,ZD,ZE,ZF,ZG,ZH,ZI,ZJ,ZK,ZL,ZM,ZN,ZO,ZP,ZQ,ZR,ZS,ZT,ZU,ZV,ZW,ZX,ZY,ZZ,Za,Zb,Zc,Zd,Ze,Zf,Zg,Zh,Zi,Zj,Zk,Zl,Zm,Zn,Zo,Zp,Zq,Zr,Zs,Zt,Zu,Zv,Zw,Zx,Zy,Zz,YA,YB,YC,YD,YE,YF,YG,YH,YI,YJ,YK,YL,YM,YN,YO,YP,YQ,YR,Env.set,cond_true,cond_false,String.reduceBEq,YS,YT,YU,YV,YW,YX,YY,YZ,Ya,Yb,Yc,Yd,Ye,Yf] | simp only [Yg,Yh,true_and,Yi,Yj,Yk,Yl,Ym,Yn,Yo,Yp,Yq,Yr,Yt,Yu,Yv,Yw,Yx,Yy,Yz,XA,XB,XC,XD,XE,beq_self_eq_true,reduceIte,reduceCtorEq,↓reduceIte,XF,XG,XH, e1, e2, e3, e4, e5, it]))
          cases hb2 : B.getD (i + 1 + d) true with
          | true => (repeat (first | dsimp only [XI, XJ] | dsimp only [ZA,ZB,ZC,ZD,ZE,ZF,ZG,ZH,ZI,ZJ,ZK,ZL,ZM,ZN,ZO,ZP,ZQ,ZR,ZS,ZT,ZU,ZV,ZW,ZX,ZY,ZZ,Za,Zb,Zc,Zd,Ze,Zf,Zg,Zh,Zi,Zj,Zk,Zl,Zm,Zn,Zo,Zp,Zq,Zr,Zs,Zt,Zu,Zv,Zw,Zx,Zy,Zz,YA,YB,YC,YD,YE,YF,YG,YH,YI,YJ,YK,YL,YM,YN,YO,YP,YQ,YR,Env.set,cond_true,cond_false,String.reduceBEq,YS,YT,YU,YV,YW,YX,YY,YZ,Ya,Yb,Yc,Yd,Ye,Yf] | simp only [Yg,Yh,true_and,Yi,Yj,Yk,Yl,Ym,Yn,Yo,Yp,Yq,Yr,Yt,Yu,Yv,Yw,Yx,Yy,Yz,XA,XB,XC,XD,XE,beq_self_eq_true,reduceIte,reduceCtorEq,↓reduceIte,XF,XG,XH])); exact skip (by rw [hb2]; rfl)
          | false =>
            (repeat (first | dsimp only [XI, XJ] | dsimp only [ZA,ZB,ZC,ZD,ZE,ZF,ZG,ZH,ZI,ZJ,ZK,ZL,ZM,ZN,ZO,ZP,ZQ,ZR,ZS,ZT,ZU,ZV,ZW,ZX,ZY,ZZ,Za,Zb,Zc,Zd,Ze,Zf,Zg,Zh,Zi,Zj,Zk,Zl,Zm,Zn,Zo,Zp,Zq,Zr,Zs,Zt,Zu,Zv,Zw,Zx,Zy,Zz,YA,YB,YC,YD,YE,YF,YG,YH,YI,YJ,YK,YL,YM,YN,YO,YP,YQ,YR,Env.set,cond_true,cond_false,String.reduceBEq,YS,YT,YU,YV,YW,YX,YY,YZ,Ya,Yb,Yc,Yd,Ye,Yf] | simp only [Yg,Yh,true_and,Yi,Yj,Yk,Yl,Ym,Yn,Yo,Yp,Yq,Yr,Yt,Yu,Yv,Yw,Yx,Yy,Yz,XA,XB,XC,XD,XE,beq_self_eq_true,reduceIte,reduceCtorEq,↓reduceIte,XF,XG,XH]))
            refine s_both_wish hP1 hw3 hi' (show i + 1 + d < W.length by omega) ?_
            cases hbo : both W i (i + 1 + d) with
            | false => (repeat (first | dsimp only [XI, XJ] | dsimp only [ZA,ZB,ZC,ZD,ZE,ZF,ZG,ZH,ZI,ZJ,ZK,ZL,ZM,ZN,ZO,ZP,ZQ,ZR,ZS,ZT,ZU,ZV,ZW,ZX,ZY,ZZ,Za,Zb,Zc,Zd,Ze,Zf,Zg,Zh,Zi,Zj,Zk,Zl,Zm,Zn,Zo,Zp,Zq,Zr,Zs,Zt,Zu,Zv,Zw,Zx,Zy,Zz,YA,YB,YC,YD,YE,YF,YG,YH,YI,YJ,YK,YL,YM,YN,YO,YP,YQ,YR,Env.set,cond_true,cond_false,String.reduceBEq,YS,YT,YU,YV,YW,YX,YY,YZ,Ya,Yb,Yc,Yd,Ye,Yf] | simp only [Yg,Yh,true_and,Yi,Yj,Yk,Yl,Ym,Yn,Yo,Yp,Yq,Yr,Yt,Yu,Yv,Yw,Yx,Yy,Yz,XA,XB,XC,XD,XE,beq_self_eq_true,reduceIte,reduceCtorEq,↓reduceIte,XF,XG,XH])); exact skip (by rw [hb2, hbo]; rfl)
            | true =>
              have homem : i + 1 + d ∈ lf B (i + 1) W.length := lf_mem.mpr ⟨by omega, by omega, hb2⟩
              have hMo : M[i + 1 + d]? = some none := getD_some (by omega) (hM _ (.tail _ homem))
              have hBo : (B.set i true)[i + 1 + d]? = some false := by rw [List.getElem?_set_ne (by omega)]; exact getD_some (by omega) hb2
              obtain ⟨H4, s4, ss4⟩ := ss3.setB (i := i + 1 + d) (by simp; omega) true
              obtain ⟨H5, s5, ss5⟩ := ss4.setM (i := i) (by omega) (some (i + 1 + d))
              obtain ⟨H6, s6, ss6⟩ := ss5.setM (i := i + 1 + d) (by simp; omega) (some i)
              (repeat (first | dsimp only [XI, XJ] | dsimp only [ZA,ZB,ZC,ZD,ZE,ZF,ZG,ZH,ZI,ZJ,ZK,ZL,ZM,ZN,ZO,ZP,ZQ,ZR,ZS,ZT,ZU,ZV,ZW,ZX,ZY,ZZ,Za,Zb,Zc,Zd,Ze,Zf,Zg,Zh,Zi,Zj,Zk,Zl,Zm,Zn,Zo,Zp,Zq,Zr,Zs,Zt,Zu,Zv,Zw,Zx,Zy,Zz,YA,YB,YC,YD,YE,YF,YG,YH,YI,YJ,YK,YL,YM,YN,YO,YP,YQ,YR,Env.set,cond_true,cond_false,String.reduceBEq,YS,YT,YU,YV,YW,YX,YY,YZ,Ya,Yb,Yc,Yd,Ye,Yf] | simp only [Yg,Yh,true_and,Yi,Yj,Yk,Yl,Ym,Yn,Yo,Yp,Yq,Yr,Yt,Yu,Yv,Yw,Yx,Yy,Yz,XA,XB,XC,XD,XE,beq_self_eq_true,reduceIte,reduceCtorEq,↓reduceIte,XF,XG,XH, e1, e2, e3, e4, e5, s4, show setV (.ref m) (.int (i : Int)) (.int ((i + 1 + d : Nat) : Int)) H4 = some H5 from s5, show setV (.ref m) (.int ((i + 1 + d : Nat) : Int)) (.int (i : Int)) H5 = some H6 from s6, ec]))
              have l2 := lf_set2 (B := B) (g := i) (o := i + 1 + d) (n := W.length) (by omega) (by omega)
              have hsub := F (d + 1) (by omega)
              rw [step, hb2, hbo] at hsub
              have hroom : room (both W) k ((lf B (i + 1) W.length).filter (· != (i + 1 + d))) (Xs ++ twos (both W) k (lf B (i + 1) W.length) M ++ (((List.range' (i + 1) d).filter fun i => !B.getD i true).filter (both W i)).flatMap fun o => twos (both W) k ((lf B (i + 1) W.length).filter (· != o)) (pairM M i o)) := by
                unfold room at hr ⊢
                rw [cnt] at hr
                have := sub_sum (hsub.map fun o => cnt (both W) k ((lf B (i + 1) W.length).filter (· != o)))
                simp only [Bool.not_false, Bool.true_and, if_true, List.map_append, List.sum_append, List.map_cons, List.map_nil, List.sum_cons, List.sum_nil] at this
                simp only [List.length_append, twos_len, List.length_flatMap]
                omega
              refine ih ss6 (by simp; omega) (by simp; omega) hi' (by rw [l2]; exact Nat.le_trans (List.length_filter_le _ _) hkk) (fun j hj => ?_) (by rw [l2]; exact hroom) fun H7 ss7 => ?_
              · rw [l2] at hj
                obtain ⟨j1, j2⟩ := List.mem_filter.mp hj
                have j2 : j ≠ i + 1 + d := by simpa using j2
                have j3 := (lf_mem.mp j1).1
                show (pairM M i (i + 1 + d)).getD j none = none
                rw [pairM_ne (by omega) j2]; exact hM j (.tail _ j1)
              · rw [l2] at ss7
                obtain ⟨H8, s8, ss8⟩ := ss7.setM (i := i) (by simp; omega) none
                obtain ⟨H9, s9, ss9⟩ := ss8.setM (i := i + 1 + d) (by simp; omega) none
                have eM : ((((M.set i (some (i + 1 + d))).set (i + 1 + d) (some i)).set i none).set (i + 1 + d) none) = M := pair_back hMi hMo (by omega)
                rw [eM] at ss9
                obtain ⟨H10, s10, ss10⟩ := ss9.setB (i := i + 1 + d) (by simp; omega) false
                rw [set_back hBo] at ss10
                (repeat (first | dsimp only [XI, XJ] | dsimp only [ZA,ZB,ZC,ZD,ZE,ZF,ZG,ZH,ZI,ZJ,ZK,ZL,ZM,ZN,ZO,ZP,ZQ,ZR,ZS,ZT,ZU,ZV,ZW,ZX,ZY,ZZ,Za,Zb,Zc,Zd,Ze,Zf,Zg,Zh,Zi,Zj,Zk,Zl,Zm,Zn,Zo,Zp,Zq,Zr,Zs,Zt,Zu,Zv,Zw,Zx,Zy,Zz,YA,YB,YC,YD,YE,YF,YG,YH,YI,YJ,YK,YL,YM,YN,YO,YP,YQ,YR,Env.set,cond_true,cond_false,String.reduceBEq,YS,YT,YU,YV,YW,YX,YY,YZ,Ya,Yb,Yc,Yd,Ye,Yf] | simp only [Yg,Yh,true_and,Yi,Yj,Yk,Yl,Ym,Yn,Yo,Yp,Yq,Yr,Yt,Yu,Yv,Yw,Yx,Yy,Yz,XA,XB,XC,XD,XE,beq_self_eq_true,reduceIte,reduceCtorEq,↓reduceIte,XF,XG,XH, e1, e2, e3, e4, e5, show setV (.ref m) (.int (i : Int)) .none H7 = some H8 from s8, show setV (.ref m) (.int ((i + 1 + d : Nat) : Int)) .none H8 = some H9 from s9, s10]))
                refine h1 _ _ ⟨?_, by (repeat (first | dsimp only [XI, XJ] | dsimp only [ZA,ZB,ZC,ZD,ZE,ZF,ZG,ZH,ZI,ZJ,ZK,ZL,ZM,ZN,ZO,ZP,ZQ,ZR,ZS,ZT,ZU,ZV,ZW,ZX,ZY,ZZ,Za,Zb,Zc,Zd,Ze,Zf,Zg,Zh,Zi,Zj,Zk,Zl,Zm,Zn,Zo,Zp,Zq,Zr,Zs,Zt,Zu,Zv,Zw,Zx,Zy,Zz,YA,YB,YC,YD,YE,YF,YG,YH,YI,YJ,YK,YL,YM,YN,YO,YP,YQ,YR,Env.set,cond_true,cond_false,String.reduceBEq,YS,YT,YU,YV,YW,YX,YY,YZ,Ya,Yb,Yc,Yd,Ye,Yf] | simp only [Yg,Yh,true_and,Yi,Yj,Yk,Yl,Ym,Yn,Yo,Yp,Yq,Yr,Yt,Yu,Yv,Yw,Yx,Yy,Yz,XA,XB,XC,XD,XE,beq_self_eq_true,reduceIte,reduceCtorEq,↓reduceIte,XF,XG,XH, e1])), by (repeat (first | dsimp only [XI, XJ] | dsimp only [ZA,ZB,ZC,ZD,ZE,ZF,ZG,ZH,ZI,ZJ,ZK,ZL,ZM,ZN,ZO,ZP,ZQ,ZR,ZS,ZT,ZU,ZV,ZW,ZX,ZY,ZZ,Za,Zb,Zc,Zd,Ze,Zf,Zg,Zh,Zi,Zj,Zk,Zl,Zm,Zn,Zo,Zp,Zq,Zr,Zs,Zt,Zu,Zv,Zw,Zx,Zy,Zz,YA,YB,YC,YD,YE,YF,YG,YH,YI,YJ,YK,YL,YM,YN,YO,YP,YQ,YR,Env.set,cond_true,cond_false,String.reduceBEq,YS,YT,YU,YV,YW,YX,YY,YZ,Ya,Yb,Yc,Yd,Ye,Yf] | simp only [Yg,Yh,true_and,Yi,Yj,Yk,Yl,Ym,Yn,Yo,Yp,Yq,Yr,Yt,Yu,Yv,Yw,Yx,Yy,Yz,XA,XB,XC,XD,XE,beq_self_eq_true,reduceIte,reduceCtorEq,↓reduceIte,XF,XG,XH, e2])), by (repeat (first | dsimp only [XI, XJ] | dsimp only [ZA,ZB,ZC,ZD,ZE,ZF,ZG,ZH,ZI,ZJ,ZK,ZL,ZM,ZN,ZO,ZP,ZQ,ZR,ZS,ZT,ZU,ZV,ZW,ZX,ZY,ZZ,Za,Zb,Zc,Zd,Ze,Zf,Zg,Zh,Zi,Zj,Zk,Zl,Zm,Zn,Zo,Zp,Zq,Zr,Zs,Zt,Zu,Zv,Zw,Zx,Zy,Zz,YA,YB,YC,YD,YE,YF,YG,YH,YI,YJ,YK,YL,YM,YN,YO,YP,YQ,YR,Env.set,cond_true,cond_false,String.reduceBEq,YS,YT,YU,YV,YW,YX,YY,YZ,Ya,Yb,Yc,Yd,Ye,Yf] | simp only [Yg,Yh,true_and,Yi,Yj,Yk,Yl,Ym,Yn,Yo,Yp,Yq,Yr,Yt,Yu,Yv,Yw,Yx,Yy,Yz,XA,XB,XC,XD,XE,beq_self_eq_true,reduceIte,reduceCtorEq,↓reduceIte,XF,XG,XH, e3])), by (repeat (first | dsimp only [XI, XJ] | dsimp only [ZA,ZB,ZC,ZD,ZE,ZF,ZG,ZH,ZI,ZJ,ZK,ZL,ZM,ZN,ZO,ZP,ZQ,ZR,ZS,ZT,ZU,ZV,ZW,ZX,ZY,ZZ,Za,Zb,Zc,Zd,Ze,Zf,Zg,Zh,Zi,Zj,Zk,Zl,Zm,Zn,Zo,Zp,Zq,Zr,Zs,Zt,Zu,Zv,Zw,Zx,Zy,Zz,YA,YB,YC,YD,YE,YF,YG,YH,YI,YJ,YK,YL,YM,YN,YO,YP,YQ,YR,Env.set,cond_true,cond_false,String.reduceBEq,YS,YT,YU,YV,YW,YX,YY,YZ,Ya,Yb,Yc,Yd,Ye,Yf] | simp only [Yg,Yh,true_and,Yi,Yj,Yk,Yl,Ym,Yn,Yo,Yp,Yq,Yr,Yt,Yu,Yv,Yw,Yx,Yy,Yz,XA,XB,XC,XD,XE,beq_self_eq_true,reduceIte,reduceCtorEq,↓reduceIte,XF,XG,XH, e4])), by (repeat (first | dsimp only [XI, XJ] | dsimp only [ZA,ZB,ZC,ZD,ZE,ZF,ZG,ZH,ZI,ZJ,ZK,ZL,ZM,ZN,ZO,ZP,ZQ,ZR,ZS,ZT,ZU,ZV,ZW,ZX,ZY,ZZ,Za,Zb,Zc,Zd,Ze,Zf,Zg,Zh,Zi,Zj,Zk,Zl,Zm,Zn,Zo,Zp,Zq,Zr,Zs,Zt,Zu,Zv,Zw,Zx,Zy,Zz,YA,YB,YC,YD,YE,YF,YG,YH,YI,YJ,YK,YL,YM,YN,YO,YP,YQ,YR,Env.set,cond_true,cond_false,String.reduceBEq,YS,YT,YU,YV,YW,YX,YY,YZ,Ya,Yb,Yc,Yd,Ye,Yf] | simp only [Yg,Yh,true_and,Yi,Yj,Yk,Yl,Ym,Yn,Yo,Yp,Yq,Yr,Yt,Yu,Yv,Yw,Yx,Yy,Yz,XA,XB,XC,XD,XE,beq_self_eq_true,reduceIte,reduceCtorEq,↓reduceIte,XF,XG,XH, e5]))⟩
                rw [step, hb2, hbo]
                simpa [List.flatMap_append, pairM] using ss10
        · obtain ⟨ss3, e1, e2, e3, e4, e5⟩ := hI
          rw [rng2_len] at ss3
          obtain ⟨H4, s4, ss4⟩ := ss3.setB (i := i) (by simp; omega) false
          rw [set_back hBi] at ss4
          (repeat (first | dsimp only [XI, XJ] | dsimp only [ZA,ZB,ZC,ZD,ZE,ZF,ZG,ZH,ZI,ZJ,ZK,ZL,ZM,ZN,ZO,ZP,ZQ,ZR,ZS,ZT,ZU,ZV,ZW,ZX,ZY,ZZ,Za,Zb,Zc,Zd,Ze,Zf,Zg,Zh,Zi,Zj,Zk,Zl,Zm,Zn,Zo,Zp,Zq,Zr,Zs,Zt,Zu,Zv,Zw,Zx,Zy,Zz,YA,YB,YC,YD,YE,YF,YG,YH,YI,YJ,YK,YL,YM,YN,YO,YP,YQ,YR,Env.set,cond_true,cond_false,String.reduceBEq,YS,YT,YU,YV,YW,YX,YY,YZ,Ya,Yb,Yc,Yd,Ye,Yf] | simp only [Yg,Yh,true_and,Yi,Yj,Yk,Yl,Ym,Yn,Yo,Yp,Yq,Yr,Yt,Yu,Yv,Yw,Yx,Yy,Yz,XA,XB,XC,XD,XE,beq_self_eq_true,reduceIte,reduceCtorEq,↓reduceIte,XF,XG,XH, e2, e4, s4]))
          refine h _ ?_
          rw [twos, ← List.append_assoc]; exact ss4
    · have hi' : i = W.length := by simp at q; omega
      subst hi'
      rw [lf_end] at hl
      rw [← hl] at h hr
      (repeat (first | dsimp only [XI, XJ] | dsimp only [ZA,ZB,ZC,ZD,ZE,ZF,ZG,ZH,ZI,ZJ,ZK,ZL,ZM,ZN,ZO,ZP,ZQ,ZR,ZS,ZT,ZU,ZV,ZW,ZX,ZY,ZZ,Za,Zb,Zc,Zd,Ze,Zf,Zg,Zh,Zi,Zj,Zk,Zl,Zm,Zn,Zo,Zp,Zq,Zr,Zs,Zt,Zu,Zv,Zw,Zx,Zy,Zz,YA,YB,YC,YD,YE,YF,YG,YH,YI,YJ,YK,YL,YM,YN,YO,YP,YQ,YR,Env.set,cond_true,cond_false,String.reduceBEq,YS,YT,YU,YV,YW,YX,YY,YZ,Ya,Yb,Yc,Yd,Ye,Yf] | simp only [Yg,Yh,true_and,Yi,Yj,Yk,Yl,Ym,Yn,Yo,Yp,Yq,Yr,Yt,Yu,Yv,Yw,Yx,Yy,Yz,XA,XB,XC,XD,XE,beq_self_eq_true,reduceIte,reduceCtorEq,↓reduceIte,XF,XG,XH]))
      refine hn _ _ ?_
      obtain ⟨H2, p1, p2⟩ := ss.push (by unfold room cnt at hr; omega)
      obtain ⟨fs, f1, _⟩ := ss.hf
      (repeat (first | dsimp only [XI, XJ] | dsimp only [ZA,ZB,ZC,ZD,ZE,ZF,ZG,ZH,ZI,ZJ,ZK,ZL,ZM,ZN,ZO,ZP,ZQ,ZR,ZS,ZT,ZU,ZV,ZW,ZX,ZY,ZZ,Za,Zb,Zc,Zd,Ze,Zf,Zg,Zh,Zi,Zj,Zk,Zl,Zm,Zn,Zo,Zp,Zq,Zr,Zs,Zt,Zu,Zv,Zw,Zx,Zy,Zz,YA,YB,YC,YD,YE,YF,YG,YH,YI,YJ,YK,YL,YM,YN,YO,YP,YQ,YR,Env.set,cond_true,cond_false,String.reduceBEq,YS,YT,YU,YV,YW,YX,YY,YZ,Ya,Yb,Yc,Yd,Ye,Yf] | simp only [Yg,Yh,true_and,Yi,Yj,Yk,Yl,Ym,Yn,Yo,Yp,Yq,Yr,Yt,Yu,Yv,Yw,Yx,Yy,Yz,XA,XB,XC,XD,XE,beq_self_eq_true,reduceIte,reduceCtorEq,↓reduceIte,XF,XG,XH, e1, e2, e3, e4, e5, hw'.len, seqOf_list ss.hm, (recvL f1).1, p1]))
      exact h _ p2
end
end Mine

namespace Mine
open PySem

noncomputable def twosW (W : List (List Int)) : List Mt := twos (both W) W.length (List.range W.length) (List.replicate W.length none)
noncomputable def calmW (W : List (List Int)) : List Mt := (twosW W).filter fun X => (((restP W X).length : Int) == 0)

noncomputable def fct : Nat → Nat
  | 0 => 1
  | n + 1 => (n + 1) * fct n
theorem fct_pos : ∀ n, 0 < fct n
  | 0 => Nat.one_pos
  | n + 1 => Nat.mul_pos (Nat.succ_pos _) (fct_pos n)
theorem fct_mono {m n : Nat} (h : m ≤ n) : fct m ≤ fct n := by
  induction h with
  | refl => exact Nat.le_refl _
  | step _ ih => exact Nat.le_trans ih (by rw [fct]; exact Nat.le_mul_of_pos_left _ (Nat.succ_pos _))
theorem sum_le_mul {α : Type} {f : α → Nat} {c : Nat} : ∀ {l : List α}, (∀ x ∈ l, f x ≤ c) → (l.map f).sum ≤ l.length * c
  | [], _ => by simp
  | a :: l, h => by
    have h1 := h a (.head _)
    have h2 := sum_le_mul (l := l) fun x hx => h x (.tail _ hx)
    simp only [List.map_cons, List.sum_cons, List.length_cons, Nat.succ_mul]; omega
theorem cnt_le (bo : Nat → Nat → Bool) : ∀ (k : Nat) (l : List Nat), cnt bo k l ≤ fct l.length
  | 0, l => fct_pos _
  | _ + 1, [] => Nat.le_refl _
  | k + 1, g :: r => by
    rw [cnt, List.length_cons, fct, Nat.succ_mul]
    have h1 := cnt_le bo k r
    have h2 : ((r.filter (bo g)).map fun o => cnt bo k (r.filter (· != o))).sum ≤ (r.filter (bo g)).length * fct r.length :=
      sum_le_mul fun o _ => Nat.le_trans (cnt_le bo k _) (fct_mono (List.length_filter_le _ _))
    have h3 : (r.filter (bo g)).length * fct r.length ≤ r.length * fct r.length := Nat.mul_le_mul_right _ (List.length_filter_le _ _)
    omega

theorem lf_all (n : Nat) : lf (List.replicate n false) 0 n = List.range n := by
  unfold lf
  rw [List.range_eq_range', Nat.sub_zero, List.filter_eq_self]
  intro a ha
  have : a < n := by have := List.mem_range'.mp ha; omega
  simp [List.getD_eq_getElem?_getD, this]

theorem twosW_ok {W : List (List Int)} {X : Mt} (h : X ∈ twosW W) : MOk W X := by
  refine twos_all (both W) (MOk W) _ _ _ List.nodup_range ⟨by simp, fun i j q => ?_⟩ (fun x hx => ⟨by simpa using hx, ?_⟩) (fun M g o mok hg ho hne eg eo hb => ?_) X h
  · exfalso
    by_cases e : i < W.length <;> simp [List.getD_eq_getElem?_getD, e] at q
  · have : x < W.length := by simpa using hx
    simp [List.getD_eq_getElem?_getD, this]
  · have hl := mok.len
    exact mok.pair (by omega) (by omega) (Ne.symm hne) eg eo hb
theorem twosW_len {W : List (List Int)} : (twosW W).length = cnt (both W) W.length (List.range W.length) := twos_len _ _ _ _
theorem twosW_few {W : List (List Int)} (ok : WOk W) : (twosW W).length ≤ 720 := by
  rw [twosW_len]
  refine Nat.le_trans (cnt_le _ _ _) ?_
  rw [List.length_range]
  exact Nat.le_trans (fct_mono ok.le) (by decide)

/-- a list of mates at r, all it holds at c or later -/
noncomputable def ML (c : Nat) (H : Hp) (r : Nat) (Xs : List Mt) : Prop := c ≤ r ∧ ∃ fs, H[r]? = some (.list fs) ∧ All2 (fun v X => ∃ a, v = .ref a ∧ c ≤ a ∧ a < H.length ∧ a ≠ r ∧ MT H a X) fs Xs
theorem ML.pre {c : Nat} {H H' : Hp} {r : Nat} {Xs : List Mt} (h : ML c H r Xs) (hp : H <+: H') : ML c H' r Xs :=
  let ⟨h0, fs, h1, h2⟩ := h; ⟨h0, fs, pre_get hp h1, h2.mono fun _ _ ⟨a, e, q1, q2, q3, q4⟩ => ⟨a, e, q1, Nat.lt_of_lt_of_le q2 hp.length_le, q3, q4.pre hp⟩⟩
theorem ML.len {c : Nat} {H : Hp} {r : Nat} {Xs : List Mt} (h : ML c H r Xs) : lenV (.ref r) H = some (Xs.length : Int) := by
  obtain ⟨_, fs, h1, h2⟩ := h
  unfold lenV; simp [seqOf_list h1, h2.length]
theorem ML.isList {c : Nat} {H : Hp} {r : Nat} {Xs : List Mt} (h : ML c H r Xs) : isInst (.ref r) ["list"] H = some true := by
  obtain ⟨_, fs, h1, h2⟩ := h; simp [isInst, isObj, typesOf, h1]
theorem ML.item {c : Nat} {H : Hp} {r : Nat} {Xs : List Mt} (h : ML c H r Xs) {i : Nat} {X : Mt} (hi : Xs[i]? = some X) : ∃ a, itemV (.ref r) (.int (i : Int)) H = some (.ref a) ∧ MT H a X := by
  obtain ⟨_, fs, h1, h2⟩ := h
  obtain ⟨v, hv, a, rfl, _, _, _, q⟩ := h2.get' hi
  exact ⟨a, item_seq (seqOf_list h1) hv, q⟩

section
variable {P : Prog} {b : Bool} {n : Nat} {H : Hp} {Q : Post} {X : XP}

theorem s_all_twos (hP : P.fn "all_twos" = some f_all_twos) (hP1 : P.fn "need_wishes" = some f_need_wishes) (hP4 : P.fn "is_row" = some f_is_row) (hP5 : P.fn "is_guest" = some f_is_guest) (hP6 : P.fn "both_wish" = some f_both_wish) (hP7 : P.fn "settled" = some f_settled) (hG : P.glob "MOST_GUESTS" = some (.int 6))
    {w : Nat} {W : List (List Int)} (hw : WH H w W) (ok : WOk W) (h : ∀ H' r, H <+: H' → ML H.length H' r (twosW W) → Q (.ref r) H') : callN P b (n + 9) "all_twos" [.ref w] H Q X := by
  have l6 := ok.le
  have hl : W.length ≤ lim := Nat.le_trans ok.le (by decide)
  have ef : n + 8 = (n + (6 - W.length)) + (W.length + 2) := by omega
  (refine callN_in hP rfl ?_; unfold f_all_twos)
  (repeat (first | dsimp only [XI, XJ] | dsimp only [ZA,ZB,ZC,ZD,ZE,ZF,ZG,ZH,ZI,ZJ,ZK,ZL,ZM,ZN,ZO,ZP,ZQ,ZR,ZS,ZT,ZU,ZV,ZW,ZX,ZY,ZZ,Za,Zb,Zc,Zd,Ze,Zf,Zg,Zh,Zi,Zj,Zk,Zl,Zm,Zn,Zo,Zp,Zq,Zr,Zs,Zt,Zu,Zv,Zw,Zx,Zy,Zz,YA,YB,YC,YD,YE,YF,YG,YH,YI,YJ,YK,YL,YM,YN,YO,YP,YQ,YR,Env.set,cond_true,cond_false,String.reduceBEq,YS,YT,YU,YV,YW,YX,YY,YZ,Ya,Yb,Yc,Yd,Ye,Yf] | simp only [Yg,Yh,true_and,Yi,Yj,Yk,Yl,Ym,Yn,Yo,Yp,Yq,Yr,Yt,Yu,Yv,Yw,Yx,Yy,Yz,XA,XB,XC,XD,XE,beq_self_eq_true,reduceIte,reduceCtorEq,↓reduceIte,XF,XG,XH]))
  refine s_need_wishes (n := n + 5) hP1 hP4 hP5 hG hw ok fun H1 hp1 => ?_
  have hw1 := hw.pre hp1
  have hw2 := hw1.pre (pre_new H1 (.list []))
  (repeat (first | dsimp only [XI, XJ] | dsimp only [ZA,ZB,ZC,ZD,ZE,ZF,ZG,ZH,ZI,ZJ,ZK,ZL,ZM,ZN,ZO,ZP,ZQ,ZR,ZS,ZT,ZU,ZV,ZW,ZX,ZY,ZZ,Za,Zb,Zc,Zd,Ze,Zf,Zg,Zh,Zi,Zj,Zk,Zl,Zm,Zn,Zo,Zp,Zq,Zr,Zs,Zt,Zu,Zv,Zw,Zx,Zy,Zz,YA,YB,YC,YD,YE,YF,YG,YH,YI,YJ,YK,YL,YM,YN,YO,YP,YQ,YR,Env.set,cond_true,cond_false,String.reduceBEq,YS,YT,YU,YV,YW,YX,YY,YZ,Ya,Yb,Yc,Yd,Ye,Yf] | simp only [Yg,Yh,true_and,Yi,Yj,Yk,Yl,Ym,Yn,Yo,Yp,Yq,Yr,Yt,Yu,Yv,Yw,Yx,Yy,Yz,XA,XB,XC,XD,XE,beq_self_eq_true,reduceIte,reduceCtorEq,↓reduceIte,XF,XG,XH, hw2.len]))
  generalize hH2 : H1 ++ [O.list []] = H2 at hw2 ⊢
  have g2 : H2[H1.length]? = some (.list []) := by rw [← hH2]; exact get_new _ _
  have p2 : H1 <+: H2 := by rw [← hH2]; exact pre_new _ _
  have m1 : mulV (.ref H2.length) (.int (W.length : Int)) (H2 ++ [O.list [.none]]) = some (.ref (H2.length + 1), (H2 ++ [O.list [.none]]) ++ [.list (List.replicate W.length .none)]) := by
    rw [mul_at (get_new _ _) hl]; simp
  (repeat (first | dsimp only [XI, XJ] | dsimp only [ZA,ZB,ZC,ZD,ZE,ZF,ZG,ZH,ZI,ZJ,ZK,ZL,ZM,ZN,ZO,ZP,ZQ,ZR,ZS,ZT,ZU,ZV,ZW,ZX,ZY,ZZ,Za,Zb,Zc,Zd,Ze,Zf,Zg,Zh,Zi,Zj,Zk,Zl,Zm,Zn,Zo,Zp,Zq,Zr,Zs,Zt,Zu,Zv,Zw,Zx,Zy,Zz,YA,YB,YC,YD,YE,YF,YG,YH,YI,YJ,YK,YL,YM,YN,YO,YP,YQ,YR,Env.set,cond_true,cond_false,String.reduceBEq,YS,YT,YU,YV,YW,YX,YY,YZ,Ya,Yb,Yc,Yd,Ye,Yf] | simp only [Yg,Yh,true_and,Yi,Yj,Yk,Yl,Ym,Yn,Yo,Yp,Yq,Yr,Yt,Yu,Yv,Yw,Yx,Yy,Yz,XA,XB,XC,XD,XE,beq_self_eq_true,reduceIte,reduceCtorEq,↓reduceIte,XF,XG,XH, m1]))
  generalize hH3 : H2 ++ [O.list [V.none]] ++ [O.list (List.replicate W.length V.none)] = H3
  have l3 : H3.length = H2.length + 2 := by rw [← hH3]; simp
  have p3 : H2 <+: H3 := by rw [← hH3]; exact (pre_new _ _).trans (pre_new _ _)
  have g3 : H3[H2.length + 1]? = some (.list (List.replicate W.length .none)) := by rw [← hH3]; simp
  have m2 : mulV (.ref H3.length) (.int (W.length : Int)) (H3 ++ [O.list [.bool false]]) = some (.ref (H3.length + 1), (H3 ++ [O.list [.bool false]]) ++ [.list (List.replicate W.length (.bool false))]) := by
    rw [mul_at (get_new _ _) hl]; simp
  (repeat (first | dsimp only [XI, XJ] | dsimp only [ZA,ZB,ZC,ZD,ZE,ZF,ZG,ZH,ZI,ZJ,ZK,ZL,ZM,ZN,ZO,ZP,ZQ,ZR,ZS,ZT,ZU,ZV,ZW,ZX,ZY,ZZ,Za,Zb,Zc,Zd,Ze,Zf,Zg,Zh,Zi,Zj,Zk,Zl,Zm,Zn,Zo,Zp,Zq,Zr,Zs,Zt,Zu,Zv,Zw,Zx,Zy,Zz,YA,YB,YC,YD,YE,YF,YG,YH,YI,YJ,YK,YL,YM,YN,YO,YP,YQ,YR,Env.set,cond_true,cond_false,String.reduceBEq,YS,YT,YU,YV,YW,YX,YY,YZ,Ya,Yb,Yc,Yd,Ye,Yf] | simp only [Yg,Yh,true_and,Yi,Yj,Yk,Yl,Ym,Yn,Yo,Yp,Yq,Yr,Yt,Yu,Yv,Yw,Yx,Yy,Yz,XA,XB,XC,XD,XE,beq_self_eq_true,reduceIte,reduceCtorEq,↓reduceIte,XF,XG,XH, m2]))
  generalize hH4 : H3 ++ [O.list [V.bool false]] ++ [O.list (List.replicate W.length (V.bool false))] = H4
  have p4 : H3 <+: H4 := by rw [← hH4]; exact (pre_new _ _).trans (pre_new _ _)
  have g4 : H4[H3.length + 1]? = some (.list (List.replicate W.length (.bool false))) := by rw [← hH4]; simp
  have l2 : H2.length = H1.length + 1 := by rw [← hH2]; simp
  have l1 := hp1.length_le
  have ss : SS H1 H4 (H2.length + 1) (H3.length + 1) H1.length (List.replicate W.length none) (List.replicate W.length false) [] := by
    refine ⟨p2.trans (p3.trans p4), by omega, by omega, Nat.le_refl _, by omega, by omega, by omega, ?_, ?_, [], pre_get (p3.trans p4) g2, .nil⟩
    · unfold MT; rw [pre_get p4 g3]; simp [ov]
    · rw [g4]; simp
  rw [ef]
  have ela := lf_all W.length
  refine s_settled (g := 0) hP7 hP6 hw1 ok W.length ss (by simp) (by simp) (Nat.zero_le _) (by rw [ela]; simp) (fun i hi => ?_) ?_ fun H5 ss5 => ?_
  · rw [ela] at hi
    have : i < W.length := by simpa using hi
    simp [List.getD_eq_getElem?_getD, this]
  · rw [ela]
    have := twosW_few ok
    rw [twosW_len] at this
    unfold room lim; simp; omega
  · rw [ela, List.nil_append] at ss5
    (repeat (first | dsimp only [XI, XJ] | dsimp only [ZA,ZB,ZC,ZD,ZE,ZF,ZG,ZH,ZI,ZJ,ZK,ZL,ZM,ZN,ZO,ZP,ZQ,ZR,ZS,ZT,ZU,ZV,ZW,ZX,ZY,ZZ,Za,Zb,Zc,Zd,Ze,Zf,Zg,Zh,Zi,Zj,Zk,Zl,Zm,Zn,Zo,Zp,Zq,Zr,Zs,Zt,Zu,Zv,Zw,Zx,Zy,Zz,YA,YB,YC,YD,YE,YF,YG,YH,YI,YJ,YK,YL,YM,YN,YO,YP,YQ,YR,Env.set,cond_true,cond_false,String.reduceBEq,YS,YT,YU,YV,YW,YX,YY,YZ,Ya,Yb,Yc,Yd,Ye,Yf] | simp only [Yg,Yh,true_and,Yi,Yj,Yk,Yl,Ym,Yn,Yo,Yp,Yq,Yr,Yt,Yu,Yv,Yw,Yx,Yy,Yz,XA,XB,XC,XD,XE,beq_self_eq_true,reduceIte,reduceCtorEq,↓reduceIte,XF,XG,XH]))
    obtain ⟨fs, f1, f2⟩ := ss5.hf
    refine h _ _ (hp1.trans ss5.pre) ⟨l1, fs, f1, f2.mono fun v X ⟨r, e, q0, q1, q2, q3, q4⟩ => ⟨r, e, by omega, (List.getElem?_eq_some_iff.mp q4).1, q3, q4⟩⟩

theorem s_found_restless (hP3 : P.fn "found_restless" = some f_found_restless) (hP6 : P.fn "both_wish" = some f_both_wish) (hP7 : P.fn "sooner" = some f_sooner) {aw am : Nat} {W : List (List Int)} {M : List (Option Nat)} (hw : WH H aw W) (ok : WOk W) (hm : MT H am M) (mok : MOk W M)
    (h : ∀ H' r, H <+: H' → H.length ≤ r → PR H' r (restP W M) → Q (.ref r) H') : callN P b (n + 3) "found_restless" [.ref aw, .ref am] H Q X :=
  s_restFn (w := "wishes") (m := "mates") (p := "pairs") (o := "one") (t := "other") (f := "sooner") hP3 (fun hw _ hg _ _ h1 h2 h => s_sooner hP7 hP6 hw hg h1 h2 h) (by decide) hw ok hm mok h

theorem s_all_calm (hP : P.fn "all_calm" = some f_all_calm) (hP0 : P.fn "all_twos" = some f_all_twos) (hP1 : P.fn "need_wishes" = some f_need_wishes) (hP4 : P.fn "is_row" = some f_is_row) (hP5 : P.fn "is_guest" = some f_is_guest) (hP6 : P.fn "both_wish" = some f_both_wish) (hP7 : P.fn "settled" = some f_settled) (hG : P.glob "MOST_GUESTS" = some (.int 6))
    (hP3 : P.fn "found_restless" = some f_found_restless) (hP8 : P.fn "sooner" = some f_sooner)
    {w : Nat} {W : List (List Int)} (hw : WH H w W) (ok : WOk W) (h : ∀ H' r, H <+: H' → ML H.length H' r (calmW W) → Q (.ref r) H') : callN P b (n + 10) "all_calm" [.ref w] H Q X := by
  (refine callN_in hP rfl ?_; unfold f_all_calm)
  (repeat (first | dsimp only [XI, XJ] | dsimp only [ZA,ZB,ZC,ZD,ZE,ZF,ZG,ZH,ZI,ZJ,ZK,ZL,ZM,ZN,ZO,ZP,ZQ,ZR,ZS,ZT,ZU,ZV,ZW,ZX,ZY,ZZ,Za,Zb,Zc,Zd,Ze,Zf,Zg,Zh,Zi,Zj,Zk,Zl,Zm,Zn,Zo,Zp,Zq,Zr,Zs,Zt,Zu,Zv,Zw,Zx,Zy,Zz,YA,YB,YC,YD,YE,YF,YG,YH,YI,YJ,YK,YL,YM,YN,YO,YP,YQ,YR,Env.set,cond_true,cond_false,String.reduceBEq,YS,YT,YU,YV,YW,YX,YY,YZ,Ya,Yb,Yc,Yd,Ye,Yf] | simp only [Yg,Yh,true_and,Yi,Yj,Yk,Yl,Ym,Yn,Yo,Yp,Yq,Yr,Yt,Yu,Yv,Yw,Yx,Yy,Yz,XA,XB,XC,XD,XE,beq_self_eq_true,reduceIte,reduceCtorEq,↓reduceIte,XF,XG,XH]))
  refine s_all_twos hP0 hP1 hP4 hP5 hP6 hP7 hG hw ok fun H1 r hp1 hml => ?_
  obtain ⟨hc, fs, f1, f2⟩ := hml
  (repeat (first | dsimp only [XI, XJ] | dsimp only [ZA,ZB,ZC,ZD,ZE,ZF,ZG,ZH,ZI,ZJ,ZK,ZL,ZM,ZN,ZO,ZP,ZQ,ZR,ZS,ZT,ZU,ZV,ZW,ZX,ZY,ZZ,Za,Zb,Zc,Zd,Ze,Zf,Zg,Zh,Zi,Zj,Zk,Zl,Zm,Zn,Zo,Zp,Zq,Zr,Zs,Zt,Zu,Zv,Zw,Zx,Zy,Zz,YA,YB,YC,YD,YE,YF,YG,YH,YI,YJ,YK,YL,YM,YN,YO,YP,YQ,YR,Env.set,cond_true,cond_false,String.reduceBEq,YS,YT,YU,YV,YW,YX,YY,YZ,Ya,Yb,Yc,Yd,Ye,Yf] | simp only [Yg,Yh,true_and,Yi,Yj,Yk,Yl,Ym,Yn,Yo,Yp,Yq,Yr,Yt,Yu,Yv,Yw,Yx,Yy,Yz,XA,XB,XC,XD,XE,beq_self_eq_true,reduceIte,reduceCtorEq,↓reduceIte,XF,XG,XH, seqOf_list f1]))
  have hkeep : ∀ H' : Hp, H1 <+: H' → H'[r]? = H1[r]? := fun H' hp => by rw [f1]; exact pre_get hp f1
  have flen := f2.length
  refine wLoop_idx (fun i acc H' => H1 <+: H' ∧ All2 (fun v X => ∃ a, v = V.ref a ∧ H.length ≤ a ∧ a < H'.length ∧ MT H' a X) acc (((twosW W).take i).filter fun X => (((restP W X).length : Int) == 0))) ⟨List.prefix_refl _, by simpa using All2.nil⟩ (fun i v acc H' hv hI => ⟨hkeep _ hI.1, fun k' k1 k2 => ?_⟩) fun acc H' hI => ⟨hkeep _ hI.1, ?_⟩
  · obtain ⟨hp, hA⟩ := hI
    obtain ⟨M, hM, a, rfl, a1, a2, a3, a4⟩ := f2.get hv
    have mok := twosW_ok (List.mem_of_getElem? hM)
    have htk : (twosW W).take (i + 1) = (twosW W).take i ++ [M] := by
      obtain ⟨hi, e⟩ := List.getElem?_eq_some_iff.mp hM
      rw [List.take_succ_eq_append_getElem hi, e]
    (repeat (first | dsimp only [XI, XJ] | dsimp only [ZA,ZB,ZC,ZD,ZE,ZF,ZG,ZH,ZI,ZJ,ZK,ZL,ZM,ZN,ZO,ZP,ZQ,ZR,ZS,ZT,ZU,ZV,ZW,ZX,ZY,ZZ,Za,Zb,Zc,Zd,Ze,Zf,Zg,Zh,Zi,Zj,Zk,Zl,Zm,Zn,Zo,Zp,Zq,Zr,Zs,Zt,Zu,Zv,Zw,Zx,Zy,Zz,YA,YB,YC,YD,YE,YF,YG,YH,YI,YJ,YK,YL,YM,YN,YO,YP,YQ,YR,Env.set,cond_true,cond_false,String.reduceBEq,YS,YT,YU,YV,YW,YX,YY,YZ,Ya,Yb,Yc,Yd,Ye,Yf] | simp only [Yg,Yh,true_and,Yi,Yj,Yk,Yl,Ym,Yn,Yo,Yp,Yq,Yr,Yt,Yu,Yv,Yw,Yx,Yy,Yz,XA,XB,XC,XD,XE,beq_self_eq_true,reduceIte,reduceCtorEq,↓reduceIte,XF,XG,XH]))
    refine s_found_restless (n := n + 6) hP3 hP6 hP8 (hw.pre (hp1.trans hp)) ok (a4.pre hp) mok fun H2 p hp2 _ hpr => ?_
    (repeat (first | dsimp only [XI, XJ] | dsimp only [ZA,ZB,ZC,ZD,ZE,ZF,ZG,ZH,ZI,ZJ,ZK,ZL,ZM,ZN,ZO,ZP,ZQ,ZR,ZS,ZT,ZU,ZV,ZW,ZX,ZY,ZZ,Za,Zb,Zc,Zd,Ze,Zf,Zg,Zh,Zi,Zj,Zk,Zl,Zm,Zn,Zo,Zp,Zq,Zr,Zs,Zt,Zu,Zv,Zw,Zx,Zy,Zz,YA,YB,YC,YD,YE,YF,YG,YH,YI,YJ,YK,YL,YM,YN,YO,YP,YQ,YR,Env.set,cond_true,cond_false,String.reduceBEq,YS,YT,YU,YV,YW,YX,YY,YZ,Ya,Yb,Yc,Yd,Ye,Yf] | simp only [Yg,Yh,true_and,Yi,Yj,Yk,Yl,Ym,Yn,Yo,Yp,Yq,Yr,Yt,Yu,Yv,Yw,Yx,Yy,Yz,XA,XB,XC,XD,XE,beq_self_eq_true,reduceIte,reduceCtorEq,↓reduceIte,XF,XG,XH, hpr.len]))
    have grow : ∀ {acc Ys}, All2 (fun v X => ∃ a, v = V.ref a ∧ H.length ≤ a ∧ a < H'.length ∧ MT H' a X) acc Ys → All2 (fun v X => ∃ a, v = V.ref a ∧ H.length ≤ a ∧ a < H2.length ∧ MT H2 a X) acc Ys := fun q => q.mono fun _ _ ⟨a, e, q1, q2, q3⟩ => ⟨a, e, q1, Nat.lt_of_lt_of_le q2 hp2.length_le, q3.pre hp2⟩
    refine ⟨fun q => ?_, fun q => ?_⟩
    · refine k1 _ _ ⟨hp.trans hp2, ?_⟩
      rw [htk, List.filter_append]
      refine (grow hA).append ?_
      simp only [List.filter, q]
      exact .cons ⟨a, rfl, a1, Nat.lt_of_lt_of_le a2 (hp.trans hp2).length_le, a4.pre (hp.trans hp2)⟩ .nil
    · refine k2 _ ⟨hp.trans hp2, ?_⟩
      rw [htk, List.filter_append]
      simp only [List.filter, q, List.append_nil]
      exact grow hA
  · obtain ⟨hp, hA⟩ := hI
    rw [flen, List.take_length] at hA
    refine h _ _ (hp1.trans (hp.trans (pre_new _ _))) ⟨(hp1.trans hp).length_le, acc, get_new _ _, hA.mono fun _ _ ⟨a, e, q1, q2, q3⟩ => ⟨a, e, q1, ?_, Nat.ne_of_lt q2, q3.pre (pre_new _ _)⟩⟩
    simp; omega

theorem s_law_mates (hP : P.fn "_law_mates" = some f__law_mates) (hP1 : P.fn "_law_suits" = some f__law_suits) (hP2 : P.fn "_law_whole" = some f__law_whole) {w a : Nat} {W : List (List Int)} {M : Mt} (hw : WH H w W) (ok : WOk W) (hm : MT H a M) (mok : MOk W M)
    (h : Q (.bool true) H) : callN P b (n + 2) "_law_mates" [.ref w, .ref a] H Q X := by
  have hlm : M.length ≤ lim := by rw [mok.len]; exact Nat.le_trans ok.le (by decide)
  have eb : ((M.length : Int) == (W.length : Int)) = true := by rw [mok.len]; simp
  have mlen := mok.len
  (refine callN_in hP rfl ?_; unfold f__law_mates)
  (repeat (first | dsimp only [XI, XJ] | dsimp only [ZA,ZB,ZC,ZD,ZE,ZF,ZG,ZH,ZI,ZJ,ZK,ZL,ZM,ZN,ZO,ZP,ZQ,ZR,ZS,ZT,ZU,ZV,ZW,ZX,ZY,ZZ,Za,Zb,Zc,Zd,Ze,Zf,Zg,Zh,Zi,Zj,Zk,Zl,Zm,Zn,Zo,Zp,Zq,Zr,Zs,Zt,Zu,Zv,Zw,Zx,Zy,Zz,YA,YB,YC,YD,YE,YF,YG,YH,YI,YJ,YK,YL,YM,YN,YO,YP,YQ,YR,Env.set,cond_true,cond_false,String.reduceBEq,YS,YT,YU,YV,YW,YX,YY,YZ,Ya,Yb,Yc,Yd,Ye,Yf] | simp only [Yg,Yh,true_and,Yi,Yj,Yk,Yl,Ym,Yn,Yo,Yp,Yq,Yr,Yt,Yu,Yv,Yw,Yx,Yy,Yz,XA,XB,XC,XD,XE,beq_self_eq_true,reduceIte,reduceCtorEq,↓reduceIte,XF,XG,XH, hm.isList, hm.len, hw.len, eb, range_nat hlm]))
  refine wFor_idx (fun i ρ H' => H' = H ∧ ρ "_law_wishes" = some (.ref w) ∧ ρ "_law_mates_here" = some (.ref a)) ⟨rfl, rfl, rfl⟩ (fun i v ρ H' hv hI => ⟨trivial, fun k' h1 h2 => ?_⟩) fun ρ H' hI => ⟨trivial, ?_⟩
  · obtain ⟨hi, rfl⟩ := rng_get hv
    obtain ⟨rfl, e1, e2⟩ := hI
    (repeat (first | dsimp only [XI, XJ] | dsimp only [ZA,ZB,ZC,ZD,ZE,ZF,ZG,ZH,ZI,ZJ,ZK,ZL,ZM,ZN,ZO,ZP,ZQ,ZR,ZS,ZT,ZU,ZV,ZW,ZX,ZY,ZZ,Za,Zb,Zc,Zd,Ze,Zf,Zg,Zh,Zi,Zj,Zk,Zl,Zm,Zn,Zo,Zp,Zq,Zr,Zs,Zt,Zu,Zv,Zw,Zx,Zy,Zz,YA,YB,YC,YD,YE,YF,YG,YH,YI,YJ,YK,YL,YM,YN,YO,YP,YQ,YR,Env.set,cond_true,cond_false,String.reduceBEq,YS,YT,YU,YV,YW,YX,YY,YZ,Ya,Yb,Yc,Yd,Ye,Yf] | simp only [Yg,Yh,true_and,Yi,Yj,Yk,Yl,Ym,Yn,Yo,Yp,Yq,Yr,Yt,Yu,Yv,Yw,Yx,Yy,Yz,XA,XB,XC,XD,XE,beq_self_eq_true,reduceIte,reduceCtorEq,↓reduceIte,XF,XG,XH, e1, e2, hm.item hi]))
    cases hx : M.getD i none with
    | none =>
      (repeat (first | dsimp only [XI, XJ] | dsimp only [ZA,ZB,ZC,ZD,ZE,ZF,ZG,ZH,ZI,ZJ,ZK,ZL,ZM,ZN,ZO,ZP,ZQ,ZR,ZS,ZT,ZU,ZV,ZW,ZX,ZY,ZZ,Za,Zb,Zc,Zd,Ze,Zf,Zg,Zh,Zi,Zj,Zk,Zl,Zm,Zn,Zo,Zp,Zq,Zr,Zs,Zt,Zu,Zv,Zw,Zx,Zy,Zz,YA,YB,YC,YD,YE,YF,YG,YH,YI,YJ,YK,YL,YM,YN,YO,YP,YQ,YR,Env.set,cond_true,cond_false,String.reduceBEq,YS,YT,YU,YV,YW,YX,YY,YZ,Ya,Yb,Yc,Yd,Ye,Yf] | simp only [Yg,Yh,true_and,Yi,Yj,Yk,Yl,Ym,Yn,Yo,Yp,Yq,Yr,Yt,Yu,Yv,Yw,Yx,Yy,Yz,XA,XB,XC,XD,XE,beq_self_eq_true,reduceIte,reduceCtorEq,↓reduceIte,XF,XG,XH, ov]))
      exact h1 _ _ ⟨rfl, by (repeat (first | dsimp only [XI, XJ] | dsimp only [ZA,ZB,ZC,ZD,ZE,ZF,ZG,ZH,ZI,ZJ,ZK,ZL,ZM,ZN,ZO,ZP,ZQ,ZR,ZS,ZT,ZU,ZV,ZW,ZX,ZY,ZZ,Za,Zb,Zc,Zd,Ze,Zf,Zg,Zh,Zi,Zj,Zk,Zl,Zm,Zn,Zo,Zp,Zq,Zr,Zs,Zt,Zu,Zv,Zw,Zx,Zy,Zz,YA,YB,YC,YD,YE,YF,YG,YH,YI,YJ,YK,YL,YM,YN,YO,YP,YQ,YR,Env.set,cond_true,cond_false,String.reduceBEq,YS,YT,YU,YV,YW,YX,YY,YZ,Ya,Yb,Yc,Yd,Ye,Yf] | simp only [Yg,Yh,true_and,Yi,Yj,Yk,Yl,Ym,Yn,Yo,Yp,Yq,Yr,Yt,Yu,Yv,Yw,Yx,Yy,Yz,XA,XB,XC,XD,XE,beq_self_eq_true,reduceIte,reduceCtorEq,↓reduceIte,XF,XG,XH, e1])), by (repeat (first | dsimp only [XI, XJ] | dsimp only [ZA,ZB,ZC,ZD,ZE,ZF,ZG,ZH,ZI,ZJ,ZK,ZL,ZM,ZN,ZO,ZP,ZQ,ZR,ZS,ZT,ZU,ZV,ZW,ZX,ZY,ZZ,Za,Zb,Zc,Zd,Ze,Zf,Zg,Zh,Zi,Zj,Zk,Zl,Zm,Zn,Zo,Zp,Zq,Zr,Zs,Zt,Zu,Zv,Zw,Zx,Zy,Zz,YA,YB,YC,YD,YE,YF,YG,YH,YI,YJ,YK,YL,YM,YN,YO,YP,YQ,YR,Env.set,cond_true,cond_false,String.reduceBEq,YS,YT,YU,YV,YW,YX,YY,YZ,Ya,Yb,Yc,Yd,Ye,Yf] | simp only [Yg,Yh,true_and,Yi,Yj,Yk,Yl,Ym,Yn,Yo,Yp,Yq,Yr,Yt,Yu,Yv,Yw,Yx,Yy,Yz,XA,XB,XC,XD,XE,beq_self_eq_true,reduceIte,reduceCtorEq,↓reduceIte,XF,XG,XH, e2]))⟩
    | some j =>
      obtain ⟨j1, j2, j3⟩ := mok.two i j hx
      have d1 : decide ((j : Int) < 0) = false := decide_eq_false (by omega)
      have d2 : decide ((M.length : Int) ≤ (j : Int)) = false := decide_eq_false (by omega)
      (repeat (first | dsimp only [XI, XJ] | dsimp only [ZA,ZB,ZC,ZD,ZE,ZF,ZG,ZH,ZI,ZJ,ZK,ZL,ZM,ZN,ZO,ZP,ZQ,ZR,ZS,ZT,ZU,ZV,ZW,ZX,ZY,ZZ,Za,Zb,Zc,Zd,Ze,Zf,Zg,Zh,Zi,Zj,Zk,Zl,Zm,Zn,Zo,Zp,Zq,Zr,Zs,Zt,Zu,Zv,Zw,Zx,Zy,Zz,YA,YB,YC,YD,YE,YF,YG,YH,YI,YJ,YK,YL,YM,YN,YO,YP,YQ,YR,Env.set,cond_true,cond_false,String.reduceBEq,YS,YT,YU,YV,YW,YX,YY,YZ,Ya,Yb,Yc,Yd,Ye,Yf] | simp only [Yg,Yh,true_and,Yi,Yj,Yk,Yl,Ym,Yn,Yo,Yp,Yq,Yr,Yt,Yu,Yv,Yw,Yx,Yy,Yz,XA,XB,XC,XD,XE,beq_self_eq_true,reduceIte,reduceCtorEq,↓reduceIte,XF,XG,XH, ov]))
      refine s_whole hP2 ?_
      (repeat (first | dsimp only [XI, XJ] | dsimp only [ZA,ZB,ZC,ZD,ZE,ZF,ZG,ZH,ZI,ZJ,ZK,ZL,ZM,ZN,ZO,ZP,ZQ,ZR,ZS,ZT,ZU,ZV,ZW,ZX,ZY,ZZ,Za,Zb,Zc,Zd,Ze,Zf,Zg,Zh,Zi,Zj,Zk,Zl,Zm,Zn,Zo,Zp,Zq,Zr,Zs,Zt,Zu,Zv,Zw,Zx,Zy,Zz,YA,YB,YC,YD,YE,YF,YG,YH,YI,YJ,YK,YL,YM,YN,YO,YP,YQ,YR,Env.set,cond_true,cond_false,String.reduceBEq,YS,YT,YU,YV,YW,YX,YY,YZ,Ya,Yb,Yc,Yd,Ye,Yf] | simp only [Yg,Yh,true_and,Yi,Yj,Yk,Yl,Ym,Yn,Yo,Yp,Yq,Yr,Yt,Yu,Yv,Yw,Yx,Yy,Yz,XA,XB,XC,XD,XE,beq_self_eq_true,reduceIte,reduceCtorEq,↓reduceIte,XF,XG,XH, d1, d2, e2, hm.len, hm.item (show j < M.length by omega), j2, ov]))
      refine s_law_suits hP1 hw (by omega) j1 ?_
      (repeat (first | dsimp only [XI, XJ] | dsimp only [ZA,ZB,ZC,ZD,ZE,ZF,ZG,ZH,ZI,ZJ,ZK,ZL,ZM,ZN,ZO,ZP,ZQ,ZR,ZS,ZT,ZU,ZV,ZW,ZX,ZY,ZZ,Za,Zb,Zc,Zd,Ze,Zf,Zg,Zh,Zi,Zj,Zk,Zl,Zm,Zn,Zo,Zp,Zq,Zr,Zs,Zt,Zu,Zv,Zw,Zx,Zy,Zz,YA,YB,YC,YD,YE,YF,YG,YH,YI,YJ,YK,YL,YM,YN,YO,YP,YQ,YR,Env.set,cond_true,cond_false,String.reduceBEq,YS,YT,YU,YV,YW,YX,YY,YZ,Ya,Yb,Yc,Yd,Ye,Yf] | simp only [Yg,Yh,true_and,Yi,Yj,Yk,Yl,Ym,Yn,Yo,Yp,Yq,Yr,Yt,Yu,Yv,Yw,Yx,Yy,Yz,XA,XB,XC,XD,XE,beq_self_eq_true,reduceIte,reduceCtorEq,↓reduceIte,XF,XG,XH, j3]))
      exact h1 _ _ ⟨rfl, by (repeat (first | dsimp only [XI, XJ] | dsimp only [ZA,ZB,ZC,ZD,ZE,ZF,ZG,ZH,ZI,ZJ,ZK,ZL,ZM,ZN,ZO,ZP,ZQ,ZR,ZS,ZT,ZU,ZV,ZW,ZX,ZY,ZZ,Za,Zb,Zc,Zd,Ze,Zf,Zg,Zh,Zi,Zj,Zk,Zl,Zm,Zn,Zo,Zp,Zq,Zr,Zs,Zt,Zu,Zv,Zw,Zx,Zy,Zz,YA,YB,YC,YD,YE,YF,YG,YH,YI,YJ,YK,YL,YM,YN,YO,YP,YQ,YR,Env.set,cond_true,cond_false,String.reduceBEq,YS,YT,YU,YV,YW,YX,YY,YZ,Ya,Yb,Yc,Yd,Ye,Yf] | simp only [Yg,Yh,true_and,Yi,Yj,Yk,Yl,Ym,Yn,Yo,Yp,Yq,Yr,Yt,Yu,Yv,Yw,Yx,Yy,Yz,XA,XB,XC,XD,XE,beq_self_eq_true,reduceIte,reduceCtorEq,↓reduceIte,XF,XG,XH, e1])), by (repeat (first | dsimp only [XI, XJ] | dsimp only [ZA,ZB,ZC,ZD,ZE,ZF,ZG,ZH,ZI,ZJ,ZK,ZL,ZM,ZN,ZO,ZP,ZQ,ZR,ZS,ZT,ZU,ZV,ZW,ZX,ZY,ZZ,Za,Zb,Zc,Zd,Ze,Zf,Zg,Zh,Zi,Zj,Zk,Zl,Zm,Zn,Zo,Zp,Zq,Zr,Zs,Zt,Zu,Zv,Zw,Zx,Zy,Zz,YA,YB,YC,YD,YE,YF,YG,YH,YI,YJ,YK,YL,YM,YN,YO,YP,YQ,YR,Env.set,cond_true,cond_false,String.reduceBEq,YS,YT,YU,YV,YW,YX,YY,YZ,Ya,Yb,Yc,Yd,Ye,Yf] | simp only [Yg,Yh,true_and,Yi,Yj,Yk,Yl,Ym,Yn,Yo,Yp,Yq,Yr,Yt,Yu,Yv,Yw,Yx,Yy,Yz,XA,XB,XC,XD,XE,beq_self_eq_true,reduceIte,reduceCtorEq,↓reduceIte,XF,XG,XH, e2]))⟩
  · obtain ⟨rfl, e1, e2⟩ := hI
    (repeat (first | dsimp only [XI, XJ] | dsimp only [ZA,ZB,ZC,ZD,ZE,ZF,ZG,ZH,ZI,ZJ,ZK,ZL,ZM,ZN,ZO,ZP,ZQ,ZR,ZS,ZT,ZU,ZV,ZW,ZX,ZY,ZZ,Za,Zb,Zc,Zd,Ze,Zf,Zg,Zh,Zi,Zj,Zk,Zl,Zm,Zn,Zo,Zp,Zq,Zr,Zs,Zt,Zu,Zv,Zw,Zx,Zy,Zz,YA,YB,YC,YD,YE,YF,YG,YH,YI,YJ,YK,YL,YM,YN,YO,YP,YQ,YR,Env.set,cond_true,cond_false,String.reduceBEq,YS,YT,YU,YV,YW,YX,YY,YZ,Ya,Yb,Yc,Yd,Ye,Yf] | simp only [Yg,Yh,true_and,Yi,Yj,Yk,Yl,Ym,Yn,Yo,Yp,Yq,Yr,Yt,Yu,Yv,Yw,Yx,Yy,Yz,XA,XB,XC,XD,XE,beq_self_eq_true,reduceIte,reduceCtorEq,↓reduceIte,XF,XG,XH]))
    exact h

theorem cut_from {α : Type} (xs : List α) (i : Nat) : cut xs (some (i : Int)) none = xs.drop i := by
  unfold cut clampIdx
  have e : ¬ (i : Int) < 0 := by omega
  simp only [Option.elim, e, if_false]
  by_cases h : i ≤ xs.length
  · have : (max 0 (min (i : Int) (xs.length : Int))).toNat = i := by omega
    rw [this]; exact List.take_of_length_le (by simp)
  · have : (max 0 (min (i : Int) (xs.length : Int))).toNat = xs.length := by omega
    rw [this, List.drop_of_length_le (Nat.le_refl _), List.drop_of_length_le (by omega)]; simp
end

/-- a list of guests -/
noncomputable def LN (H : Hp) (a : Nat) (l : List Nat) : Prop := H[a]? = some (.list (l.map fun i : Nat => V.int (i : Int)))
theorem LN.pre {H H' : Hp} {a : Nat} {is : List Nat} (h : LN H a is) (hp : H <+: H') : LN H' a is := pre_get hp h
theorem LN.len {H : Hp} {w : Nat} {l : List Nat} (h : LN H w l) : lenV (.ref w) H = some (l.length : Int) := by
  unfold lenV; simp [seqOf_list h]
theorem LN.item {H : Hp} {a : Nat} {is : List Nat} (h : LN H a is) {i : Nat} {x : Nat} (hi : is[i]? = some x) : itemV (.ref a) (.int (i : Int)) H = some (.int (x : Int)) :=
  item_seq (seqOf_list h) (by rw [List.getElem?_map, hi]; rfl)
theorem LN.tail {H : Hp} {a : Nat} {g : Nat} {r : List Nat} (h : LN H a (g :: r)) : sliceV (.ref a) (some 1) none H = some (.ref H.length, H ++ [.list (r.map fun i : Nat => V.int (i : Int))]) := by
  rw [sl_ref h, show (1 : Int) = ((1 : Nat) : Int) from rfl, cut_from]; rfl

section
variable {P : Prog} {b : Bool} {n : Nat} {X : XP}
end
end Mine

namespace Mine
open PySem

theorem MT.eq {H : Hp} {a c : Nat} {M M' : Mt} (h : MT H a M) (h' : MT H c M') : eqD H (.ref a) (.ref c) = some (decide (M = M')) := by
  simp [eqD, h.readN 7, h'.readN 7, cl_n, cl_b, cl_i, cl_s, cl_l, cl_t, canLay_od, dq_ii, dq_nn, dq_in, dq_ni, dq_bb, dq_ss, dq_ll, dq_tt, eqv_od]
theorem canLay_ods : ∀ Xs : List Mt, PyData.canLayAll0 (Xs.map fun M => .list (M.map od)) = true
  | [] => rfl
  | l :: W => by simp [ca_n, ca_c, cl_n, cl_b, cl_i, cl_s, cl_l, cl_t, canLay_od, canLay_ods W]
theorem eqv_ods : ∀ W W' : List Mt, PyData.eqvAll (W.map fun l => .list (l.map od)) (W'.map fun l => .list (l.map od)) = decide (W = W')
  | [], [] => rfl
  | [], _ :: _ => by simp [da_nn, da_cc, da_nc, da_cn]
  | _ :: _, [] => by simp [da_nn, da_cc, da_nc, da_cn]
  | i :: l, j :: l' => by
    simp only [List.map_cons, da_nn, da_cc, da_nc, da_cn, dq_ii, dq_nn, dq_in, dq_ni, dq_bb, dq_ss, dq_ll, dq_tt, eqv_ods l l', eqv_od, List.cons.injEq]
    by_cases e : i = j <;> simp [e]
theorem ML.readN {c : Nat} {H : Hp} {w : Nat} {Xs : List Mt} (h : ML c H w Xs) (n : Nat) : readD (n + 2) H (.ref w) = some (.list (Xs.map fun M => .list (M.map od))) := by
  obtain ⟨_, rs, h1, h2⟩ := h
  have : rs.mapM (readD (n + 1) H) = some (Xs.map fun M => PyData.list (M.map od)) := by
    clear h1
    induction h2 with
    | nil => rfl
    | cons hr _ ih =>
      obtain ⟨b, rfl, _, _, _, hb⟩ := hr
      rw [List.mapM_cons, ih, hb.readN n]; rfl
  rw [rd_r]
  simp only [h1, this]; rfl
theorem ML.eq {c c' : Nat} {H : Hp} {w w' : Nat} {W W' : List Mt} (h : ML c H w W) (h' : ML c' H w' W') : eqD H (.ref w) (.ref w') = some (decide (W = W')) := by
  simp [eqD, h.readN 6, h'.readN 6, cl_n, cl_b, cl_i, cl_s, cl_l, cl_t, canLay_ods, dq_ii, dq_nn, dq_in, dq_ni, dq_bb, dq_ss, dq_ll, dq_tt, eqv_ods]

theorem ML.push {c : Nat} {H : Hp} {d : Nat} {Xs : List Mt} (h : ML c H d Xs) (hc : c ≤ H.length) (hl : Xs.length < lim) (M : Mt) : ∃ H', methV .append [.ref d, .ref H.length] (H ++ [.list (M.map ov)]) = some (.none, H') ∧ ML c H' d (Xs ++ [M]) ∧ (∀ H₀, H₀ <+: H → H₀.length ≤ d → H₀ <+: H') ∧ ∀ a o, a ≠ d → H[a]? = some o → H'[a]? = some o := by
  obtain ⟨h0, fs, h1, h2⟩ := h
  have h1' := pre_get (pre_new H (.list (M.map ov))) h1
  have hd := (List.getElem?_eq_some_iff.mp h1).1
  refine ⟨_, append_at h1' (by rw [h2.length]; exact hl), ⟨h0, _, get_set_eq h1' _, ?_⟩, fun H₀ hp hr => pre_set (hp.trans (pre_new _ _)) hr _, fun a o ha q => by rw [get_set_ne ha]; exact pre_get (pre_new _ _) q⟩
  refine (h2.mono fun v X ⟨a, e, q1, q2, q3, q4⟩ => ⟨a, e, q1, by simp; omega, q3, ?_⟩).append (.cons ⟨H.length, rfl, hc, by simp, by omega, ?_⟩ .nil)
  · unfold MT; rw [get_set_ne (by omega)]; exact get_new _ _
  · unfold MT; rw [get_set_ne q3]; exact q4.pre (pre_new _ _)

theorem s_law_restless5 {P : Prog} {b : Bool} {n : Nat} {X : XP} {H : Hp} {Q : Post} (hP : P.fn "_law_restless" = some f__law_restless_05) (hP1 : P.fn "_law_rather" = some f__law_rather) (hP2 : P.fn "_law_suits" = some f__law_suits) {aw am : Nat} {W : List (List Int)} {M : Mt} (hw : WH H aw W) (ok : WOk W) (hm : MT H am M) (mok : MOk W M)
    (h : ∀ H' r, H <+: H' → H.length ≤ r → PR H' r (restP W M) → Q (.ref r) H') : callN P b (n + 3) "_law_restless" [.ref aw, .ref am] H Q X :=
  s_restFn (w := "_law_wishes") (m := "_law_mates_here") (p := "_law_found") (o := "_law_one") (t := "_law_other") (f := "_law_rather") hP (fun hw _ hg _ _ h1 h2 h => s_law_rather hP1 hP2 hw hg h1 h2 h) (by decide) hw ok hm mok h

end Mine

namespace Mine
open PySem

structure Calm (W : List (List Int)) (X : Mt) : Prop where
  ok : MOk W X
  calm : ∀ i j, i < W.length → j < W.length → i ≠ j → soonerP W i (some j) (X.getD i none) = true → soonerP W j (some i) (X.getD j none) = false

theorem rest_mem {W : List (List Int)} {M : Mt} {i j : Nat} (hij : i < j) (hj : j < W.length) (h : restAt W M i j = true) : (i, j) ∈ restP W M := by
  unfold restP restTo
  rw [List.mem_flatMap]
  refine ⟨i, by simp; omega, ?_⟩
  unfold rowP
  rw [List.mem_map]
  have e : i + 1 + (j - (i + 1)) = j := by omega
  exact ⟨j - (i + 1), List.mem_filter.mpr ⟨by simp; omega, by rw [e]; exact h⟩, by rw [e]⟩

theorem Calm.of {W : List (List Int)} {X : Mt} (mok : MOk W X) (h : restP W X = []) : Calm W X := by
  refine ⟨mok, fun i j hi hj hne h1 => ?_⟩
  cases h2 : soonerP W j (some i) (X.getD j none) with
  | false => rfl
  | true =>
    rcases Nat.lt_or_gt_of_ne hne with q | q
    · have := rest_mem (M := X) q hj (by unfold restAt; rw [h1, h2]; rfl)
      rw [h] at this; cases this
    · have := rest_mem (M := X) q hi (by unfold restAt; rw [h1, h2]; rfl)
      rw [h] at this; cases this

theorem calmW_mem {W : List (List Int)} {X : Mt} (h : X ∈ calmW W) : MOk W X ∧ restP W X = [] := by
  obtain ⟨h1, h2⟩ := List.mem_filter.mp h
  refine ⟨twosW_ok h1, List.length_eq_zero_iff.mp ?_⟩
  have : ((restP W X).length : Int) = 0 := by simpa using h2
  omega

end Mine

namespace Mine
open PySem

theorem WH.set {H : Hp} {d : Nat} {W : List (List Int)} (h : WH H d W) {i : Nat} (hi : i < W.length) {b : Nat} {l : List Int} (hb : LI H b l) : ∃ H', setV (.ref d) (.int (i : Int)) (.ref b) H = some H' ∧ WH H' d (W.set i l) ∧ ∀ H₀, H₀ <+: H → H₀.length ≤ d → H₀ <+: H' := by
  obtain ⟨rs, h1, h2⟩ := h
  have hl := h2.length
  have nd : ∀ {c : Nat} {is : List Int}, LI H c is → c ≠ d := fun {c is} q e => by
    subst e
    unfold LI at q
    rw [h1] at q
    have q : rs = is.map .int := by simpa using q
    obtain ⟨l0, hl0⟩ : ∃ l0, W[i]? = some l0 := ⟨_, List.getElem?_eq_getElem hi⟩
    obtain ⟨v, hv, b', rfl, _⟩ := h2.get' hl0
    rw [q, List.getElem?_map] at hv
    obtain ⟨x, _, e⟩ := Option.map_eq_some_iff.mp hv
    cases e
  refine ⟨_, set_seq h1 (by omega) _, ⟨_, get_set_eq h1 _, ?_⟩, fun H₀ hp hr => pre_set hp hr _⟩
  have keep : ∀ {c : Nat} {is : List Int}, LI H c is → LI (H.set d (.list (rs.set i (.ref b)))) c is := fun q => by
    unfold LI; rw [get_set_ne (nd q)]; exact q
  exact (h2.mono fun _ _ ⟨c, e, q⟩ => ⟨c, e, keep q⟩).set i ⟨b, rfl, keep hb⟩

theorem row_set {W : List (List Int)} {i j : Nat} {l : List Int} (hi : i < W.length) : row (W.set i l) j = if i = j then l else row W j := by
  unfold row; exact getD_set _ _ _ _ _ hi

theorem WOk.set {W : List (List Int)} (ok : WOk W) {i : Nat} {l : List Int} (hi : i < W.length) (h : RowOk l i W.length) : WOk (W.set i l) := by
  refine ⟨by simpa using ok.pos, by simpa using ok.le, fun j hj => ?_⟩
  rw [List.length_set] at hj ⊢
  rw [row_set hi]
  by_cases e : i = j
  · subst e; simpa using h
  · rw [if_neg e]; exact ok.rows j hj

section
variable {P : Prog} {b : Bool} {n : Nat} {H : Hp} {Q : Post} {X : XP}

end

end Mine

namespace Mine
open PySem

noncomputable def rowB (row : List Int) (g m : Int) : Bool := row.all (fun x => decide (0 ≤ x ∧ x < m)) && decide (g ∉ row) && decide row.Nodup
theorem rowB_iff {row : List Int} {g m : Int} : rowB row g m = true ↔ (∀ x ∈ row, 0 ≤ x ∧ x < m) ∧ g ∉ row ∧ row.Nodup := by
  simp only [rowB, Bool.and_eq_true, List.all_eq_true, decide_eq_true_eq, and_assoc]
theorem rowB_take {row : List Int} {g m : Int} (h : rowB row g m = true) (k : Nat) : rowB (row.take k) g m = true := by
  obtain ⟨a, b, c⟩ := rowB_iff.mp h
  exact rowB_iff.mpr ⟨fun x hx => a x (List.mem_of_mem_take hx), fun hx => b (List.mem_of_mem_take hx), c.sublist (List.take_sublist _ _)⟩
theorem rowB_step {row : List Int} {g m : Int} {i : Nat} {x : Int} (hx : row[i]? = some x) (h : rowB (row.take i) g m = true) : rowB (row.take (i + 1)) g m = true ↔ (0 ≤ x ∧ x < m) ∧ x ≠ g ∧ x ∉ row.take i := by
  obtain ⟨hi, e⟩ := List.getElem?_eq_some_iff.mp hx
  obtain ⟨a, b, c⟩ := rowB_iff.mp h
  rw [rowB_iff, List.take_succ_eq_append_getElem hi, e]
  constructor
  · rintro ⟨a', b', c'⟩
    refine ⟨a' x (by simp), fun q => b' (by simp [q]), fun q => ?_⟩
    rw [List.nodup_append] at c'
    exact c'.2.2 x q x (by simp) rfl
  · rintro ⟨h1, h2, h3⟩
    refine ⟨fun y hy => ?_, fun q => ?_, ?_⟩
    · rcases List.mem_append.mp hy with q | q
      · exact a y q
      · rw [List.mem_singleton.mp q]; exact h1
    · rcases List.mem_append.mp q with q | q
      · exact b q
      · exact h2 (List.mem_singleton.mp q).symm
    · rw [List.nodup_append]
      refine ⟨c, by simp, fun y hy z hz q => ?_⟩
      rw [List.mem_singleton.mp hz] at q
      exact h3 (q ▸ hy)
section
variable {P : Prog} {b : Bool} {n : Nat} {H : Hp} {Q : Post} {X : XP}

theorem s_is_rowG (hP : P.fn "is_row" = some f_is_row) (hP1 : P.fn "is_guest" = some f_is_guest) {r : Nat} {row : List Int} {g m : Int} (hr : LI H r row) (hl : row.length ≤ lim)
    (h : ∀ H', H <+: H' → Q (.bool (rowB row g m)) H') : callN P b (n + 2) "is_row" [.ref r, .int g, .int m] H Q X := by
  (refine callN_in hP rfl ?_; unfold f_is_row)
  (repeat (first | dsimp only [XI, XJ] | dsimp only [ZA,ZB,ZC,ZD,ZE,ZF,ZG,ZH,ZI,ZJ,ZK,ZL,ZM,ZN,ZO,ZP,ZQ,ZR,ZS,ZT,ZU,ZV,ZW,ZX,ZY,ZZ,Za,Zb,Zc,Zd,Ze,Zf,Zg,Zh,Zi,Zj,Zk,Zl,Zm,Zn,Zo,Zp,Zq,Zr,Zs,Zt,Zu,Zv,Zw,Zx,Zy,Zz,YA,YB,YC,YD,YE,YF,YG,YH,YI,YJ,YK,YL,YM,YN,YO,YP,YQ,YR,Env.set,cond_true,cond_false,String.reduceBEq,YS,YT,YU,YV,YW,YX,YY,YZ,Ya,Yb,Yc,Yd,Ye,Yf] | simp only [Yg,Yh,true_and,Yi,Yj,Yk,Yl,Ym,Yn,Yo,Yp,Yq,Yr,Yt,Yu,Yv,Yw,Yx,Yy,Yz,XA,XB,XC,XD,XE,beq_self_eq_true,reduceIte,reduceCtorEq,↓reduceIte,XF,XG,XH, hr.isList, hr.len, range_nat hl]))
  refine wFor_idx (fun i ρ H' => H <+: H' ∧ rowB (row.take i) g m = true ∧ ρ "row" = some (.ref r) ∧ ρ "guest" = some (.int g) ∧ ρ "many" = some (.int m)) ⟨List.prefix_refl _, rfl, rfl, rfl, rfl⟩ (fun i v ρ H' hv hI => ⟨trivial, fun k' h1 h2 => ?_⟩) fun ρ H' hI => ⟨trivial, ?_⟩
  · obtain ⟨hi, rfl⟩ := rng_get hv
    obtain ⟨hp, hB, e1, e2, e3⟩ := hI
    have hr' := hr.pre hp
    obtain ⟨x, hx⟩ : ∃ x, row[i]? = some x := ⟨_, List.getElem?_eq_getElem hi⟩
    have bad : ∀ H'', H <+: H'' → ¬ ((0 ≤ x ∧ x < m) ∧ x ≠ g ∧ x ∉ row.take i) → Q (.bool false) H'' := fun H'' hp' q => by
      have : rowB row g m = false := by
        cases e : rowB row g m with
        | false => rfl
        | true => exact absurd ((rowB_step hx hB).mp (rowB_take e (i + 1))) q
      rw [← this]; exact h H'' hp'
    (repeat (first | dsimp only [XI, XJ] | dsimp only [ZA,ZB,ZC,ZD,ZE,ZF,ZG,ZH,ZI,ZJ,ZK,ZL,ZM,ZN,ZO,ZP,ZQ,ZR,ZS,ZT,ZU,ZV,ZW,ZX,ZY,ZZ,Za,Zb,Zc,Zd,Ze,Zf,Zg,Zh,Zi,Zj,Zk,Zl,Zm,Zn,Zo,Zp,Zq,Zr,Zs,Zt,Zu,Zv,Zw,Zx,Zy,Zz,YA,YB,YC,YD,YE,YF,YG,YH,YI,YJ,YK,YL,YM,YN,YO,YP,YQ,YR,Env.set,cond_true,cond_false,String.reduceBEq,YS,YT,YU,YV,YW,YX,YY,YZ,Ya,Yb,Yc,Yd,Ye,Yf] | simp only [Yg,Yh,true_and,Yi,Yj,Yk,Yl,Ym,Yn,Yo,Yp,Yq,Yr,Yt,Yu,Yv,Yw,Yx,Yy,Yz,XA,XB,XC,XD,XE,beq_self_eq_true,reduceIte,reduceCtorEq,↓reduceIte,XF,XG,XH, e1, e2, e3, hr'.item hx]))
    refine s_is_guest hP1 ?_
    by_cases q1 : 0 ≤ x ∧ x < m
    · (repeat (first | dsimp only [XI, XJ] | dsimp only [ZA,ZB,ZC,ZD,ZE,ZF,ZG,ZH,ZI,ZJ,ZK,ZL,ZM,ZN,ZO,ZP,ZQ,ZR,ZS,ZT,ZU,ZV,ZW,ZX,ZY,ZZ,Za,Zb,Zc,Zd,Ze,Zf,Zg,Zh,Zi,Zj,Zk,Zl,Zm,Zn,Zo,Zp,Zq,Zr,Zs,Zt,Zu,Zv,Zw,Zx,Zy,Zz,YA,YB,YC,YD,YE,YF,YG,YH,YI,YJ,YK,YL,YM,YN,YO,YP,YQ,YR,Env.set,cond_true,cond_false,String.reduceBEq,YS,YT,YU,YV,YW,YX,YY,YZ,Ya,Yb,Yc,Yd,Ye,Yf] | simp only [Yg,Yh,true_and,Yi,Yj,Yk,Yl,Ym,Yn,Yo,Yp,Yq,Yr,Yt,Yu,Yv,Yw,Yx,Yy,Yz,XA,XB,XC,XD,XE,beq_self_eq_true,reduceIte,reduceCtorEq,↓reduceIte,XF,XG,XH, decide_eq_true q1]))
      by_cases q2 : x = g
      · (repeat (first | dsimp only [XI, XJ] | dsimp only [ZA,ZB,ZC,ZD,ZE,ZF,ZG,ZH,ZI,ZJ,ZK,ZL,ZM,ZN,ZO,ZP,ZQ,ZR,ZS,ZT,ZU,ZV,ZW,ZX,ZY,ZZ,Za,Zb,Zc,Zd,Ze,Zf,Zg,Zh,Zi,Zj,Zk,Zl,Zm,Zn,Zo,Zp,Zq,Zr,Zs,Zt,Zu,Zv,Zw,Zx,Zy,Zz,YA,YB,YC,YD,YE,YF,YG,YH,YI,YJ,YK,YL,YM,YN,YO,YP,YQ,YR,Env.set,cond_true,cond_false,String.reduceBEq,YS,YT,YU,YV,YW,YX,YY,YZ,Ya,Yb,Yc,Yd,Ye,Yf] | simp only [Yg,Yh,true_and,Yi,Yj,Yk,Yl,Ym,Yn,Yo,Yp,Yq,Yr,Yt,Yu,Yv,Yw,Yx,Yy,Yz,XA,XB,XC,XD,XE,beq_self_eq_true,reduceIte,reduceCtorEq,↓reduceIte,XF,XG,XH, hr'.item hx, show (x == g) = true by simp [q2]]))
        exact h2 _ _ _ (bad _ hp fun q => q.2.1 q2)
      · by_cases q3 : x ∈ row.take i
        · (repeat (first | dsimp only [XI, XJ] | dsimp only [ZA,ZB,ZC,ZD,ZE,ZF,ZG,ZH,ZI,ZJ,ZK,ZL,ZM,ZN,ZO,ZP,ZQ,ZR,ZS,ZT,ZU,ZV,ZW,ZX,ZY,ZZ,Za,Zb,Zc,Zd,Ze,Zf,Zg,Zh,Zi,Zj,Zk,Zl,Zm,Zn,Zo,Zp,Zq,Zr,Zs,Zt,Zu,Zv,Zw,Zx,Zy,Zz,YA,YB,YC,YD,YE,YF,YG,YH,YI,YJ,YK,YL,YM,YN,YO,YP,YQ,YR,Env.set,cond_true,cond_false,String.reduceBEq,YS,YT,YU,YV,YW,YX,YY,YZ,Ya,Yb,Yc,Yd,Ye,Yf] | simp only [Yg,Yh,true_and,Yi,Yj,Yk,Yl,Ym,Yn,Yo,Yp,Yq,Yr,Yt,Yu,Yv,Yw,Yx,Yy,Yz,XA,XB,XC,XD,XE,beq_self_eq_true,reduceIte,reduceCtorEq,↓reduceIte,XF,XG,XH, hr'.item hx, show (x == g) = false by simp [q2], hr'.sliceTo i, (LI.new H' (row.take i)).mem x, decide_eq_true q3]))
          exact h2 _ _ _ (bad _ (hp.trans (pre_new _ _)) fun q => q.2.2 q3)
        · (repeat (first | dsimp only [XI, XJ] | dsimp only [ZA,ZB,ZC,ZD,ZE,ZF,ZG,ZH,ZI,ZJ,ZK,ZL,ZM,ZN,ZO,ZP,ZQ,ZR,ZS,ZT,ZU,ZV,ZW,ZX,ZY,ZZ,Za,Zb,Zc,Zd,Ze,Zf,Zg,Zh,Zi,Zj,Zk,Zl,Zm,Zn,Zo,Zp,Zq,Zr,Zs,Zt,Zu,Zv,Zw,Zx,Zy,Zz,YA,YB,YC,YD,YE,YF,YG,YH,YI,YJ,YK,YL,YM,YN,YO,YP,YQ,YR,Env.set,cond_true,cond_false,String.reduceBEq,YS,YT,YU,YV,YW,YX,YY,YZ,Ya,Yb,Yc,Yd,Ye,Yf] | simp only [Yg,Yh,true_and,Yi,Yj,Yk,Yl,Ym,Yn,Yo,Yp,Yq,Yr,Yt,Yu,Yv,Yw,Yx,Yy,Yz,XA,XB,XC,XD,XE,beq_self_eq_true,reduceIte,reduceCtorEq,↓reduceIte,XF,XG,XH, hr'.item hx, show (x == g) = false by simp [q2], hr'.sliceTo i, (LI.new H' (row.take i)).mem x, decide_eq_false q3]))
          refine h1 _ _ ⟨hp.trans (pre_new _ _), (rowB_step hx hB).mpr ⟨q1, q2, q3⟩, ?_⟩
          (repeat (first | dsimp only [XI, XJ] | dsimp only [ZA,ZB,ZC,ZD,ZE,ZF,ZG,ZH,ZI,ZJ,ZK,ZL,ZM,ZN,ZO,ZP,ZQ,ZR,ZS,ZT,ZU,ZV,ZW,ZX,ZY,ZZ,Za,Zb,Zc,Zd,Ze,Zf,Zg,Zh,Zi,Zj,Zk,Zl,Zm,Zn,Zo,Zp,Zq,Zr,Zs,Zt,Zu,Zv,Zw,Zx,Zy,Zz,YA,YB,YC,YD,YE,YF,YG,YH,YI,YJ,YK,YL,YM,YN,YO,YP,YQ,YR,Env.set,cond_true,cond_false,String.reduceBEq,YS,YT,YU,YV,YW,YX,YY,YZ,Ya,Yb,Yc,Yd,Ye,Yf] | simp only [Yg,Yh,true_and,Yi,Yj,Yk,Yl,Ym,Yn,Yo,Yp,Yq,Yr,Yt,Yu,Yv,Yw,Yx,Yy,Yz,XA,XB,XC,XD,XE,beq_self_eq_true,reduceIte,reduceCtorEq,↓reduceIte,XF,XG,XH, e1, e2, e3]))
    · (repeat (first | dsimp only [XI, XJ] | dsimp only [ZA,ZB,ZC,ZD,ZE,ZF,ZG,ZH,ZI,ZJ,ZK,ZL,ZM,ZN,ZO,ZP,ZQ,ZR,ZS,ZT,ZU,ZV,ZW,ZX,ZY,ZZ,Za,Zb,Zc,Zd,Ze,Zf,Zg,Zh,Zi,Zj,Zk,Zl,Zm,Zn,Zo,Zp,Zq,Zr,Zs,Zt,Zu,Zv,Zw,Zx,Zy,Zz,YA,YB,YC,YD,YE,YF,YG,YH,YI,YJ,YK,YL,YM,YN,YO,YP,YQ,YR,Env.set,cond_true,cond_false,String.reduceBEq,YS,YT,YU,YV,YW,YX,YY,YZ,Ya,Yb,Yc,Yd,Ye,Yf] | simp only [Yg,Yh,true_and,Yi,Yj,Yk,Yl,Ym,Yn,Yo,Yp,Yq,Yr,Yt,Yu,Yv,Yw,Yx,Yy,Yz,XA,XB,XC,XD,XE,beq_self_eq_true,reduceIte,reduceCtorEq,↓reduceIte,XF,XG,XH, decide_eq_false q1]))
      exact h2 _ _ _ (bad _ hp fun q => q1 q.1)
  · obtain ⟨hp, hB, _⟩ := hI
    rw [rng_len, List.take_length] at hB
    (repeat (first | dsimp only [XI, XJ] | dsimp only [ZA,ZB,ZC,ZD,ZE,ZF,ZG,ZH,ZI,ZJ,ZK,ZL,ZM,ZN,ZO,ZP,ZQ,ZR,ZS,ZT,ZU,ZV,ZW,ZX,ZY,ZZ,Za,Zb,Zc,Zd,Ze,Zf,Zg,Zh,Zi,Zj,Zk,Zl,Zm,Zn,Zo,Zp,Zq,Zr,Zs,Zt,Zu,Zv,Zw,Zx,Zy,Zz,YA,YB,YC,YD,YE,YF,YG,YH,YI,YJ,YK,YL,YM,YN,YO,YP,YQ,YR,Env.set,cond_true,cond_false,String.reduceBEq,YS,YT,YU,YV,YW,YX,YY,YZ,Ya,Yb,Yc,Yd,Ye,Yf] | simp only [Yg,Yh,true_and,Yi,Yj,Yk,Yl,Ym,Yn,Yo,Yp,Yq,Yr,Yt,Yu,Yv,Yw,Yx,Yy,Yz,XA,XB,XC,XD,XE,beq_self_eq_true,reduceIte,reduceCtorEq,↓reduceIte,XF,XG,XH]))
    have := h H' hp
    rw [hB] at this; exact this

end
end Mine

namespace Mine
open PySem

/-- no guest -/
noncomputable def NonG (t : V) (H : Hp) : Prop := isInst t ["int"] H = some false ∨ ∃ x, t = .bool x

section
variable {P : Prog} {b : Bool} {n : Nat} {H : Hp} {Q : Post} {X : XP}

theorem s_guest_no (hP : P.fn "is_guest" = some f_is_guest) {t : V} {m : Int} (ht : NonG t H) (h : Q (.bool false) H) : callN P b (n + 1) "is_guest" [t, .int m] H Q X := by
  (refine callN_in hP rfl ?_; unfold f_is_guest)
  rcases ht with ht | ⟨x, rfl⟩
  · (repeat (first | dsimp only [XI, XJ] | dsimp only [ZA,ZB,ZC,ZD,ZE,ZF,ZG,ZH,ZI,ZJ,ZK,ZL,ZM,ZN,ZO,ZP,ZQ,ZR,ZS,ZT,ZU,ZV,ZW,ZX,ZY,ZZ,Za,Zb,Zc,Zd,Ze,Zf,Zg,Zh,Zi,Zj,Zk,Zl,Zm,Zn,Zo,Zp,Zq,Zr,Zs,Zt,Zu,Zv,Zw,Zx,Zy,Zz,YA,YB,YC,YD,YE,YF,YG,YH,YI,YJ,YK,YL,YM,YN,YO,YP,YQ,YR,Env.set,cond_true,cond_false,String.reduceBEq,YS,YT,YU,YV,YW,YX,YY,YZ,Ya,Yb,Yc,Yd,Ye,Yf] | simp only [Yg,Yh,true_and,Yi,Yj,Yk,Yl,Ym,Yn,Yo,Yp,Yq,Yr,Yt,Yu,Yv,Yw,Yx,Yy,Yz,XA,XB,XC,XD,XE,beq_self_eq_true,reduceIte,reduceCtorEq,↓reduceIte,XF,XG,XH, ht]))
    exact h
  · (repeat (first | dsimp only [XI, XJ] | dsimp only [ZA,ZB,ZC,ZD,ZE,ZF,ZG,ZH,ZI,ZJ,ZK,ZL,ZM,ZN,ZO,ZP,ZQ,ZR,ZS,ZT,ZU,ZV,ZW,ZX,ZY,ZZ,Za,Zb,Zc,Zd,Ze,Zf,Zg,Zh,Zi,Zj,Zk,Zl,Zm,Zn,Zo,Zp,Zq,Zr,Zs,Zt,Zu,Zv,Zw,Zx,Zy,Zz,YA,YB,YC,YD,YE,YF,YG,YH,YI,YJ,YK,YL,YM,YN,YO,YP,YQ,YR,Env.set,cond_true,cond_false,String.reduceBEq,YS,YT,YU,YV,YW,YX,YY,YZ,Ya,Yb,Yc,Yd,Ye,Yf] | simp only [Yg,Yh,true_and,Yi,Yj,Yk,Yl,Ym,Yn,Yo,Yp,Yq,Yr,Yt,Yu,Yv,Yw,Yx,Yy,Yz,XA,XB,XC,XD,XE,beq_self_eq_true,reduceIte,reduceCtorEq,↓reduceIte,XF,XG,XH, show isInst (.bool x) ["int"] H = some true by simp [isInst, isObj, typesOf]]))
    exact h

/-- a row that is none -/
noncomputable def RowBad (P : Prog) (b : Bool) (r : V) (g m : Nat) (H : Hp) : Prop :=
  ∀ n H' Q X, H <+: H' → (∀ H'', H' <+: H'' → Q (.bool false) H'') → callN P b (n + 2) "is_row" [r, .int (g : Int), .int (m : Int)] H' Q X

theorem rowBad_ints (hP : P.fn "is_row" = some f_is_row) (hP1 : P.fn "is_guest" = some f_is_guest) {a g m : Nat} {l : List Int} (ha : LI H a l) (hl : l.length ≤ lim) (hb : rowB l g m = false) : RowBad P b (.ref a) g m H := fun n H' Q X hp h =>
  s_is_rowG hP hP1 (ha.pre hp) hl fun H'' hp' => by rw [hb]; exact h H'' hp'

theorem rowBad_thing (hP : P.fn "is_row" = some f_is_row) (hP1 : P.fn "is_guest" = some f_is_guest) {a g m : Nat} {l : List Int} {t : V} {B : List V} (ha : H[a]? = some (.list (l.map .int ++ t :: B))) (hl : (l.map V.int ++ t :: B).length ≤ lim) (hb : rowB l g m = true)
    (ht : ∀ H', H <+: H' → NonG t H') : RowBad P b (.ref a) g m H := fun n H₀ Q X hp₀ h => by
  have ha₀ := pre_get hp₀ ha
  (refine callN_in hP rfl ?_; unfold f_is_row)
  have hil : isInst (.ref a) ["list"] H₀ = some true := by simp [isInst, isObj, typesOf, ha₀]
  have hlen : lenV (.ref a) H₀ = some ((l.map V.int ++ t :: B).length : Int) := by unfold lenV; simp [seqOf_list ha₀]
  (repeat (first | dsimp only [XI, XJ] | dsimp only [ZA,ZB,ZC,ZD,ZE,ZF,ZG,ZH,ZI,ZJ,ZK,ZL,ZM,ZN,ZO,ZP,ZQ,ZR,ZS,ZT,ZU,ZV,ZW,ZX,ZY,ZZ,Za,Zb,Zc,Zd,Ze,Zf,Zg,Zh,Zi,Zj,Zk,Zl,Zm,Zn,Zo,Zp,Zq,Zr,Zs,Zt,Zu,Zv,Zw,Zx,Zy,Zz,YA,YB,YC,YD,YE,YF,YG,YH,YI,YJ,YK,YL,YM,YN,YO,YP,YQ,YR,Env.set,cond_true,cond_false,String.reduceBEq,YS,YT,YU,YV,YW,YX,YY,YZ,Ya,Yb,Yc,Yd,Ye,Yf] | simp only [Yg,Yh,true_and,Yi,Yj,Yk,Yl,Ym,Yn,Yo,Yp,Yq,Yr,Yt,Yu,Yv,Yw,Yx,Yy,Yz,XA,XB,XC,XD,XE,beq_self_eq_true,reduceIte,reduceCtorEq,↓reduceIte,XF,XG,XH, hil, hlen, range_nat hl]))
  have hlt : l.length < (l.map V.int ++ t :: B).length := by simp
  refine wFor_idx (fun i ρ H' => i ≤ l.length ∧ H₀ <+: H' ∧ ρ "row" = some (.ref a) ∧ ρ "guest" = some (.int (g : Int)) ∧ ρ "many" = some (.int (m : Int))) ⟨by omega, List.prefix_refl _, rfl, rfl, rfl⟩ (fun i v ρ H' hv hI => ⟨trivial, fun k' h1 h2 => ?_⟩) fun ρ H' hI => ⟨trivial, ?_⟩
  · obtain ⟨hi, rfl⟩ := rng_get hv
    obtain ⟨hil, hp, e1, e2, e3⟩ := hI
    have ha' := pre_get hp ha₀
    by_cases hil' : i < l.length
    · obtain ⟨x, hx⟩ : ∃ x, l[i]? = some x := ⟨_, List.getElem?_eq_getElem hil'⟩
      have it : itemV (.ref a) (.int (i : Int)) H' = some (.int x) := item_seq (seqOf_list ha') (by rw [List.getElem?_append_left (by simpa using hil'), List.getElem?_map, hx]; rfl)
      have sl : sliceV (.ref a) none (some (i : Int)) H' = some (.ref H'.length, H' ++ [.list ((l.take i).map .int)]) := by
        rw [sl_ref ha', cut_to, List.take_append_of_le_length (by simp; omega), List.map_take]
      obtain ⟨q1, q2, q3⟩ := (rowB_step (g := (g : Int)) (m := (m : Int)) hx (rowB_take hb i)).mp (rowB_take hb (i + 1))
      (repeat (first | dsimp only [XI, XJ] | dsimp only [ZA,ZB,ZC,ZD,ZE,ZF,ZG,ZH,ZI,ZJ,ZK,ZL,ZM,ZN,ZO,ZP,ZQ,ZR,ZS,ZT,ZU,ZV,ZW,ZX,ZY,ZZ,Za,Zb,Zc,Zd,Ze,Zf,Zg,Zh,Zi,Zj,Zk,Zl,Zm,Zn,Zo,Zp,Zq,Zr,Zs,Zt,Zu,Zv,Zw,Zx,Zy,Zz,YA,YB,YC,YD,YE,YF,YG,YH,YI,YJ,YK,YL,YM,YN,YO,YP,YQ,YR,Env.set,cond_true,cond_false,String.reduceBEq,YS,YT,YU,YV,YW,YX,YY,YZ,Ya,Yb,Yc,Yd,Ye,Yf] | simp only [Yg,Yh,true_and,Yi,Yj,Yk,Yl,Ym,Yn,Yo,Yp,Yq,Yr,Yt,Yu,Yv,Yw,Yx,Yy,Yz,XA,XB,XC,XD,XE,beq_self_eq_true,reduceIte,reduceCtorEq,↓reduceIte,XF,XG,XH, e1, e2, e3, it]))
      refine s_is_guest hP1 ?_
      (repeat (first | dsimp only [XI, XJ] | dsimp only [ZA,ZB,ZC,ZD,ZE,ZF,ZG,ZH,ZI,ZJ,ZK,ZL,ZM,ZN,ZO,ZP,ZQ,ZR,ZS,ZT,ZU,ZV,ZW,ZX,ZY,ZZ,Za,Zb,Zc,Zd,Ze,Zf,Zg,Zh,Zi,Zj,Zk,Zl,Zm,Zn,Zo,Zp,Zq,Zr,Zs,Zt,Zu,Zv,Zw,Zx,Zy,Zz,YA,YB,YC,YD,YE,YF,YG,YH,YI,YJ,YK,YL,YM,YN,YO,YP,YQ,YR,Env.set,cond_true,cond_false,String.reduceBEq,YS,YT,YU,YV,YW,YX,YY,YZ,Ya,Yb,Yc,Yd,Ye,Yf] | simp only [Yg,Yh,true_and,Yi,Yj,Yk,Yl,Ym,Yn,Yo,Yp,Yq,Yr,Yt,Yu,Yv,Yw,Yx,Yy,Yz,XA,XB,XC,XD,XE,beq_self_eq_true,reduceIte,reduceCtorEq,↓reduceIte,XF,XG,XH, decide_eq_true q1, it, show (x == (g : Int)) = false by simp [q2], sl, (LI.new H' (l.take i)).mem x, decide_eq_false q3]))
      exact h1 _ _ ⟨by omega, hp.trans (pre_new _ _), by (repeat (first | dsimp only [XI, XJ] | dsimp only [ZA,ZB,ZC,ZD,ZE,ZF,ZG,ZH,ZI,ZJ,ZK,ZL,ZM,ZN,ZO,ZP,ZQ,ZR,ZS,ZT,ZU,ZV,ZW,ZX,ZY,ZZ,Za,Zb,Zc,Zd,Ze,Zf,Zg,Zh,Zi,Zj,Zk,Zl,Zm,Zn,Zo,Zp,Zq,Zr,Zs,Zt,Zu,Zv,Zw,Zx,Zy,Zz,YA,YB,YC,YD,YE,YF,YG,YH,YI,YJ,YK,YL,YM,YN,YO,YP,YQ,YR,Env.set,cond_true,cond_false,String.reduceBEq,YS,YT,YU,YV,YW,YX,YY,YZ,Ya,Yb,Yc,Yd,Ye,Yf] | simp only [Yg,Yh,true_and,Yi,Yj,Yk,Yl,Ym,Yn,Yo,Yp,Yq,Yr,Yt,Yu,Yv,Yw,Yx,Yy,Yz,XA,XB,XC,XD,XE,beq_self_eq_true,reduceIte,reduceCtorEq,↓reduceIte,XF,XG,XH, e1])), by (repeat (first | dsimp only [XI, XJ] | dsimp only [ZA,ZB,ZC,ZD,ZE,ZF,ZG,ZH,ZI,ZJ,ZK,ZL,ZM,ZN,ZO,ZP,ZQ,ZR,ZS,ZT,ZU,ZV,ZW,ZX,ZY,ZZ,Za,Zb,Zc,Zd,Ze,Zf,Zg,Zh,Zi,Zj,Zk,Zl,Zm,Zn,Zo,Zp,Zq,Zr,Zs,Zt,Zu,Zv,Zw,Zx,Zy,Zz,YA,YB,YC,YD,YE,YF,YG,YH,YI,YJ,YK,YL,YM,YN,YO,YP,YQ,YR,Env.set,cond_true,cond_false,String.reduceBEq,YS,YT,YU,YV,YW,YX,YY,YZ,Ya,Yb,Yc,Yd,Ye,Yf] | simp only [Yg,Yh,true_and,Yi,Yj,Yk,Yl,Ym,Yn,Yo,Yp,Yq,Yr,Yt,Yu,Yv,Yw,Yx,Yy,Yz,XA,XB,XC,XD,XE,beq_self_eq_true,reduceIte,reduceCtorEq,↓reduceIte,XF,XG,XH, e2])), by (repeat (first | dsimp only [XI, XJ] | dsimp only [ZA,ZB,ZC,ZD,ZE,ZF,ZG,ZH,ZI,ZJ,ZK,ZL,ZM,ZN,ZO,ZP,ZQ,ZR,ZS,ZT,ZU,ZV,ZW,ZX,ZY,ZZ,Za,Zb,Zc,Zd,Ze,Zf,Zg,Zh,Zi,Zj,Zk,Zl,Zm,Zn,Zo,Zp,Zq,Zr,Zs,Zt,Zu,Zv,Zw,Zx,Zy,Zz,YA,YB,YC,YD,YE,YF,YG,YH,YI,YJ,YK,YL,YM,YN,YO,YP,YQ,YR,Env.set,cond_true,cond_false,String.reduceBEq,YS,YT,YU,YV,YW,YX,YY,YZ,Ya,Yb,Yc,Yd,Ye,Yf] | simp only [Yg,Yh,true_and,Yi,Yj,Yk,Yl,Ym,Yn,Yo,Yp,Yq,Yr,Yt,Yu,Yv,Yw,Yx,Yy,Yz,XA,XB,XC,XD,XE,beq_self_eq_true,reduceIte,reduceCtorEq,↓reduceIte,XF,XG,XH, e3]))⟩
    · obtain rfl : i = l.length := by omega
      have it : itemV (.ref a) (.int (l.length : Int)) H' = some t := item_seq (seqOf_list ha') (by rw [List.getElem?_append_right (by simp)]; simp)
      (repeat (first | dsimp only [XI, XJ] | dsimp only [ZA,ZB,ZC,ZD,ZE,ZF,ZG,ZH,ZI,ZJ,ZK,ZL,ZM,ZN,ZO,ZP,ZQ,ZR,ZS,ZT,ZU,ZV,ZW,ZX,ZY,ZZ,Za,Zb,Zc,Zd,Ze,Zf,Zg,Zh,Zi,Zj,Zk,Zl,Zm,Zn,Zo,Zp,Zq,Zr,Zs,Zt,Zu,Zv,Zw,Zx,Zy,Zz,YA,YB,YC,YD,YE,YF,YG,YH,YI,YJ,YK,YL,YM,YN,YO,YP,YQ,YR,Env.set,cond_true,cond_false,String.reduceBEq,YS,YT,YU,YV,YW,YX,YY,YZ,Ya,Yb,Yc,Yd,Ye,Yf] | simp only [Yg,Yh,true_and,Yi,Yj,Yk,Yl,Ym,Yn,Yo,Yp,Yq,Yr,Yt,Yu,Yv,Yw,Yx,Yy,Yz,XA,XB,XC,XD,XE,beq_self_eq_true,reduceIte,reduceCtorEq,↓reduceIte,XF,XG,XH, e1, e2, e3, it]))
      refine s_guest_no hP1 (ht H' (hp₀.trans hp)) ?_
      (repeat (first | dsimp only [XI, XJ] | dsimp only [ZA,ZB,ZC,ZD,ZE,ZF,ZG,ZH,ZI,ZJ,ZK,ZL,ZM,ZN,ZO,ZP,ZQ,ZR,ZS,ZT,ZU,ZV,ZW,ZX,ZY,ZZ,Za,Zb,Zc,Zd,Ze,Zf,Zg,Zh,Zi,Zj,Zk,Zl,Zm,Zn,Zo,Zp,Zq,Zr,Zs,Zt,Zu,Zv,Zw,Zx,Zy,Zz,YA,YB,YC,YD,YE,YF,YG,YH,YI,YJ,YK,YL,YM,YN,YO,YP,YQ,YR,Env.set,cond_true,cond_false,String.reduceBEq,YS,YT,YU,YV,YW,YX,YY,YZ,Ya,Yb,Yc,Yd,Ye,Yf] | simp only [Yg,Yh,true_and,Yi,Yj,Yk,Yl,Ym,Yn,Yo,Yp,Yq,Yr,Yt,Yu,Yv,Yw,Yx,Yy,Yz,XA,XB,XC,XD,XE,beq_self_eq_true,reduceIte,reduceCtorEq,↓reduceIte,XF,XG,XH]))
      exact h2 _ _ _ (h H' hp)
  · have := hI.1
    rw [rng_len] at this
    omega

end
end Mine

namespace Mine
open PySem

noncomputable def Kp (S : List Nat) (H H' : Hp) : Prop := ∀ c o, c ∉ S → H[c]? = some o → H'[c]? = some o
theorem Kp.refl (S : List Nat) (H : Hp) : Kp S H H := fun _ _ _ e => e
theorem Kp.trans {S : List Nat} {H H' H'' : Hp} (x : Kp S H H') (y : Kp S H' H'') : Kp S H H'' := fun c o hc e => y c o hc (x c o hc e)
theorem Kp.pre {S : List Nat} {H H' : Hp} (hp : H <+: H') : Kp S H H' := fun _ _ _ e => pre_get hp e
theorem Kp.mono {S S' : List Nat} {H H' : Hp} (x : Kp S H H') (h : ∀ c ∈ S, c ∈ S') : Kp S' H H' := fun c o hc e => x c o (fun q => hc (h c q)) e
theorem Kp.set {S : List Nat} {H : Hp} {r : Nat} (hr : r ∈ S) (o : O) : Kp S H (H.set r o) := fun c o' hc e => by rw [get_set_ne (by rintro rfl; exact hc hr)]; exact e
theorem Kp.len {S : List Nat} {H H' : Hp} (x : Kp S H H') {c : Nat} {o : O} (hc : c ∉ S) (e : H[c]? = some o) : c < H'.length := (List.getElem?_eq_some_iff.mp (x c o hc e)).1

/-- no list of numbers, no list of mates -/
noncomputable def NotV (H : Hp) (s : Nat) : Prop := (∀ l, ¬ LI H s l) ∧ ∀ M, ¬ MT H s M
theorem NotV.of {H : Hp} {s : Nat} {o : O} (h : H[s]? = some o) (hn : ∀ xs, o ≠ .list xs) : NotV H s := ⟨fun l q => by unfold LI at q; rw [h] at q; exact hn _ (Option.some.inj q), fun M q => by unfold MT at q; rw [h] at q; exact hn _ (Option.some.inj q)⟩
theorem NotV.refs {H : Hp} {s c : Nat} {rs : List V} (h : H[s]? = some (.list (.ref c :: rs))) : NotV H s := ⟨fun l q => by
    unfold LI at q; rw [h] at q
    cases l with
    | nil => simp at q
    | cons i l => simp at q, fun M q => by
    unfold MT at q; rw [h] at q
    cases M with
    | nil => simp at q
    | cons i l => cases i <;> simp [ov] at q⟩
theorem WH.notV {H : Hp} {w : Nat} {W : List (List Int)} (h : WH H w W) (hW : W ≠ []) : NotV H w := by
  obtain ⟨rs, h1, h2⟩ := h
  cases h2 with
  | nil => exact absurd rfl hW
  | cons hr _ => obtain ⟨b, rfl, _⟩ := hr; exact NotV.refs h1
theorem LI.kp {S : List Nat} {H H' : Hp} {a : Nat} {l : List Int} (h : LI H a l) (x : Kp S H H') (hS : ∀ s ∈ S, NotV H s) : LI H' a l := x a _ (fun q => (hS a q).1 l h) h
theorem MT.kp {S : List Nat} {H H' : Hp} {a : Nat} {M : Mt} (h : MT H a M) (x : Kp S H H') (hS : ∀ s ∈ S, NotV H s) : MT H' a M := x a _ (fun q => (hS a q).2 M h) h
theorem WH.kp {S : List Nat} {H H' : Hp} {w : Nat} {W : List (List Int)} (h : WH H w W) (x : Kp S H H') (hS : ∀ s ∈ S, NotV H s) (hw : w ∉ S) : WH H' w W := by
  obtain ⟨rs, h1, h2⟩ := h
  exact ⟨rs, x w _ hw h1, h2.mono fun _ _ ⟨b, e, q⟩ => ⟨b, e, q.kp x hS⟩⟩

/-- wishes whose rows lie behind c -/
noncomputable def WHf (c : Nat) (H : Hp) (w : Nat) (W : List (List Int)) : Prop := ∃ rs : List V, H[w]? = some (.list rs) ∧ All2 (fun r is => ∃ b, r = .ref b ∧ c ≤ b ∧ LI H b is) rs W
theorem WHf.wh {c : Nat} {H : Hp} {w : Nat} {W : List (List Int)} (h : WHf c H w W) : WH H w W := let ⟨rs, h1, h2⟩ := h; ⟨rs, h1, h2.mono fun _ _ ⟨b, e, _, q⟩ => ⟨b, e, q⟩⟩
theorem WHf.pre {c : Nat} {H H' : Hp} {a : Nat} {W : List (List Int)} (h : WHf c H a W) (hp : H <+: H') : WHf c H' a W :=
  let ⟨rs, h1, h2⟩ := h; ⟨rs, pre_get hp h1, h2.mono fun _ _ ⟨b, e, l, q⟩ => ⟨b, e, l, q.pre hp⟩⟩

theorem WHf.le {c c' : Nat} {H : Hp} {w : Nat} {W : List (List Int)} (h : WHf c H w W) (hc : c' ≤ c) : WHf c' H w W := let ⟨rs, h1, h2⟩ := h; ⟨rs, h1, h2.mono fun _ _ ⟨b, e, l, q⟩ => ⟨b, e, Nat.le_trans hc l, q⟩⟩
theorem WHf.kp {c : Nat} {S : List Nat} {H H' : Hp} {w : Nat} {W : List (List Int)} (h : WHf c H w W) (x : Kp S H H') (hS : ∀ s ∈ S, NotV H s) (hw : w ∉ S) : WHf c H' w W := by
  obtain ⟨rs, h1, h2⟩ := h
  exact ⟨rs, x w _ hw h1, h2.mono fun _ _ ⟨b, e, l, q⟩ => ⟨b, e, l, q.kp x hS⟩⟩
/-- only what lies ahead of c changes -/
theorem WHf.far {c r : Nat} {H : Hp} {w : Nat} {W : List (List Int)} (h : WHf c H w W) (hw : c ≤ w) (hr : r < c) (o : O) : WHf c (H.set r o) w W := by
  obtain ⟨rs, h1, h2⟩ := h
  exact ⟨rs, by rw [get_set_ne (by omega)]; exact h1, h2.mono fun _ _ ⟨b, e, l, q⟩ => ⟨b, e, l, by unfold LI; rw [get_set_ne (by omega)]; exact q⟩⟩

/-- none or mates -/
noncomputable def MV (H : Hp) (v : V) (o : Option Mt) : Prop := match o with
  | none => v = .none
  | some M => ∃ a, v = .ref a ∧ MT H a M
theorem MV.kp {S : List Nat} {H H' : Hp} {v : V} {o : Option Mt} (h : MV H v o) (x : Kp S H H') (hS : ∀ s ∈ S, NotV H s) : MV H' v o := by
  cases o with
  | none => exact h
  | some M => obtain ⟨a, e, q⟩ := h; exact ⟨a, e, q.kp x hS⟩
theorem MV.pre {H H' : Hp} {v : V} {o : Option Mt} (h : MV H v o) (hp : H <+: H') : MV H' v o := h.kp (S := []) (.pre hp) fun _ q => by cases q
theorem MV.eq {H : Hp} {v v' : V} {o : Option Mt} (h : MV H v o) (h' : MV H v' o) : eqD H v v' = some true := by
  cases o with
  | none => cases h; cases h'; exact eqD_nn H
  | some M => obtain ⟨a, rfl, q⟩ := h; obtain ⟨a', rfl, q'⟩ := h'; rw [q.eq q']; simp

/-- an inn -/
structure INN (H : Hp) (x d iw : Nat) (mv : V) : Prop where
  obj : H[x]? = some (.inst "Inn" d)
  names : H[d]? = some (.fdict [("wishes", .ref iw), ("mates", mv)])
theorem INN.wishes {H : Hp} {x d iw : Nat} {mv : V} (h : INN H x d iw mv) : attrV "wishes" (.ref x) H = some (.ref iw) := by
  unfold attrV; simp only [h.obj, h.names]; rfl
theorem INN.mates {H : Hp} {x d iw : Nat} {mv : V} (h : INN H x d iw mv) : attrV "mates" (.ref x) H = some mv := by
  unfold attrV; simp only [h.obj, h.names]; rfl
theorem INN.inst {H : Hp} {x d iw : Nat} {mv : V} (h : INN H x d iw mv) : oInst (.ref x) H = some (x, "Inn") := by
  unfold oInst; simp [h.obj, h.names]
theorem INN.kp {S : List Nat} {H H' : Hp} {x d iw : Nat} {mv : V} (h : INN H x d iw mv) (k : Kp S H H') (hx : x ∉ S) (hd : d ∉ S) : INN H' x d iw mv := ⟨k _ _ hx h.obj, k _ _ hd h.names⟩
theorem INN.pre {H H' : Hp} {x d iw : Nat} {mv : V} (h : INN H x d iw mv) (hp : H <+: H') : INN H' x d iw mv := ⟨pre_get hp h.obj, pre_get hp h.names⟩

noncomputable def firstC (W : List (List Int)) : Option Mt := (calmW W).head?

section
variable {P : Prog} {b : Bool} {n : Nat} {H : Hp} {Q : Post} {X : XP}

theorem s_twos {x d iw : Nat} {mv : V} {o : Option Mt} (hP : P.fn "Inn.twos" = some f_Inn_twos) (hI : INN H x d iw mv) (hm : MV H mv o) (h : ∀ H' v, H <+: H' → MV H' v o → (∀ a, v = .ref a → H.length ≤ a) → Q v H') : callN P b (n + 1) "Inn.twos" [.ref x] H Q X := by
  (refine callN_in hP rfl ?_; unfold f_Inn_twos)
  cases o with
  | none =>
    cases hm
    (repeat (first | dsimp only [XI, XJ] | dsimp only [ZA,ZB,ZC,ZD,ZE,ZF,ZG,ZH,ZI,ZJ,ZK,ZL,ZM,ZN,ZO,ZP,ZQ,ZR,ZS,ZT,ZU,ZV,ZW,ZX,ZY,ZZ,Za,Zb,Zc,Zd,Ze,Zf,Zg,Zh,Zi,Zj,Zk,Zl,Zm,Zn,Zo,Zp,Zq,Zr,Zs,Zt,Zu,Zv,Zw,Zx,Zy,Zz,YA,YB,YC,YD,YE,YF,YG,YH,YI,YJ,YK,YL,YM,YN,YO,YP,YQ,YR,Env.set,cond_true,cond_false,String.reduceBEq,YS,YT,YU,YV,YW,YX,YY,YZ,Ya,Yb,Yc,Yd,Ye,Yf] | simp only [Yg,Yh,true_and,Yi,Yj,Yk,Yl,Ym,Yn,Yo,Yp,Yq,Yr,Yt,Yu,Yv,Yw,Yx,Yy,Yz,XA,XB,XC,XD,XE,beq_self_eq_true,reduceIte,reduceCtorEq,↓reduceIte,XF,XG,XH, hI.mates]))
    exact h H .none (List.prefix_refl _) rfl (fun a e => by cases e)
  | some M =>
    obtain ⟨a, rfl, hM⟩ := hm
    (repeat (first | dsimp only [XI, XJ] | dsimp only [ZA,ZB,ZC,ZD,ZE,ZF,ZG,ZH,ZI,ZJ,ZK,ZL,ZM,ZN,ZO,ZP,ZQ,ZR,ZS,ZT,ZU,ZV,ZW,ZX,ZY,ZZ,Za,Zb,Zc,Zd,Ze,Zf,Zg,Zh,Zi,Zj,Zk,Zl,Zm,Zn,Zo,Zp,Zq,Zr,Zs,Zt,Zu,Zv,Zw,Zx,Zy,Zz,YA,YB,YC,YD,YE,YF,YG,YH,YI,YJ,YK,YL,YM,YN,YO,YP,YQ,YR,Env.set,cond_true,cond_false,String.reduceBEq,YS,YT,YU,YV,YW,YX,YY,YZ,Ya,Yb,Yc,Yd,Ye,Yf] | simp only [Yg,Yh,true_and,Yi,Yj,Yk,Yl,Ym,Yn,Yo,Yp,Yq,Yr,Yt,Yu,Yv,Yw,Yx,Yy,Yz,XA,XB,XC,XD,XE,beq_self_eq_true,reduceIte,reduceCtorEq,↓reduceIte,XF,XG,XH, hI.mates, show isSame (.ref a) .none = some false from rfl, seqOf_list hM]))
    exact h _ _ (pre_new _ _) ⟨_, rfl, get_new _ _⟩ (fun a e => by cases e; exact Nat.le_refl _)

theorem w_copyE {C : Ctx} {y : String} {src : E} {ρ : Env} {Q : Post} {X : XP} {w : Nat} {W : List (List Int)} (hs : ∀ (Q : Post), Q (.ref w) H → wE C src ρ H Q X) (hw : WH H w W) (h : ∀ H' r, H <+: H' → H.length ≤ r → WHf H.length H' r W → Q (.ref r) H') : wE C (.compS (.op .list [.var y]) (.one y) src []) ρ H Q X := by
  obtain ⟨rs, h1, h2⟩ := hw
  rw [e_compS]
  refine hs _ ?_
  (repeat (first | dsimp only [XI, XJ] | dsimp only [ZA,ZB,ZC,ZD,ZE,ZF,ZG,ZH,ZI,ZJ,ZK,ZL,ZM,ZN,ZO,ZP,ZQ,ZR,ZS,ZT,ZU,ZV,ZW,ZX,ZY,ZZ,Za,Zb,Zc,Zd,Ze,Zf,Zg,Zh,Zi,Zj,Zk,Zl,Zm,Zn,Zo,Zp,Zq,Zr,Zs,Zt,Zu,Zv,Zw,Zx,Zy,Zz,YA,YB,YC,YD,YE,YF,YG,YH,YI,YJ,YK,YL,YM,YN,YO,YP,YQ,YR,Env.set,cond_true,cond_false,String.reduceBEq,YS,YT,YU,YV,YW,YX,YY,YZ,Ya,Yb,Yc,Yd,Ye,Yf] | simp only [Yg,Yh,true_and,Yi,Yj,Yk,Yl,Ym,Yn,Yo,Yp,Yq,Yr,Yt,Yu,Yv,Yw,Yx,Yy,Yz,XA,XB,XC,XD,XE,beq_self_eq_true,reduceIte,reduceCtorEq,↓reduceIte,XF,XG,XH, seqOf_list h1]))
  have hkeep : ∀ H' : Hp, H <+: H' → H'[w]? = H[w]? := fun H' hp => by rw [h1]; exact pre_get hp h1
  refine wLoop_idx (fun i acc H' => H <+: H' ∧ All2 (fun r is => ∃ b, r = V.ref b ∧ H.length ≤ b ∧ LI H' b is) acc (W.take i)) ⟨List.prefix_refl _, by rw [List.take_zero]; exact .nil⟩ (fun i v acc H' hv hI => ⟨hkeep _ hI.1, fun k' k1 k2 => ?_⟩) fun acc H' hI => ⟨hkeep _ hI.1, ?_⟩
  · obtain ⟨hp, hA⟩ := hI
    obtain ⟨l, hl, b, rfl, hb⟩ := h2.get hv
    (repeat (first | dsimp only [XI, XJ] | dsimp only [ZA,ZB,ZC,ZD,ZE,ZF,ZG,ZH,ZI,ZJ,ZK,ZL,ZM,ZN,ZO,ZP,ZQ,ZR,ZS,ZT,ZU,ZV,ZW,ZX,ZY,ZZ,Za,Zb,Zc,Zd,Ze,Zf,Zg,Zh,Zi,Zj,Zk,Zl,Zm,Zn,Zo,Zp,Zq,Zr,Zs,Zt,Zu,Zv,Zw,Zx,Zy,Zz,YA,YB,YC,YD,YE,YF,YG,YH,YI,YJ,YK,YL,YM,YN,YO,YP,YQ,YR,Env.set,cond_true,cond_false,String.reduceBEq,YS,YT,YU,YV,YW,YX,YY,YZ,Ya,Yb,Yc,Yd,Ye,Yf] | simp only [Yg,Yh,true_and,Yi,Yj,Yk,Yl,Ym,Yn,Yo,Yp,Yq,Yr,Yt,Yu,Yv,Yw,Yx,Yy,Yz,XA,XB,XC,XD,XE,beq_self_eq_true,reduceIte,reduceCtorEq,↓reduceIte,XF,XG,XH, (hb.pre hp).seq]))
    refine k1 _ _ ⟨hp.trans (pre_new _ _), ?_⟩
    have : W.take (i + 1) = W.take i ++ [l] := by
      obtain ⟨hi, e⟩ := List.getElem?_eq_some_iff.mp hl
      rw [List.take_succ_eq_append_getElem hi, e]
    rw [this]
    exact (hA.mono fun _ _ ⟨b, e, l, q⟩ => ⟨b, e, l, q.pre (pre_new _ _)⟩).append (.cons ⟨_, rfl, hp.length_le, LI.new _ _⟩ .nil)
  · obtain ⟨hp, hA⟩ := hI
    have : W.take rs.length = W := by rw [h2.length]; exact List.take_length
    rw [this] at hA
    exact h _ _ (hp.trans (pre_new _ _)) hp.length_le ⟨acc, get_new _ _, hA.mono fun _ _ ⟨b, e, l, q⟩ => ⟨b, e, l, q.pre (pre_new _ _)⟩⟩

theorem s_table {x d iw : Nat} {mv : V} {W : List (List Int)} (hP : P.fn "Inn.table" = some f_Inn_table) (hI : INN H x d iw mv) (hw : WH H iw W) (h : ∀ H' r, H <+: H' → H.length ≤ r → WHf H.length H' r W → Q (.ref r) H') : callN P b (n + 1) "Inn.table" [.ref x] H Q X := by
  (refine callN_in hP rfl ?_; unfold f_Inn_table)
  refine wSs_cons ?_
  rw [s_ret]
  refine w_copyE (w := iw) (fun Q hq => ?_) hw fun H' r hp hl hW => ?_
  · (repeat (first | dsimp only [XI, XJ] | dsimp only [ZA,ZB,ZC,ZD,ZE,ZF,ZG,ZH,ZI,ZJ,ZK,ZL,ZM,ZN,ZO,ZP,ZQ,ZR,ZS,ZT,ZU,ZV,ZW,ZX,ZY,ZZ,Za,Zb,Zc,Zd,Ze,Zf,Zg,Zh,Zi,Zj,Zk,Zl,Zm,Zn,Zo,Zp,Zq,Zr,Zs,Zt,Zu,Zv,Zw,Zx,Zy,Zz,YA,YB,YC,YD,YE,YF,YG,YH,YI,YJ,YK,YL,YM,YN,YO,YP,YQ,YR,Env.set,cond_true,cond_false,String.reduceBEq,YS,YT,YU,YV,YW,YX,YY,YZ,Ya,Yb,Yc,Yd,Ye,Yf] | simp only [Yg,Yh,true_and,Yi,Yj,Yk,Yl,Ym,Yn,Yo,Yp,Yq,Yr,Yt,Yu,Yv,Yw,Yx,Yy,Yz,XA,XB,XC,XD,XE,beq_self_eq_true,reduceIte,reduceCtorEq,↓reduceIte,XF,XG,XH, hI.wishes])); exact hq
  · (repeat (first | dsimp only [XI, XJ] | dsimp only [ZA,ZB,ZC,ZD,ZE,ZF,ZG,ZH,ZI,ZJ,ZK,ZL,ZM,ZN,ZO,ZP,ZQ,ZR,ZS,ZT,ZU,ZV,ZW,ZX,ZY,ZZ,Za,Zb,Zc,Zd,Ze,Zf,Zg,Zh,Zi,Zj,Zk,Zl,Zm,Zn,Zo,Zp,Zq,Zr,Zs,Zt,Zu,Zv,Zw,Zx,Zy,Zz,YA,YB,YC,YD,YE,YF,YG,YH,YI,YJ,YK,YL,YM,YN,YO,YP,YQ,YR,Env.set,cond_true,cond_false,String.reduceBEq,YS,YT,YU,YV,YW,YX,YY,YZ,Ya,Yb,Yc,Yd,Ye,Yf] | simp only [Yg,Yh,true_and,Yi,Yj,Yk,Yl,Ym,Yn,Yo,Yp,Yq,Yr,Yt,Yu,Yv,Yw,Yx,Yy,Yz,XA,XB,XC,XD,XE,beq_self_eq_true,reduceIte,reduceCtorEq,↓reduceIte,XF,XG,XH])); exact h H' r hp hl hW

theorem s_first_calm (hP9 : P.fn "first_calm" = some f_first_calm) (hP : P.fn "all_calm" = some f_all_calm) (hP0 : P.fn "all_twos" = some f_all_twos) (hP1 : P.fn "need_wishes" = some f_need_wishes) (hP4 : P.fn "is_row" = some f_is_row) (hP5 : P.fn "is_guest" = some f_is_guest) (hP6 : P.fn "both_wish" = some f_both_wish) (hP7 : P.fn "settled" = some f_settled) (hG : P.glob "MOST_GUESTS" = some (.int 6))
    (hP3 : P.fn "found_restless" = some f_found_restless) (hP8 : P.fn "sooner" = some f_sooner) {w : Nat} {W : List (List Int)} (hw : WH H w W) (ok : WOk W) (h : ∀ H' v, H <+: H' → MV H' v (firstC W) → (∀ a, v = .ref a → H.length ≤ a) → Q v H') : callN P b (n + 11) "first_calm" [.ref w] H Q X := by
  (refine callN_in hP9 rfl ?_; unfold f_first_calm)
  (repeat (first | dsimp only [XI, XJ] | dsimp only [ZA,ZB,ZC,ZD,ZE,ZF,ZG,ZH,ZI,ZJ,ZK,ZL,ZM,ZN,ZO,ZP,ZQ,ZR,ZS,ZT,ZU,ZV,ZW,ZX,ZY,ZZ,Za,Zb,Zc,Zd,Ze,Zf,Zg,Zh,Zi,Zj,Zk,Zl,Zm,Zn,Zo,Zp,Zq,Zr,Zs,Zt,Zu,Zv,Zw,Zx,Zy,Zz,YA,YB,YC,YD,YE,YF,YG,YH,YI,YJ,YK,YL,YM,YN,YO,YP,YQ,YR,Env.set,cond_true,cond_false,String.reduceBEq,YS,YT,YU,YV,YW,YX,YY,YZ,Ya,Yb,Yc,Yd,Ye,Yf] | simp only [Yg,Yh,true_and,Yi,Yj,Yk,Yl,Ym,Yn,Yo,Yp,Yq,Yr,Yt,Yu,Yv,Yw,Yx,Yy,Yz,XA,XB,XC,XD,XE,beq_self_eq_true,reduceIte,reduceCtorEq,↓reduceIte,XF,XG,XH]))
  refine s_all_calm hP hP0 hP1 hP4 hP5 hP6 hP7 hG hP3 hP8 hw ok fun H1 r hp1 hml => ?_
  unfold firstC at h
  cases e : calmW W with
  | nil =>
    rw [e] at hml h
    (repeat (first | dsimp only [XI, XJ] | dsimp only [ZA,ZB,ZC,ZD,ZE,ZF,ZG,ZH,ZI,ZJ,ZK,ZL,ZM,ZN,ZO,ZP,ZQ,ZR,ZS,ZT,ZU,ZV,ZW,ZX,ZY,ZZ,Za,Zb,Zc,Zd,Ze,Zf,Zg,Zh,Zi,Zj,Zk,Zl,Zm,Zn,Zo,Zp,Zq,Zr,Zs,Zt,Zu,Zv,Zw,Zx,Zy,Zz,YA,YB,YC,YD,YE,YF,YG,YH,YI,YJ,YK,YL,YM,YN,YO,YP,YQ,YR,Env.set,cond_true,cond_false,String.reduceBEq,YS,YT,YU,YV,YW,YX,YY,YZ,Ya,Yb,Yc,Yd,Ye,Yf] | simp only [Yg,Yh,true_and,Yi,Yj,Yk,Yl,Ym,Yn,Yo,Yp,Yq,Yr,Yt,Yu,Yv,Yw,Yx,Yy,Yz,XA,XB,XC,XD,XE,beq_self_eq_true,reduceIte,reduceCtorEq,↓reduceIte,XF,XG,XH, hml.len, show (((0 : Nat) : Int) == 0) = true from rfl]))
    exact h H1 .none hp1 rfl (fun a q => by cases q)
  | cons M Ms =>
    rw [e] at hml h
    obtain ⟨hc, fs, f1, f2⟩ := id hml
    obtain ⟨v, hv, a, rfl, a1, a2, a3, a4⟩ := f2.get' (show (M :: Ms)[0]? = some M from rfl)
    have it : itemV (.ref r) (.int 0) H1 = some (.ref a) := item_seq (i := 0) (seqOf_list f1) hv
    have e0 : ((((M :: Ms).length : Nat) : Int) == 0) = false := beq_eq_false_iff_ne.mpr (by simp only [List.length_cons]; omega)
    (repeat (first | dsimp only [XI, XJ] | dsimp only [ZA,ZB,ZC,ZD,ZE,ZF,ZG,ZH,ZI,ZJ,ZK,ZL,ZM,ZN,ZO,ZP,ZQ,ZR,ZS,ZT,ZU,ZV,ZW,ZX,ZY,ZZ,Za,Zb,Zc,Zd,Ze,Zf,Zg,Zh,Zi,Zj,Zk,Zl,Zm,Zn,Zo,Zp,Zq,Zr,Zs,Zt,Zu,Zv,Zw,Zx,Zy,Zz,YA,YB,YC,YD,YE,YF,YG,YH,YI,YJ,YK,YL,YM,YN,YO,YP,YQ,YR,Env.set,cond_true,cond_false,String.reduceBEq,YS,YT,YU,YV,YW,YX,YY,YZ,Ya,Yb,Yc,Yd,Ye,Yf] | simp only [Yg,Yh,true_and,Yi,Yj,Yk,Yl,Ym,Yn,Yo,Yp,Yq,Yr,Yt,Yu,Yv,Yw,Yx,Yy,Yz,XA,XB,XC,XD,XE,beq_self_eq_true,reduceIte,reduceCtorEq,↓reduceIte,XF,XG,XH, hml.len]))
    simp only [List.length_cons] at e0
    (repeat (first | dsimp only [XI, XJ] | dsimp only [ZA,ZB,ZC,ZD,ZE,ZF,ZG,ZH,ZI,ZJ,ZK,ZL,ZM,ZN,ZO,ZP,ZQ,ZR,ZS,ZT,ZU,ZV,ZW,ZX,ZY,ZZ,Za,Zb,Zc,Zd,Ze,Zf,Zg,Zh,Zi,Zj,Zk,Zl,Zm,Zn,Zo,Zp,Zq,Zr,Zs,Zt,Zu,Zv,Zw,Zx,Zy,Zz,YA,YB,YC,YD,YE,YF,YG,YH,YI,YJ,YK,YL,YM,YN,YO,YP,YQ,YR,Env.set,cond_true,cond_false,String.reduceBEq,YS,YT,YU,YV,YW,YX,YY,YZ,Ya,Yb,Yc,Yd,Ye,Yf] | simp only [Yg,Yh,true_and,Yi,Yj,Yk,Yl,Ym,Yn,Yo,Yp,Yq,Yr,Yt,Yu,Yv,Yw,Yx,Yy,Yz,XA,XB,XC,XD,XE,beq_self_eq_true,reduceIte,reduceCtorEq,↓reduceIte,XF,XG,XH, e0, it]))
    exact h H1 _ hp1 ⟨a, rfl, a4⟩ (fun a' q => by cases q; exact a1)

theorem s_law_first10 (hP9 : P.fn "_law_first" = some f__law_first_10) (hP : P.fn "all_calm" = some f_all_calm) (hP0 : P.fn "all_twos" = some f_all_twos) (hP1 : P.fn "need_wishes" = some f_need_wishes) (hP4 : P.fn "is_row" = some f_is_row) (hP5 : P.fn "is_guest" = some f_is_guest) (hP6 : P.fn "both_wish" = some f_both_wish) (hP7 : P.fn "settled" = some f_settled) (hG : P.glob "MOST_GUESTS" = some (.int 6))
    (hP3 : P.fn "found_restless" = some f_found_restless) (hP8 : P.fn "sooner" = some f_sooner) {w : Nat} {W : List (List Int)} (hw : WH H w W) (ok : WOk W) (h : ∀ H' v, H <+: H' → MV H' v (firstC W) → (∀ a, v = .ref a → H.length ≤ a) → Q v H') : callN P b (n + 11) "_law_first" [.ref w] H Q X := by
  (refine callN_in hP9 rfl ?_; unfold f__law_first_10)
  rw [show E.compS (.op .list [.var "_law_row"]) (.one "_law_row") (.var "_law_wishes") [] = copyE "_law_wishes" "_law_row" from rfl]
  (repeat (first | dsimp only [XI, XJ] | dsimp only [ZA,ZB,ZC,ZD,ZE,ZF,ZG,ZH,ZI,ZJ,ZK,ZL,ZM,ZN,ZO,ZP,ZQ,ZR,ZS,ZT,ZU,ZV,ZW,ZX,ZY,ZZ,Za,Zb,Zc,Zd,Ze,Zf,Zg,Zh,Zi,Zj,Zk,Zl,Zm,Zn,Zo,Zp,Zq,Zr,Zs,Zt,Zu,Zv,Zw,Zx,Zy,Zz,YA,YB,YC,YD,YE,YF,YG,YH,YI,YJ,YK,YL,YM,YN,YO,YP,YQ,YR,Env.set,cond_true,cond_false,String.reduceBEq,YS,YT,YU,YV,YW,YX,YY,YZ,Ya,Yb,Yc,Yd,Ye,Yf] | simp only [Yg,Yh,true_and,Yi,Yj,Yk,Yl,Ym,Yn,Yo,Yp,Yq,Yr,Yt,Yu,Yv,Yw,Yx,Yy,Yz,XA,XB,XC,XD,XE,beq_self_eq_true,reduceIte,reduceCtorEq,↓reduceIte,XF,XG,XH]))
  refine w_copy2 rfl hw fun H0 w' hp0 _ hw' => ?_
  (repeat (first | dsimp only [XI, XJ] | dsimp only [ZA,ZB,ZC,ZD,ZE,ZF,ZG,ZH,ZI,ZJ,ZK,ZL,ZM,ZN,ZO,ZP,ZQ,ZR,ZS,ZT,ZU,ZV,ZW,ZX,ZY,ZZ,Za,Zb,Zc,Zd,Ze,Zf,Zg,Zh,Zi,Zj,Zk,Zl,Zm,Zn,Zo,Zp,Zq,Zr,Zs,Zt,Zu,Zv,Zw,Zx,Zy,Zz,YA,YB,YC,YD,YE,YF,YG,YH,YI,YJ,YK,YL,YM,YN,YO,YP,YQ,YR,Env.set,cond_true,cond_false,String.reduceBEq,YS,YT,YU,YV,YW,YX,YY,YZ,Ya,Yb,Yc,Yd,Ye,Yf] | simp only [Yg,Yh,true_and,Yi,Yj,Yk,Yl,Ym,Yn,Yo,Yp,Yq,Yr,Yt,Yu,Yv,Yw,Yx,Yy,Yz,XA,XB,XC,XD,XE,beq_self_eq_true,reduceIte,reduceCtorEq,↓reduceIte,XF,XG,XH]))
  refine s_all_calm hP hP0 hP1 hP4 hP5 hP6 hP7 hG hP3 hP8 hw' ok fun H1 r hp1 hml => ?_
  have hl := hp0.length_le
  unfold firstC at h
  cases e : calmW W with
  | nil =>
    rw [e] at hml h
    (repeat (first | dsimp only [XI, XJ] | dsimp only [ZA,ZB,ZC,ZD,ZE,ZF,ZG,ZH,ZI,ZJ,ZK,ZL,ZM,ZN,ZO,ZP,ZQ,ZR,ZS,ZT,ZU,ZV,ZW,ZX,ZY,ZZ,Za,Zb,Zc,Zd,Ze,Zf,Zg,Zh,Zi,Zj,Zk,Zl,Zm,Zn,Zo,Zp,Zq,Zr,Zs,Zt,Zu,Zv,Zw,Zx,Zy,Zz,YA,YB,YC,YD,YE,YF,YG,YH,YI,YJ,YK,YL,YM,YN,YO,YP,YQ,YR,Env.set,cond_true,cond_false,String.reduceBEq,YS,YT,YU,YV,YW,YX,YY,YZ,Ya,Yb,Yc,Yd,Ye,Yf] | simp only [Yg,Yh,true_and,Yi,Yj,Yk,Yl,Ym,Yn,Yo,Yp,Yq,Yr,Yt,Yu,Yv,Yw,Yx,Yy,Yz,XA,XB,XC,XD,XE,beq_self_eq_true,reduceIte,reduceCtorEq,↓reduceIte,XF,XG,XH, hml.len, show (((0 : Nat) : Int) == 0) = true from rfl]))
    exact h H1 .none (hp0.trans hp1) rfl (fun a q => by cases q)
  | cons M Ms =>
    rw [e] at hml h
    obtain ⟨hc, fs, f1, f2⟩ := id hml
    obtain ⟨v, hv, a, rfl, a1, a2, a3, a4⟩ := f2.get' (show (M :: Ms)[0]? = some M from rfl)
    have it : itemV (.ref r) (.int 0) H1 = some (.ref a) := item_seq (i := 0) (seqOf_list f1) hv
    have e0 : ((((M :: Ms).length : Nat) : Int) == 0) = false := beq_eq_false_iff_ne.mpr (by simp only [List.length_cons]; omega)
    (repeat (first | dsimp only [XI, XJ] | dsimp only [ZA,ZB,ZC,ZD,ZE,ZF,ZG,ZH,ZI,ZJ,ZK,ZL,ZM,ZN,ZO,ZP,ZQ,ZR,ZS,ZT,ZU,ZV,ZW,ZX,ZY,ZZ,Za,Zb,Zc,Zd,Ze,Zf,Zg,Zh,Zi,Zj,Zk,Zl,Zm,Zn,Zo,Zp,Zq,Zr,Zs,Zt,Zu,Zv,Zw,Zx,Zy,Zz,YA,YB,YC,YD,YE,YF,YG,YH,YI,YJ,YK,YL,YM,YN,YO,YP,YQ,YR,Env.set,cond_true,cond_false,String.reduceBEq,YS,YT,YU,YV,YW,YX,YY,YZ,Ya,Yb,Yc,Yd,Ye,Yf] | simp only [Yg,Yh,true_and,Yi,Yj,Yk,Yl,Ym,Yn,Yo,Yp,Yq,Yr,Yt,Yu,Yv,Yw,Yx,Yy,Yz,XA,XB,XC,XD,XE,beq_self_eq_true,reduceIte,reduceCtorEq,↓reduceIte,XF,XG,XH, hml.len]))
    simp only [List.length_cons] at e0
    (repeat (first | dsimp only [XI, XJ] | dsimp only [ZA,ZB,ZC,ZD,ZE,ZF,ZG,ZH,ZI,ZJ,ZK,ZL,ZM,ZN,ZO,ZP,ZQ,ZR,ZS,ZT,ZU,ZV,ZW,ZX,ZY,ZZ,Za,Zb,Zc,Zd,Ze,Zf,Zg,Zh,Zi,Zj,Zk,Zl,Zm,Zn,Zo,Zp,Zq,Zr,Zs,Zt,Zu,Zv,Zw,Zx,Zy,Zz,YA,YB,YC,YD,YE,YF,YG,YH,YI,YJ,YK,YL,YM,YN,YO,YP,YQ,YR,Env.set,cond_true,cond_false,String.reduceBEq,YS,YT,YU,YV,YW,YX,YY,YZ,Ya,Yb,Yc,Yd,Ye,Yf] | simp only [Yg,Yh,true_and,Yi,Yj,Yk,Yl,Ym,Yn,Yo,Yp,Yq,Yr,Yt,Yu,Yv,Yw,Yx,Yy,Yz,XA,XB,XC,XD,XE,beq_self_eq_true,reduceIte,reduceCtorEq,↓reduceIte,XF,XG,XH, e0, it]))
    exact h H1 _ (hp0.trans hp1) ⟨a, rfl, a4⟩ (fun a' q => by cases q; omega)

theorem s_init (hPi : P.fn "Inn.__init__" = some f_Inn___init__) (hP9 : P.fn "first_calm" = some f_first_calm) (hP : P.fn "all_calm" = some f_all_calm) (hP0 : P.fn "all_twos" = some f_all_twos) (hP1 : P.fn "need_wishes" = some f_need_wishes) (hP4 : P.fn "is_row" = some f_is_row) (hP5 : P.fn "is_guest" = some f_is_guest) (hP6 : P.fn "both_wish" = some f_both_wish) (hP7 : P.fn "settled" = some f_settled) (hG : P.glob "MOST_GUESTS" = some (.int 6))
    (hP3 : P.fn "found_restless" = some f_found_restless) (hP8 : P.fn "sooner" = some f_sooner) {x d h' : Nat} {W : List (List Int)} (hx : H[x]? = some (.inst "Inn" d)) (hd : H[d]? = some (.fdict [])) (hw : WH H h' W) (ok : WOk W)
    (h : ∀ H' iw mv, Kp [d] H H' → INN H' x d iw mv → H.length ≤ iw → WHf H.length H' iw W → MV H' mv (firstC W) → (∀ a, mv = .ref a → H.length ≤ a) → Q .none H') : callN P b (n + 12) "Inn.__init__" [.ref x, .ref h'] H Q X := by
  (refine callN_in hPi rfl ?_; unfold f_Inn___init__)
  refine wSs_step fun K hn hr => ?_
  (repeat (first | dsimp only [XI, XJ] | dsimp only [ZA,ZB,ZC,ZD,ZE,ZF,ZG,ZH,ZI,ZJ,ZK,ZL,ZM,ZN,ZO,ZP,ZQ,ZR,ZS,ZT,ZU,ZV,ZW,ZX,ZY,ZZ,Za,Zb,Zc,Zd,Ze,Zf,Zg,Zh,Zi,Zj,Zk,Zl,Zm,Zn,Zo,Zp,Zq,Zr,Zs,Zt,Zu,Zv,Zw,Zx,Zy,Zz,YA,YB,YC,YD,YE,YF,YG,YH,YI,YJ,YK,YL,YM,YN,YO,YP,YQ,YR,Env.set,cond_true,cond_false,String.reduceBEq,YS,YT,YU,YV,YW,YX,YY,YZ,Ya,Yb,Yc,Yd,Ye,Yf] | simp only [Yg,Yh,true_and,Yi,Yj,Yk,Yl,Ym,Yn,Yo,Yp,Yq,Yr,Yt,Yu,Yv,Yw,Yx,Yy,Yz,XA,XB,XC,XD,XE,beq_self_eq_true,reduceIte,reduceCtorEq,↓reduceIte,XF,XG,XH]))
  refine s_need_wishes (n := n + 8) hP1 hP4 hP5 hG hw ok fun H1 hp1 => ?_
  refine hn _ _ ?_
  clear hn hr K
  refine wSs_step fun K hn hr => ?_
  rw [s_setAttr]
  refine w_copyE (w := h') (fun Q hq => ?_) (hw.pre hp1) fun H2 iw hp2 hl2 hW2f => ?_
  · (repeat (first | dsimp only [XI, XJ] | dsimp only [ZA,ZB,ZC,ZD,ZE,ZF,ZG,ZH,ZI,ZJ,ZK,ZL,ZM,ZN,ZO,ZP,ZQ,ZR,ZS,ZT,ZU,ZV,ZW,ZX,ZY,ZZ,Za,Zb,Zc,Zd,Ze,Zf,Zg,Zh,Zi,Zj,Zk,Zl,Zm,Zn,Zo,Zp,Zq,Zr,Zs,Zt,Zu,Zv,Zw,Zx,Zy,Zz,YA,YB,YC,YD,YE,YF,YG,YH,YI,YJ,YK,YL,YM,YN,YO,YP,YQ,YR,Env.set,cond_true,cond_false,String.reduceBEq,YS,YT,YU,YV,YW,YX,YY,YZ,Ya,Yb,Yc,Yd,Ye,Yf] | simp only [Yg,Yh,true_and,Yi,Yj,Yk,Yl,Ym,Yn,Yo,Yp,Yq,Yr,Yt,Yu,Yv,Yw,Yx,Yy,Yz,XA,XB,XC,XD,XE,beq_self_eq_true,reduceIte,reduceCtorEq,↓reduceIte,XF,XG,XH])); exact hq
  have hW2 := hW2f.wh
  have hW2g : WHf H.length H2 iw W := hW2f.le hp1.length_le
  have hx2 := pre_get (hp1.trans hp2) hx
  have hd2 := pre_get (hp1.trans hp2) hd
  have s1 : setAttrV (.ref x) "wishes" (.ref iw) H2 = some (H2.set d (.fdict [("wishes", .ref iw)])) := by unfold setAttrV; simp only [hx2, hd2]; rfl
  have hxd : x ≠ d := by rintro rfl; rw [hx] at hd; cases hd
  (repeat (first | dsimp only [XI, XJ] | dsimp only [ZA,ZB,ZC,ZD,ZE,ZF,ZG,ZH,ZI,ZJ,ZK,ZL,ZM,ZN,ZO,ZP,ZQ,ZR,ZS,ZT,ZU,ZV,ZW,ZX,ZY,ZZ,Za,Zb,Zc,Zd,Ze,Zf,Zg,Zh,Zi,Zj,Zk,Zl,Zm,Zn,Zo,Zp,Zq,Zr,Zs,Zt,Zu,Zv,Zw,Zx,Zy,Zz,YA,YB,YC,YD,YE,YF,YG,YH,YI,YJ,YK,YL,YM,YN,YO,YP,YQ,YR,Env.set,cond_true,cond_false,String.reduceBEq,YS,YT,YU,YV,YW,YX,YY,YZ,Ya,Yb,Yc,Yd,Ye,Yf] | simp only [Yg,Yh,true_and,Yi,Yj,Yk,Yl,Ym,Yn,Yo,Yp,Yq,Yr,Yt,Yu,Yv,Yw,Yx,Yy,Yz,XA,XB,XC,XD,XE,beq_self_eq_true,reduceIte,reduceCtorEq,↓reduceIte,XF,XG,XH, s1]))
  refine hn _ _ ?_
  clear hn hr K
  have nv : ∀ s ∈ [d], NotV H2 s := fun s hs => by cases List.mem_singleton.mp hs; exact NotV.of hd2 (fun _ q => by cases q)
  have k3 : Kp [d] H2 (H2.set d (.fdict [("wishes", .ref iw)])) := Kp.set (.head _) _
  have hd3 : (H2.set d (.fdict [("wishes", .ref iw)]))[d]? = some (.fdict [("wishes", .ref iw)]) := get_set_eq hd2 _
  have hl3 : (H2.set d (.fdict [("wishes", .ref iw)])).length = H2.length := List.length_set ..
  have hiwd : iw ≠ d := by
    have := (List.getElem?_eq_some_iff.mp (pre_get hp1 hd)).1
    omega
  have hW3f := hW2g.kp k3 nv (fun q => hiwd (List.mem_singleton.mp q))
  have hW3 := hW2.kp k3 nv (fun q => hiwd (List.mem_singleton.mp q))
  have hx3 := k3 x _ (fun q => hxd (List.mem_singleton.mp q)) hx2
  generalize H2.set d (.fdict [("wishes", .ref iw)]) = H3 at k3 hd3 hl3 hW3 hW3f hx3
  refine wSs_step fun K hn hr => ?_
  have at1 : attrV "wishes" (.ref x) H3 = some (.ref iw) := by unfold attrV; simp only [hx3, hd3]; rfl
  rw [s_setAttr]
  (repeat (first | dsimp only [XI, XJ] | dsimp only [ZA,ZB,ZC,ZD,ZE,ZF,ZG,ZH,ZI,ZJ,ZK,ZL,ZM,ZN,ZO,ZP,ZQ,ZR,ZS,ZT,ZU,ZV,ZW,ZX,ZY,ZZ,Za,Zb,Zc,Zd,Ze,Zf,Zg,Zh,Zi,Zj,Zk,Zl,Zm,Zn,Zo,Zp,Zq,Zr,Zs,Zt,Zu,Zv,Zw,Zx,Zy,Zz,YA,YB,YC,YD,YE,YF,YG,YH,YI,YJ,YK,YL,YM,YN,YO,YP,YQ,YR,Env.set,cond_true,cond_false,String.reduceBEq,YS,YT,YU,YV,YW,YX,YY,YZ,Ya,Yb,Yc,Yd,Ye,Yf] | simp only [Yg,Yh,true_and,Yi,Yj,Yk,Yl,Ym,Yn,Yo,Yp,Yq,Yr,Yt,Yu,Yv,Yw,Yx,Yy,Yz,XA,XB,XC,XD,XE,beq_self_eq_true,reduceIte,reduceCtorEq,↓reduceIte,XF,XG,XH, at1]))
  refine s_first_calm (n := n) hP9 hP hP0 hP1 hP4 hP5 hP6 hP7 hG hP3 hP8 hW3 ok fun H4 mv hp4 hmv hge => ?_
  have hx4 := pre_get hp4 hx3
  have hd4 := pre_get hp4 hd3
  have s2 : setAttrV (.ref x) "mates" mv H4 = some (H4.set d (.fdict [("wishes", .ref iw), ("mates", mv)])) := by unfold setAttrV; simp only [hx4, hd4]; rfl
  (repeat (first | dsimp only [XI, XJ] | dsimp only [ZA,ZB,ZC,ZD,ZE,ZF,ZG,ZH,ZI,ZJ,ZK,ZL,ZM,ZN,ZO,ZP,ZQ,ZR,ZS,ZT,ZU,ZV,ZW,ZX,ZY,ZZ,Za,Zb,Zc,Zd,Ze,Zf,Zg,Zh,Zi,Zj,Zk,Zl,Zm,Zn,Zo,Zp,Zq,Zr,Zs,Zt,Zu,Zv,Zw,Zx,Zy,Zz,YA,YB,YC,YD,YE,YF,YG,YH,YI,YJ,YK,YL,YM,YN,YO,YP,YQ,YR,Env.set,cond_true,cond_false,String.reduceBEq,YS,YT,YU,YV,YW,YX,YY,YZ,Ya,Yb,Yc,Yd,Ye,Yf] | simp only [Yg,Yh,true_and,Yi,Yj,Yk,Yl,Ym,Yn,Yo,Yp,Yq,Yr,Yt,Yu,Yv,Yw,Yx,Yy,Yz,XA,XB,XC,XD,XE,beq_self_eq_true,reduceIte,reduceCtorEq,↓reduceIte,XF,XG,XH, s2]))
  refine hn _ _ ?_
  (repeat (first | dsimp only [XI, XJ] | dsimp only [ZA,ZB,ZC,ZD,ZE,ZF,ZG,ZH,ZI,ZJ,ZK,ZL,ZM,ZN,ZO,ZP,ZQ,ZR,ZS,ZT,ZU,ZV,ZW,ZX,ZY,ZZ,Za,Zb,Zc,Zd,Ze,Zf,Zg,Zh,Zi,Zj,Zk,Zl,Zm,Zn,Zo,Zp,Zq,Zr,Zs,Zt,Zu,Zv,Zw,Zx,Zy,Zz,YA,YB,YC,YD,YE,YF,YG,YH,YI,YJ,YK,YL,YM,YN,YO,YP,YQ,YR,Env.set,cond_true,cond_false,String.reduceBEq,YS,YT,YU,YV,YW,YX,YY,YZ,Ya,Yb,Yc,Yd,Ye,Yf] | simp only [Yg,Yh,true_and,Yi,Yj,Yk,Yl,Ym,Yn,Yo,Yp,Yq,Yr,Yt,Yu,Yv,Yw,Yx,Yy,Yz,XA,XB,XC,XD,XE,beq_self_eq_true,reduceIte,reduceCtorEq,↓reduceIte,XF,XG,XH]))
  have nv4 : ∀ s ∈ [d], NotV H4 s := fun s hs => by cases List.mem_singleton.mp hs; exact NotV.of hd4 (fun _ q => by cases q)
  have k5 : Kp [d] H4 (H4.set d (.fdict [("wishes", .ref iw), ("mates", mv)])) := Kp.set (.head _) _
  have l1 := hp1.length_le
  have l2 := hp2.length_le
  exact h _ iw mv (((Kp.pre (hp1.trans hp2)).trans k3).trans ((Kp.pre hp4).trans k5)) ⟨k5 x _ (fun q => hxd (List.mem_singleton.mp q)) hx4, get_set_eq hd4 _⟩ (by omega) ((hW3f.pre hp4).kp k5 nv4 (fun q => hiwd (List.mem_singleton.mp q))) (hmv.kp k5 nv4) (fun a q => by have := hge a q; omega)
end
end Mine

namespace Mine
open PySem

noncomputable def pairB (W : List (List Int)) (M : Mt) (i : Nat) : Bool := match M.getD i none with
  | none => true
  | some j => both W i j
noncomputable def bothTo (W : List (List Int)) (M : Mt) (i : Nat) : Bool := (List.range i).all (pairB W M)
theorem bothTo_succ (W : List (List Int)) (M : Mt) (i : Nat) : bothTo W M (i + 1) = (bothTo W M i && pairB W M i) := by
  unfold bothTo; rw [List.range_succ, List.all_append]; simp
theorem bothTo_le {W : List (List Int)} {M : Mt} {i k : Nat} (h : bothTo W M k = true) (hi : i < k) : pairB W M i = true := by
  unfold bothTo at h; exact List.all_eq_true.mp h i (List.mem_range.mpr hi)
/-- the mates are still calm ones -/
noncomputable def stayB (W : List (List Int)) (M : Mt) : Bool := bothTo W M M.length && ((restP W M).length == 0)

/-- two by two -/
structure MInv (n : Nat) (M : Mt) : Prop where
  len : M.length = n
  two : ∀ i j, M.getD i none = some j → j < n ∧ M.getD j none = some i
theorem MOk.inv {W : List (List Int)} {M : Mt} (h : MOk W M) : MInv W.length M := ⟨h.len, fun i j e => ⟨(h.two i j e).1, (h.two i j e).2.1⟩⟩
theorem MInv.ok {W : List (List Int)} {M : Mt} (h : MInv W.length M) (hb : bothTo W M M.length = true) : MOk W M := ⟨h.len, fun i j e => ⟨(h.two i j e).1, (h.two i j e).2, by
  have hi : i < M.length := by
    cases Nat.lt_or_ge i M.length with
    | inl q => exact q
    | inr q => rw [List.getD_eq_getElem?_getD, List.getElem?_eq_none q] at e; cases e
  have := bothTo_le hb hi
  unfold pairB at this; rw [e] at this; exact this⟩⟩

/-- the mates after a turn -/
noncomputable def nextM (W : List (List Int)) : Option Mt → Option Mt
  | none => firstC W
  | some M => if stayB W M then some M else firstC W
/-- none, or calm mates -/
noncomputable def GM (W : List (List Int)) (o : Option Mt) : Prop := ∀ M, o = some M → MOk W M ∧ restP W M = []
theorem GM.first (W : List (List Int)) : GM W (firstC W) := fun M e => calmW_mem (by
  unfold firstC at e
  exact List.mem_of_mem_head? (by rw [e]; exact rfl))
theorem GM.next {W : List (List Int)} {o : Option Mt} (h : ∀ M, o = some M → MInv W.length M) : GM W (nextM W o) := by
  cases o with
  | none => exact GM.first W
  | some M =>
    unfold nextM
    simp only
    split
    · rename_i e
      intro M' e'
      cases e'
      unfold stayB at e
      rw [Bool.and_eq_true] at e
      exact ⟨(h M rfl).ok e.1, List.length_eq_zero_iff.mp (by simpa using e.2)⟩
    · exact GM.first W

section
variable {P : Prog} {b : Bool} {n : Nat} {H : Hp} {Q : Post} {X : XP}

theorem s_stay (hP : P.fn "stay" = some f_stay) (hP3 : P.fn "found_restless" = some f_found_restless) (hP6 : P.fn "both_wish" = some f_both_wish) (hP7 : P.fn "sooner" = some f_sooner) {w a : Nat} {W : List (List Int)} {M : Mt} (hw : WH H w W) (ok : WOk W) (hm : MT H a M) (hi : MInv W.length M)
    (h : ∀ H', H <+: H' → Q (.bool (stayB W M)) H') : callN P b (n + 4) "stay" [.ref w, .ref a] H Q X := by
  have hlm : M.length ≤ lim := by rw [hi.len]; exact Nat.le_trans ok.le (by decide)
  have mlen := hi.len
  (refine callN_in hP rfl ?_; unfold f_stay)
  (repeat (first | dsimp only [XI, XJ] | dsimp only [ZA,ZB,ZC,ZD,ZE,ZF,ZG,ZH,ZI,ZJ,ZK,ZL,ZM,ZN,ZO,ZP,ZQ,ZR,ZS,ZT,ZU,ZV,ZW,ZX,ZY,ZZ,Za,Zb,Zc,Zd,Ze,Zf,Zg,Zh,Zi,Zj,Zk,Zl,Zm,Zn,Zo,Zp,Zq,Zr,Zs,Zt,Zu,Zv,Zw,Zx,Zy,Zz,YA,YB,YC,YD,YE,YF,YG,YH,YI,YJ,YK,YL,YM,YN,YO,YP,YQ,YR,Env.set,cond_true,cond_false,String.reduceBEq,YS,YT,YU,YV,YW,YX,YY,YZ,Ya,Yb,Yc,Yd,Ye,Yf] | simp only [Yg,Yh,true_and,Yi,Yj,Yk,Yl,Ym,Yn,Yo,Yp,Yq,Yr,Yt,Yu,Yv,Yw,Yx,Yy,Yz,XA,XB,XC,XD,XE,beq_self_eq_true,reduceIte,reduceCtorEq,↓reduceIte,XF,XG,XH, hm.len, range_nat hlm]))
  refine wFor_idx (fun i ρ H' => H' = H ∧ bothTo W M i = true ∧ ρ "wishes" = some (.ref w) ∧ ρ "mates" = some (.ref a)) ⟨rfl, rfl, rfl, rfl⟩ (fun i v ρ H' hv hI => ⟨trivial, fun k' h1 h2 => ?_⟩) fun ρ H' hI => ⟨trivial, ?_⟩
  · obtain ⟨hlt, rfl⟩ := rng_get hv
    obtain ⟨rfl, hB, e1, e2⟩ := hI
    (repeat (first | dsimp only [XI, XJ] | dsimp only [ZA,ZB,ZC,ZD,ZE,ZF,ZG,ZH,ZI,ZJ,ZK,ZL,ZM,ZN,ZO,ZP,ZQ,ZR,ZS,ZT,ZU,ZV,ZW,ZX,ZY,ZZ,Za,Zb,Zc,Zd,Ze,Zf,Zg,Zh,Zi,Zj,Zk,Zl,Zm,Zn,Zo,Zp,Zq,Zr,Zs,Zt,Zu,Zv,Zw,Zx,Zy,Zz,YA,YB,YC,YD,YE,YF,YG,YH,YI,YJ,YK,YL,YM,YN,YO,YP,YQ,YR,Env.set,cond_true,cond_false,String.reduceBEq,YS,YT,YU,YV,YW,YX,YY,YZ,Ya,Yb,Yc,Yd,Ye,Yf] | simp only [Yg,Yh,true_and,Yi,Yj,Yk,Yl,Ym,Yn,Yo,Yp,Yq,Yr,Yt,Yu,Yv,Yw,Yx,Yy,Yz,XA,XB,XC,XD,XE,beq_self_eq_true,reduceIte,reduceCtorEq,↓reduceIte,XF,XG,XH, e1, e2, hm.item hlt]))
    cases hx : M.getD i none with
    | none =>
      (repeat (first | dsimp only [XI, XJ] | dsimp only [ZA,ZB,ZC,ZD,ZE,ZF,ZG,ZH,ZI,ZJ,ZK,ZL,ZM,ZN,ZO,ZP,ZQ,ZR,ZS,ZT,ZU,ZV,ZW,ZX,ZY,ZZ,Za,Zb,Zc,Zd,Ze,Zf,Zg,Zh,Zi,Zj,Zk,Zl,Zm,Zn,Zo,Zp,Zq,Zr,Zs,Zt,Zu,Zv,Zw,Zx,Zy,Zz,YA,YB,YC,YD,YE,YF,YG,YH,YI,YJ,YK,YL,YM,YN,YO,YP,YQ,YR,Env.set,cond_true,cond_false,String.reduceBEq,YS,YT,YU,YV,YW,YX,YY,YZ,Ya,Yb,Yc,Yd,Ye,Yf] | simp only [Yg,Yh,true_and,Yi,Yj,Yk,Yl,Ym,Yn,Yo,Yp,Yq,Yr,Yt,Yu,Yv,Yw,Yx,Yy,Yz,XA,XB,XC,XD,XE,beq_self_eq_true,reduceIte,reduceCtorEq,↓reduceIte,XF,XG,XH, ov]))
      exact h1 _ _ ⟨rfl, by rw [bothTo_succ, hB, Bool.true_and]; unfold pairB; rw [hx], by (repeat (first | dsimp only [XI, XJ] | dsimp only [ZA,ZB,ZC,ZD,ZE,ZF,ZG,ZH,ZI,ZJ,ZK,ZL,ZM,ZN,ZO,ZP,ZQ,ZR,ZS,ZT,ZU,ZV,ZW,ZX,ZY,ZZ,Za,Zb,Zc,Zd,Ze,Zf,Zg,Zh,Zi,Zj,Zk,Zl,Zm,Zn,Zo,Zp,Zq,Zr,Zs,Zt,Zu,Zv,Zw,Zx,Zy,Zz,YA,YB,YC,YD,YE,YF,YG,YH,YI,YJ,YK,YL,YM,YN,YO,YP,YQ,YR,Env.set,cond_true,cond_false,String.reduceBEq,YS,YT,YU,YV,YW,YX,YY,YZ,Ya,Yb,Yc,Yd,Ye,Yf] | simp only [Yg,Yh,true_and,Yi,Yj,Yk,Yl,Ym,Yn,Yo,Yp,Yq,Yr,Yt,Yu,Yv,Yw,Yx,Yy,Yz,XA,XB,XC,XD,XE,beq_self_eq_true,reduceIte,reduceCtorEq,↓reduceIte,XF,XG,XH, e1])), by (repeat (first | dsimp only [XI, XJ] | dsimp only [ZA,ZB,ZC,ZD,ZE,ZF,ZG,ZH,ZI,ZJ,ZK,ZL,ZM,ZN,ZO,ZP,ZQ,ZR,ZS,ZT,ZU,ZV,ZW,ZX,ZY,ZZ,Za,Zb,Zc,Zd,Ze,Zf,Zg,Zh,Zi,Zj,Zk,Zl,Zm,Zn,Zo,Zp,Zq,Zr,Zs,Zt,Zu,Zv,Zw,Zx,Zy,Zz,YA,YB,YC,YD,YE,YF,YG,YH,YI,YJ,YK,YL,YM,YN,YO,YP,YQ,YR,Env.set,cond_true,cond_false,String.reduceBEq,YS,YT,YU,YV,YW,YX,YY,YZ,Ya,Yb,Yc,Yd,Ye,Yf] | simp only [Yg,Yh,true_and,Yi,Yj,Yk,Yl,Ym,Yn,Yo,Yp,Yq,Yr,Yt,Yu,Yv,Yw,Yx,Yy,Yz,XA,XB,XC,XD,XE,beq_self_eq_true,reduceIte,reduceCtorEq,↓reduceIte,XF,XG,XH, e2]))⟩
    | some j =>
      obtain ⟨j1, j2⟩ := hi.two i j hx
      have hit := hm.item hlt
      rw [hx] at hit
      (repeat (first | dsimp only [XI, XJ] | dsimp only [ZA,ZB,ZC,ZD,ZE,ZF,ZG,ZH,ZI,ZJ,ZK,ZL,ZM,ZN,ZO,ZP,ZQ,ZR,ZS,ZT,ZU,ZV,ZW,ZX,ZY,ZZ,Za,Zb,Zc,Zd,Ze,Zf,Zg,Zh,Zi,Zj,Zk,Zl,Zm,Zn,Zo,Zp,Zq,Zr,Zs,Zt,Zu,Zv,Zw,Zx,Zy,Zz,YA,YB,YC,YD,YE,YF,YG,YH,YI,YJ,YK,YL,YM,YN,YO,YP,YQ,YR,Env.set,cond_true,cond_false,String.reduceBEq,YS,YT,YU,YV,YW,YX,YY,YZ,Ya,Yb,Yc,Yd,Ye,Yf] | simp only [Yg,Yh,true_and,Yi,Yj,Yk,Yl,Ym,Yn,Yo,Yp,Yq,Yr,Yt,Yu,Yv,Yw,Yx,Yy,Yz,XA,XB,XC,XD,XE,beq_self_eq_true,reduceIte,reduceCtorEq,↓reduceIte,XF,XG,XH, ov, hit]))
      refine s_both_wish hP6 hw (by omega) j1 ?_
      cases e : both W i j with
      | true =>
        (repeat (first | dsimp only [XI, XJ] | dsimp only [ZA,ZB,ZC,ZD,ZE,ZF,ZG,ZH,ZI,ZJ,ZK,ZL,ZM,ZN,ZO,ZP,ZQ,ZR,ZS,ZT,ZU,ZV,ZW,ZX,ZY,ZZ,Za,Zb,Zc,Zd,Ze,Zf,Zg,Zh,Zi,Zj,Zk,Zl,Zm,Zn,Zo,Zp,Zq,Zr,Zs,Zt,Zu,Zv,Zw,Zx,Zy,Zz,YA,YB,YC,YD,YE,YF,YG,YH,YI,YJ,YK,YL,YM,YN,YO,YP,YQ,YR,Env.set,cond_true,cond_false,String.reduceBEq,YS,YT,YU,YV,YW,YX,YY,YZ,Ya,Yb,Yc,Yd,Ye,Yf] | simp only [Yg,Yh,true_and,Yi,Yj,Yk,Yl,Ym,Yn,Yo,Yp,Yq,Yr,Yt,Yu,Yv,Yw,Yx,Yy,Yz,XA,XB,XC,XD,XE,beq_self_eq_true,reduceIte,reduceCtorEq,↓reduceIte,XF,XG,XH]))
        exact h1 _ _ ⟨rfl, by rw [bothTo_succ, hB, Bool.true_and]; unfold pairB; rw [hx]; exact e, by (repeat (first | dsimp only [XI, XJ] | dsimp only [ZA,ZB,ZC,ZD,ZE,ZF,ZG,ZH,ZI,ZJ,ZK,ZL,ZM,ZN,ZO,ZP,ZQ,ZR,ZS,ZT,ZU,ZV,ZW,ZX,ZY,ZZ,Za,Zb,Zc,Zd,Ze,Zf,Zg,Zh,Zi,Zj,Zk,Zl,Zm,Zn,Zo,Zp,Zq,Zr,Zs,Zt,Zu,Zv,Zw,Zx,Zy,Zz,YA,YB,YC,YD,YE,YF,YG,YH,YI,YJ,YK,YL,YM,YN,YO,YP,YQ,YR,Env.set,cond_true,cond_false,String.reduceBEq,YS,YT,YU,YV,YW,YX,YY,YZ,Ya,Yb,Yc,Yd,Ye,Yf] | simp only [Yg,Yh,true_and,Yi,Yj,Yk,Yl,Ym,Yn,Yo,Yp,Yq,Yr,Yt,Yu,Yv,Yw,Yx,Yy,Yz,XA,XB,XC,XD,XE,beq_self_eq_true,reduceIte,reduceCtorEq,↓reduceIte,XF,XG,XH, e1])), by (repeat (first | dsimp only [XI, XJ] | dsimp only [ZA,ZB,ZC,ZD,ZE,ZF,ZG,ZH,ZI,ZJ,ZK,ZL,ZM,ZN,ZO,ZP,ZQ,ZR,ZS,ZT,ZU,ZV,ZW,ZX,ZY,ZZ,Za,Zb,Zc,Zd,Ze,Zf,Zg,Zh,Zi,Zj,Zk,Zl,Zm,Zn,Zo,Zp,Zq,Zr,Zs,Zt,Zu,Zv,Zw,Zx,Zy,Zz,YA,YB,YC,YD,YE,YF,YG,YH,YI,YJ,YK,YL,YM,YN,YO,YP,YQ,YR,Env.set,cond_true,cond_false,String.reduceBEq,YS,YT,YU,YV,YW,YX,YY,YZ,Ya,Yb,Yc,Yd,Ye,Yf] | simp only [Yg,Yh,true_and,Yi,Yj,Yk,Yl,Ym,Yn,Yo,Yp,Yq,Yr,Yt,Yu,Yv,Yw,Yx,Yy,Yz,XA,XB,XC,XD,XE,beq_self_eq_true,reduceIte,reduceCtorEq,↓reduceIte,XF,XG,XH, e2]))⟩
      | false =>
        (repeat (first | dsimp only [XI, XJ] | dsimp only [ZA,ZB,ZC,ZD,ZE,ZF,ZG,ZH,ZI,ZJ,ZK,ZL,ZM,ZN,ZO,ZP,ZQ,ZR,ZS,ZT,ZU,ZV,ZW,ZX,ZY,ZZ,Za,Zb,Zc,Zd,Ze,Zf,Zg,Zh,Zi,Zj,Zk,Zl,Zm,Zn,Zo,Zp,Zq,Zr,Zs,Zt,Zu,Zv,Zw,Zx,Zy,Zz,YA,YB,YC,YD,YE,YF,YG,YH,YI,YJ,YK,YL,YM,YN,YO,YP,YQ,YR,Env.set,cond_true,cond_false,String.reduceBEq,YS,YT,YU,YV,YW,YX,YY,YZ,Ya,Yb,Yc,Yd,Ye,Yf] | simp only [Yg,Yh,true_and,Yi,Yj,Yk,Yl,Ym,Yn,Yo,Yp,Yq,Yr,Yt,Yu,Yv,Yw,Yx,Yy,Yz,XA,XB,XC,XD,XE,beq_self_eq_true,reduceIte,reduceCtorEq,↓reduceIte,XF,XG,XH]))
        refine h2 _ _ _ ?_
        have : stayB W M = false := by
          cases q : stayB W M with
          | false => rfl
          | true =>
            unfold stayB at q
            rw [Bool.and_eq_true] at q
            have := bothTo_le q.1 hlt
            unfold pairB at this; rw [hx] at this; exact absurd (show both W i j = true from this) (by rw [e]; simp)
        rw [← this]; exact h _ (List.prefix_refl _)
  · obtain ⟨rfl, hB, e1, e2⟩ := hI
    rw [rng_len] at hB
    (repeat (first | dsimp only [XI, XJ] | dsimp only [ZA,ZB,ZC,ZD,ZE,ZF,ZG,ZH,ZI,ZJ,ZK,ZL,ZM,ZN,ZO,ZP,ZQ,ZR,ZS,ZT,ZU,ZV,ZW,ZX,ZY,ZZ,Za,Zb,Zc,Zd,Ze,Zf,Zg,Zh,Zi,Zj,Zk,Zl,Zm,Zn,Zo,Zp,Zq,Zr,Zs,Zt,Zu,Zv,Zw,Zx,Zy,Zz,YA,YB,YC,YD,YE,YF,YG,YH,YI,YJ,YK,YL,YM,YN,YO,YP,YQ,YR,Env.set,cond_true,cond_false,String.reduceBEq,YS,YT,YU,YV,YW,YX,YY,YZ,Ya,Yb,Yc,Yd,Ye,Yf] | simp only [Yg,Yh,true_and,Yi,Yj,Yk,Yl,Ym,Yn,Yo,Yp,Yq,Yr,Yt,Yu,Yv,Yw,Yx,Yy,Yz,XA,XB,XC,XD,XE,beq_self_eq_true,reduceIte,reduceCtorEq,↓reduceIte,XF,XG,XH, e1, e2]))
    refine s_found_restless hP3 hP6 hP7 hw ok hm (hi.ok hB) fun H2 p hp2 _ hpr => ?_
    (repeat (first | dsimp only [XI, XJ] | dsimp only [ZA,ZB,ZC,ZD,ZE,ZF,ZG,ZH,ZI,ZJ,ZK,ZL,ZM,ZN,ZO,ZP,ZQ,ZR,ZS,ZT,ZU,ZV,ZW,ZX,ZY,ZZ,Za,Zb,Zc,Zd,Ze,Zf,Zg,Zh,Zi,Zj,Zk,Zl,Zm,Zn,Zo,Zp,Zq,Zr,Zs,Zt,Zu,Zv,Zw,Zx,Zy,Zz,YA,YB,YC,YD,YE,YF,YG,YH,YI,YJ,YK,YL,YM,YN,YO,YP,YQ,YR,Env.set,cond_true,cond_false,String.reduceBEq,YS,YT,YU,YV,YW,YX,YY,YZ,Ya,Yb,Yc,Yd,Ye,Yf] | simp only [Yg,Yh,true_and,Yi,Yj,Yk,Yl,Ym,Yn,Yo,Yp,Yq,Yr,Yt,Yu,Yv,Yw,Yx,Yy,Yz,XA,XB,XC,XD,XE,beq_self_eq_true,reduceIte,reduceCtorEq,↓reduceIte,XF,XG,XH, hpr.len]))
    have e : (((restP W M).length : Int) == 0) = stayB W M := by
      unfold stayB; rw [hB, Bool.true_and]
      cases (restP W M).length <;> rfl
    rw [e]
    exact h _ hp2

theorem s_law_matesG (hP : P.fn "_law_mates" = some f__law_mates) (hP1 : P.fn "_law_suits" = some f__law_suits) (hP2 : P.fn "_law_whole" = some f__law_whole) {w a : Nat} {W : List (List Int)} {M : Mt} (hw : WH H w W) (ok : WOk W) (hm : MT H a M) (mok : MInv W.length M)
    (h : Q (.bool (bothTo W M M.length)) H) : callN P b (n + 2) "_law_mates" [.ref w, .ref a] H Q X := by
  have hlm : M.length ≤ lim := by rw [mok.len]; exact Nat.le_trans ok.le (by decide)
  have eb : ((M.length : Int) == (W.length : Int)) = true := by rw [mok.len]; simp
  have mlen := mok.len
  (refine callN_in hP rfl ?_; unfold f__law_mates)
  (repeat (first | dsimp only [XI, XJ] | dsimp only [ZA,ZB,ZC,ZD,ZE,ZF,ZG,ZH,ZI,ZJ,ZK,ZL,ZM,ZN,ZO,ZP,ZQ,ZR,ZS,ZT,ZU,ZV,ZW,ZX,ZY,ZZ,Za,Zb,Zc,Zd,Ze,Zf,Zg,Zh,Zi,Zj,Zk,Zl,Zm,Zn,Zo,Zp,Zq,Zr,Zs,Zt,Zu,Zv,Zw,Zx,Zy,Zz,YA,YB,YC,YD,YE,YF,YG,YH,YI,YJ,YK,YL,YM,YN,YO,YP,YQ,YR,Env.set,cond_true,cond_false,String.reduceBEq,YS,YT,YU,YV,YW,YX,YY,YZ,Ya,Yb,Yc,Yd,Ye,Yf] | simp only [Yg,Yh,true_and,Yi,Yj,Yk,Yl,Ym,Yn,Yo,Yp,Yq,Yr,Yt,Yu,Yv,Yw,Yx,Yy,Yz,XA,XB,XC,XD,XE,beq_self_eq_true,reduceIte,reduceCtorEq,↓reduceIte,XF,XG,XH, hm.isList, hm.len, hw.len, eb, range_nat hlm]))
  refine wFor_idx (fun i ρ H' => H' = H ∧ bothTo W M i = true ∧ ρ "_law_wishes" = some (.ref w) ∧ ρ "_law_mates_here" = some (.ref a)) ⟨rfl, rfl, rfl, rfl⟩ (fun i v ρ H' hv hI => ⟨trivial, fun k' h1 h2 => ?_⟩) fun ρ H' hI => ⟨trivial, ?_⟩
  · obtain ⟨hi, rfl⟩ := rng_get hv
    obtain ⟨rfl, hB, e1, e2⟩ := hI
    (repeat (first | dsimp only [XI, XJ] | dsimp only [ZA,ZB,ZC,ZD,ZE,ZF,ZG,ZH,ZI,ZJ,ZK,ZL,ZM,ZN,ZO,ZP,ZQ,ZR,ZS,ZT,ZU,ZV,ZW,ZX,ZY,ZZ,Za,Zb,Zc,Zd,Ze,Zf,Zg,Zh,Zi,Zj,Zk,Zl,Zm,Zn,Zo,Zp,Zq,Zr,Zs,Zt,Zu,Zv,Zw,Zx,Zy,Zz,YA,YB,YC,YD,YE,YF,YG,YH,YI,YJ,YK,YL,YM,YN,YO,YP,YQ,YR,Env.set,cond_true,cond_false,String.reduceBEq,YS,YT,YU,YV,YW,YX,YY,YZ,Ya,Yb,Yc,Yd,Ye,Yf] | simp only [Yg,Yh,true_and,Yi,Yj,Yk,Yl,Ym,Yn,Yo,Yp,Yq,Yr,Yt,Yu,Yv,Yw,Yx,Yy,Yz,XA,XB,XC,XD,XE,beq_self_eq_true,reduceIte,reduceCtorEq,↓reduceIte,XF,XG,XH, e1, e2, hm.item hi]))
    cases hx : M.getD i none with
    | none =>
      (repeat (first | dsimp only [XI, XJ] | dsimp only [ZA,ZB,ZC,ZD,ZE,ZF,ZG,ZH,ZI,ZJ,ZK,ZL,ZM,ZN,ZO,ZP,ZQ,ZR,ZS,ZT,ZU,ZV,ZW,ZX,ZY,ZZ,Za,Zb,Zc,Zd,Ze,Zf,Zg,Zh,Zi,Zj,Zk,Zl,Zm,Zn,Zo,Zp,Zq,Zr,Zs,Zt,Zu,Zv,Zw,Zx,Zy,Zz,YA,YB,YC,YD,YE,YF,YG,YH,YI,YJ,YK,YL,YM,YN,YO,YP,YQ,YR,Env.set,cond_true,cond_false,String.reduceBEq,YS,YT,YU,YV,YW,YX,YY,YZ,Ya,Yb,Yc,Yd,Ye,Yf] | simp only [Yg,Yh,true_and,Yi,Yj,Yk,Yl,Ym,Yn,Yo,Yp,Yq,Yr,Yt,Yu,Yv,Yw,Yx,Yy,Yz,XA,XB,XC,XD,XE,beq_self_eq_true,reduceIte,reduceCtorEq,↓reduceIte,XF,XG,XH, ov]))
      exact h1 _ _ ⟨rfl, by rw [bothTo_succ, hB, Bool.true_and]; unfold pairB; rw [hx], by (repeat (first | dsimp only [XI, XJ] | dsimp only [ZA,ZB,ZC,ZD,ZE,ZF,ZG,ZH,ZI,ZJ,ZK,ZL,ZM,ZN,ZO,ZP,ZQ,ZR,ZS,ZT,ZU,ZV,ZW,ZX,ZY,ZZ,Za,Zb,Zc,Zd,Ze,Zf,Zg,Zh,Zi,Zj,Zk,Zl,Zm,Zn,Zo,Zp,Zq,Zr,Zs,Zt,Zu,Zv,Zw,Zx,Zy,Zz,YA,YB,YC,YD,YE,YF,YG,YH,YI,YJ,YK,YL,YM,YN,YO,YP,YQ,YR,Env.set,cond_true,cond_false,String.reduceBEq,YS,YT,YU,YV,YW,YX,YY,YZ,Ya,Yb,Yc,Yd,Ye,Yf] | simp only [Yg,Yh,true_and,Yi,Yj,Yk,Yl,Ym,Yn,Yo,Yp,Yq,Yr,Yt,Yu,Yv,Yw,Yx,Yy,Yz,XA,XB,XC,XD,XE,beq_self_eq_true,reduceIte,reduceCtorEq,↓reduceIte,XF,XG,XH, e1])), by (repeat (first | dsimp only [XI, XJ] | dsimp only [ZA,ZB,ZC,ZD,ZE,ZF,ZG,ZH,ZI,ZJ,ZK,ZL,ZM,ZN,ZO,ZP,ZQ,ZR,ZS,ZT,ZU,ZV,ZW,ZX,ZY,ZZ,Za,Zb,Zc,Zd,Ze,Zf,Zg,Zh,Zi,Zj,Zk,Zl,Zm,Zn,Zo,Zp,Zq,Zr,Zs,Zt,Zu,Zv,Zw,Zx,Zy,Zz,YA,YB,YC,YD,YE,YF,YG,YH,YI,YJ,YK,YL,YM,YN,YO,YP,YQ,YR,Env.set,cond_true,cond_false,String.reduceBEq,YS,YT,YU,YV,YW,YX,YY,YZ,Ya,Yb,Yc,Yd,Ye,Yf] | simp only [Yg,Yh,true_and,Yi,Yj,Yk,Yl,Ym,Yn,Yo,Yp,Yq,Yr,Yt,Yu,Yv,Yw,Yx,Yy,Yz,XA,XB,XC,XD,XE,beq_self_eq_true,reduceIte,reduceCtorEq,↓reduceIte,XF,XG,XH, e2]))⟩
    | some j =>
      obtain ⟨j1, j2⟩ := mok.two i j hx
      have d1 : decide ((j : Int) < 0) = false := decide_eq_false (by omega)
      have d2 : decide ((M.length : Int) ≤ (j : Int)) = false := decide_eq_false (by omega)
      (repeat (first | dsimp only [XI, XJ] | dsimp only [ZA,ZB,ZC,ZD,ZE,ZF,ZG,ZH,ZI,ZJ,ZK,ZL,ZM,ZN,ZO,ZP,ZQ,ZR,ZS,ZT,ZU,ZV,ZW,ZX,ZY,ZZ,Za,Zb,Zc,Zd,Ze,Zf,Zg,Zh,Zi,Zj,Zk,Zl,Zm,Zn,Zo,Zp,Zq,Zr,Zs,Zt,Zu,Zv,Zw,Zx,Zy,Zz,YA,YB,YC,YD,YE,YF,YG,YH,YI,YJ,YK,YL,YM,YN,YO,YP,YQ,YR,Env.set,cond_true,cond_false,String.reduceBEq,YS,YT,YU,YV,YW,YX,YY,YZ,Ya,Yb,Yc,Yd,Ye,Yf] | simp only [Yg,Yh,true_and,Yi,Yj,Yk,Yl,Ym,Yn,Yo,Yp,Yq,Yr,Yt,Yu,Yv,Yw,Yx,Yy,Yz,XA,XB,XC,XD,XE,beq_self_eq_true,reduceIte,reduceCtorEq,↓reduceIte,XF,XG,XH, ov]))
      refine s_whole hP2 ?_
      (repeat (first | dsimp only [XI, XJ] | dsimp only [ZA,ZB,ZC,ZD,ZE,ZF,ZG,ZH,ZI,ZJ,ZK,ZL,ZM,ZN,ZO,ZP,ZQ,ZR,ZS,ZT,ZU,ZV,ZW,ZX,ZY,ZZ,Za,Zb,Zc,Zd,Ze,Zf,Zg,Zh,Zi,Zj,Zk,Zl,Zm,Zn,Zo,Zp,Zq,Zr,Zs,Zt,Zu,Zv,Zw,Zx,Zy,Zz,YA,YB,YC,YD,YE,YF,YG,YH,YI,YJ,YK,YL,YM,YN,YO,YP,YQ,YR,Env.set,cond_true,cond_false,String.reduceBEq,YS,YT,YU,YV,YW,YX,YY,YZ,Ya,Yb,Yc,Yd,Ye,Yf] | simp only [Yg,Yh,true_and,Yi,Yj,Yk,Yl,Ym,Yn,Yo,Yp,Yq,Yr,Yt,Yu,Yv,Yw,Yx,Yy,Yz,XA,XB,XC,XD,XE,beq_self_eq_true,reduceIte,reduceCtorEq,↓reduceIte,XF,XG,XH, d1, d2, e2, hm.len, hm.item (show j < M.length by omega), j2, ov]))
      refine s_law_suits hP1 hw (by omega) j1 ?_
      cases e : both W i j with
      | true =>
        (repeat (first | dsimp only [XI, XJ] | dsimp only [ZA,ZB,ZC,ZD,ZE,ZF,ZG,ZH,ZI,ZJ,ZK,ZL,ZM,ZN,ZO,ZP,ZQ,ZR,ZS,ZT,ZU,ZV,ZW,ZX,ZY,ZZ,Za,Zb,Zc,Zd,Ze,Zf,Zg,Zh,Zi,Zj,Zk,Zl,Zm,Zn,Zo,Zp,Zq,Zr,Zs,Zt,Zu,Zv,Zw,Zx,Zy,Zz,YA,YB,YC,YD,YE,YF,YG,YH,YI,YJ,YK,YL,YM,YN,YO,YP,YQ,YR,Env.set,cond_true,cond_false,String.reduceBEq,YS,YT,YU,YV,YW,YX,YY,YZ,Ya,Yb,Yc,Yd,Ye,Yf] | simp only [Yg,Yh,true_and,Yi,Yj,Yk,Yl,Ym,Yn,Yo,Yp,Yq,Yr,Yt,Yu,Yv,Yw,Yx,Yy,Yz,XA,XB,XC,XD,XE,beq_self_eq_true,reduceIte,reduceCtorEq,↓reduceIte,XF,XG,XH]))
        exact h1 _ _ ⟨rfl, by rw [bothTo_succ, hB, Bool.true_and]; unfold pairB; rw [hx]; exact e, by (repeat (first | dsimp only [XI, XJ] | dsimp only [ZA,ZB,ZC,ZD,ZE,ZF,ZG,ZH,ZI,ZJ,ZK,ZL,ZM,ZN,ZO,ZP,ZQ,ZR,ZS,ZT,ZU,ZV,ZW,ZX,ZY,ZZ,Za,Zb,Zc,Zd,Ze,Zf,Zg,Zh,Zi,Zj,Zk,Zl,Zm,Zn,Zo,Zp,Zq,Zr,Zs,Zt,Zu,Zv,Zw,Zx,Zy,Zz,YA,YB,YC,YD,YE,YF,YG,YH,YI,YJ,YK,YL,YM,YN,YO,YP,YQ,YR,Env.set,cond_true,cond_false,String.reduceBEq,YS,YT,YU,YV,YW,YX,YY,YZ,Ya,Yb,Yc,Yd,Ye,Yf] | simp only [Yg,Yh,true_and,Yi,Yj,Yk,Yl,Ym,Yn,Yo,Yp,Yq,Yr,Yt,Yu,Yv,Yw,Yx,Yy,Yz,XA,XB,XC,XD,XE,beq_self_eq_true,reduceIte,reduceCtorEq,↓reduceIte,XF,XG,XH, e1])), by (repeat (first | dsimp only [XI, XJ] | dsimp only [ZA,ZB,ZC,ZD,ZE,ZF,ZG,ZH,ZI,ZJ,ZK,ZL,ZM,ZN,ZO,ZP,ZQ,ZR,ZS,ZT,ZU,ZV,ZW,ZX,ZY,ZZ,Za,Zb,Zc,Zd,Ze,Zf,Zg,Zh,Zi,Zj,Zk,Zl,Zm,Zn,Zo,Zp,Zq,Zr,Zs,Zt,Zu,Zv,Zw,Zx,Zy,Zz,YA,YB,YC,YD,YE,YF,YG,YH,YI,YJ,YK,YL,YM,YN,YO,YP,YQ,YR,Env.set,cond_true,cond_false,String.reduceBEq,YS,YT,YU,YV,YW,YX,YY,YZ,Ya,Yb,Yc,Yd,Ye,Yf] | simp only [Yg,Yh,true_and,Yi,Yj,Yk,Yl,Ym,Yn,Yo,Yp,Yq,Yr,Yt,Yu,Yv,Yw,Yx,Yy,Yz,XA,XB,XC,XD,XE,beq_self_eq_true,reduceIte,reduceCtorEq,↓reduceIte,XF,XG,XH, e2]))⟩
      | false =>
        (repeat (first | dsimp only [XI, XJ] | dsimp only [ZA,ZB,ZC,ZD,ZE,ZF,ZG,ZH,ZI,ZJ,ZK,ZL,ZM,ZN,ZO,ZP,ZQ,ZR,ZS,ZT,ZU,ZV,ZW,ZX,ZY,ZZ,Za,Zb,Zc,Zd,Ze,Zf,Zg,Zh,Zi,Zj,Zk,Zl,Zm,Zn,Zo,Zp,Zq,Zr,Zs,Zt,Zu,Zv,Zw,Zx,Zy,Zz,YA,YB,YC,YD,YE,YF,YG,YH,YI,YJ,YK,YL,YM,YN,YO,YP,YQ,YR,Env.set,cond_true,cond_false,String.reduceBEq,YS,YT,YU,YV,YW,YX,YY,YZ,Ya,Yb,Yc,Yd,Ye,Yf] | simp only [Yg,Yh,true_and,Yi,Yj,Yk,Yl,Ym,Yn,Yo,Yp,Yq,Yr,Yt,Yu,Yv,Yw,Yx,Yy,Yz,XA,XB,XC,XD,XE,beq_self_eq_true,reduceIte,reduceCtorEq,↓reduceIte,XF,XG,XH]))
        refine h2 _ _ _ ?_
        have : bothTo W M M.length = false := by
          cases q : bothTo W M M.length with
          | false => rfl
          | true =>
            have := bothTo_le q hi
            unfold pairB at this; rw [hx] at this; exact absurd (show both W i j = true from this) (by rw [e]; simp)
        rw [← this]; exact h
  · obtain ⟨rfl, hB, e1, e2⟩ := hI
    rw [rng_len] at hB
    (repeat (first | dsimp only [XI, XJ] | dsimp only [ZA,ZB,ZC,ZD,ZE,ZF,ZG,ZH,ZI,ZJ,ZK,ZL,ZM,ZN,ZO,ZP,ZQ,ZR,ZS,ZT,ZU,ZV,ZW,ZX,ZY,ZZ,Za,Zb,Zc,Zd,Ze,Zf,Zg,Zh,Zi,Zj,Zk,Zl,Zm,Zn,Zo,Zp,Zq,Zr,Zs,Zt,Zu,Zv,Zw,Zx,Zy,Zz,YA,YB,YC,YD,YE,YF,YG,YH,YI,YJ,YK,YL,YM,YN,YO,YP,YQ,YR,Env.set,cond_true,cond_false,String.reduceBEq,YS,YT,YU,YV,YW,YX,YY,YZ,Ya,Yb,Yc,Yd,Ye,Yf] | simp only [Yg,Yh,true_and,Yi,Yj,Yk,Yl,Ym,Yn,Yo,Yp,Yq,Yr,Yt,Yu,Yv,Yw,Yx,Yy,Yz,XA,XB,XC,XD,XE,beq_self_eq_true,reduceIte,reduceCtorEq,↓reduceIte,XF,XG,XH]))
    rw [← hB]; exact h

/-- a row that is none: the inn stays -/
theorem s_turn_bad (hP : P.fn "Inn.turn" = some f_Inn_turn) (hP2 : P.fn "need_guest" = some f_need_guest) (hP5 : P.fn "is_guest" = some f_is_guest) {x d iw g : Nat} {mv r : V} {W : List (List Int)} (hI : INN H x d iw mv) (hw : WH H iw W) (hg : g < W.length) (hr : RowBad P b r g W.length H)
    (h : ∀ H', H <+: H' → X "BadWishes" H') : callN P b (n + 3) "Inn.turn" [.ref x, .int (g : Int), r] H Q X := by
  (refine callN_in hP rfl ?_; unfold f_Inn_turn)
  refine wSs_step fun K hn hr' => ?_
  (repeat (first | dsimp only [XI, XJ] | dsimp only [ZA,ZB,ZC,ZD,ZE,ZF,ZG,ZH,ZI,ZJ,ZK,ZL,ZM,ZN,ZO,ZP,ZQ,ZR,ZS,ZT,ZU,ZV,ZW,ZX,ZY,ZZ,Za,Zb,Zc,Zd,Ze,Zf,Zg,Zh,Zi,Zj,Zk,Zl,Zm,Zn,Zo,Zp,Zq,Zr,Zs,Zt,Zu,Zv,Zw,Zx,Zy,Zz,YA,YB,YC,YD,YE,YF,YG,YH,YI,YJ,YK,YL,YM,YN,YO,YP,YQ,YR,Env.set,cond_true,cond_false,String.reduceBEq,YS,YT,YU,YV,YW,YX,YY,YZ,Ya,Yb,Yc,Yd,Ye,Yf] | simp only [Yg,Yh,true_and,Yi,Yj,Yk,Yl,Ym,Yn,Yo,Yp,Yq,Yr,Yt,Yu,Yv,Yw,Yx,Yy,Yz,XA,XB,XC,XD,XE,beq_self_eq_true,reduceIte,reduceCtorEq,↓reduceIte,XF,XG,XH, hI.wishes]))
  refine s_need_guest hP2 hP5 hw hg ?_
  refine hn _ _ ?_
  clear hn hr' K
  refine wSs_step fun K hn hr' => ?_
  (repeat (first | dsimp only [XI, XJ] | dsimp only [ZA,ZB,ZC,ZD,ZE,ZF,ZG,ZH,ZI,ZJ,ZK,ZL,ZM,ZN,ZO,ZP,ZQ,ZR,ZS,ZT,ZU,ZV,ZW,ZX,ZY,ZZ,Za,Zb,Zc,Zd,Ze,Zf,Zg,Zh,Zi,Zj,Zk,Zl,Zm,Zn,Zo,Zp,Zq,Zr,Zs,Zt,Zu,Zv,Zw,Zx,Zy,Zz,YA,YB,YC,YD,YE,YF,YG,YH,YI,YJ,YK,YL,YM,YN,YO,YP,YQ,YR,Env.set,cond_true,cond_false,String.reduceBEq,YS,YT,YU,YV,YW,YX,YY,YZ,Ya,Yb,Yc,Yd,Ye,Yf] | simp only [Yg,Yh,true_and,Yi,Yj,Yk,Yl,Ym,Yn,Yo,Yp,Yq,Yr,Yt,Yu,Yv,Yw,Yx,Yy,Yz,XA,XB,XC,XD,XE,beq_self_eq_true,reduceIte,reduceCtorEq,↓reduceIte,XF,XG,XH, hI.wishes, hw.len]))
  refine hr n _ _ _ (List.prefix_refl _) fun H' hp => ?_
  (repeat (first | dsimp only [XI, XJ] | dsimp only [ZA,ZB,ZC,ZD,ZE,ZF,ZG,ZH,ZI,ZJ,ZK,ZL,ZM,ZN,ZO,ZP,ZQ,ZR,ZS,ZT,ZU,ZV,ZW,ZX,ZY,ZZ,Za,Zb,Zc,Zd,Ze,Zf,Zg,Zh,Zi,Zj,Zk,Zl,Zm,Zn,Zo,Zp,Zq,Zr,Zs,Zt,Zu,Zv,Zw,Zx,Zy,Zz,YA,YB,YC,YD,YE,YF,YG,YH,YI,YJ,YK,YL,YM,YN,YO,YP,YQ,YR,Env.set,cond_true,cond_false,String.reduceBEq,YS,YT,YU,YV,YW,YX,YY,YZ,Ya,Yb,Yc,Yd,Ye,Yf] | simp only [Yg,Yh,true_and,Yi,Yj,Yk,Yl,Ym,Yn,Yo,Yp,Yq,Yr,Yt,Yu,Yv,Yw,Yx,Yy,Yz,XA,XB,XC,XD,XE,beq_self_eq_true,reduceIte,reduceCtorEq,↓reduceIte,XF,XG,XH]))
  exact h _ hp

theorem s_turn (hPt : P.fn "Inn.turn" = some f_Inn_turn) (hP2 : P.fn "need_guest" = some f_need_guest) (hPs : P.fn "stay" = some f_stay) (hP9 : P.fn "first_calm" = some f_first_calm) (hP : P.fn "all_calm" = some f_all_calm) (hP0 : P.fn "all_twos" = some f_all_twos) (hP1 : P.fn "need_wishes" = some f_need_wishes) (hP4 : P.fn "is_row" = some f_is_row) (hP5 : P.fn "is_guest" = some f_is_guest) (hP6 : P.fn "both_wish" = some f_both_wish) (hP7 : P.fn "settled" = some f_settled) (hG : P.glob "MOST_GUESTS" = some (.int 6))
    (hP3 : P.fn "found_restless" = some f_found_restless) (hP8 : P.fn "sooner" = some f_sooner) {x d iw g r : Nat} {mv : V} {l : List Int} {W : List (List Int)} {o : Option Mt} {rs : List V} (hI : INN H x d iw mv) (hw : WH H iw W) (hrs : H[iw]? = some (.list rs)) (ok : WOk W) (hg : g < W.length) (hl : LI H r l) (hrow : RowOk l g W.length) (hm : MV H mv o) (ho : ∀ M, o = some M → MInv W.length M)
    (h : ∀ H' mv' b', Kp [iw, d] H H' → H.length ≤ H'.length → INN H' x d iw mv' → H'[iw]? = some (.list (rs.set g (.ref b'))) → H.length ≤ b' → LI H' b' l → MV H' mv' (nextM (W.set g l) o) → (∀ a, mv' = .ref a → mv' = mv ∨ H.length ≤ a) → Q .none H') : callN P b (n + 12) "Inn.turn" [.ref x, .int (g : Int), .ref r] H Q X := by
  have hpos := ok.pos
  have hnil : W ≠ [] := fun e => by rw [e] at hpos; simp at hpos
  have ok' : WOk (W.set g l) := ok.set hg hrow
  (refine callN_in hPt rfl ?_; unfold f_Inn_turn)
  refine wSs_step fun K hn hr => ?_
  (repeat (first | dsimp only [XI, XJ] | dsimp only [ZA,ZB,ZC,ZD,ZE,ZF,ZG,ZH,ZI,ZJ,ZK,ZL,ZM,ZN,ZO,ZP,ZQ,ZR,ZS,ZT,ZU,ZV,ZW,ZX,ZY,ZZ,Za,Zb,Zc,Zd,Ze,Zf,Zg,Zh,Zi,Zj,Zk,Zl,Zm,Zn,Zo,Zp,Zq,Zr,Zs,Zt,Zu,Zv,Zw,Zx,Zy,Zz,YA,YB,YC,YD,YE,YF,YG,YH,YI,YJ,YK,YL,YM,YN,YO,YP,YQ,YR,Env.set,cond_true,cond_false,String.reduceBEq,YS,YT,YU,YV,YW,YX,YY,YZ,Ya,Yb,Yc,Yd,Ye,Yf] | simp only [Yg,Yh,true_and,Yi,Yj,Yk,Yl,Ym,Yn,Yo,Yp,Yq,Yr,Yt,Yu,Yv,Yw,Yx,Yy,Yz,XA,XB,XC,XD,XE,beq_self_eq_true,reduceIte,reduceCtorEq,↓reduceIte,XF,XG,XH, hI.wishes]))
  refine s_need_guest (n := n + 9) hP2 hP5 hw hg ?_
  refine hn _ _ ?_
  clear hn hr K
  refine wSs_step fun K hn hr => ?_
  (repeat (first | dsimp only [XI, XJ] | dsimp only [ZA,ZB,ZC,ZD,ZE,ZF,ZG,ZH,ZI,ZJ,ZK,ZL,ZM,ZN,ZO,ZP,ZQ,ZR,ZS,ZT,ZU,ZV,ZW,ZX,ZY,ZZ,Za,Zb,Zc,Zd,Ze,Zf,Zg,Zh,Zi,Zj,Zk,Zl,Zm,Zn,Zo,Zp,Zq,Zr,Zs,Zt,Zu,Zv,Zw,Zx,Zy,Zz,YA,YB,YC,YD,YE,YF,YG,YH,YI,YJ,YK,YL,YM,YN,YO,YP,YQ,YR,Env.set,cond_true,cond_false,String.reduceBEq,YS,YT,YU,YV,YW,YX,YY,YZ,Ya,Yb,Yc,Yd,Ye,Yf] | simp only [Yg,Yh,true_and,Yi,Yj,Yk,Yl,Ym,Yn,Yo,Yp,Yq,Yr,Yt,Yu,Yv,Yw,Yx,Yy,Yz,XA,XB,XC,XD,XE,beq_self_eq_true,reduceIte,reduceCtorEq,↓reduceIte,XF,XG,XH, hI.wishes, hw.len]))
  refine s_is_row (n := n + 9) hP4 hP5 hl hrow fun H1 hp1 => ?_
  (repeat (first | dsimp only [XI, XJ] | dsimp only [ZA,ZB,ZC,ZD,ZE,ZF,ZG,ZH,ZI,ZJ,ZK,ZL,ZM,ZN,ZO,ZP,ZQ,ZR,ZS,ZT,ZU,ZV,ZW,ZX,ZY,ZZ,Za,Zb,Zc,Zd,Ze,Zf,Zg,Zh,Zi,Zj,Zk,Zl,Zm,Zn,Zo,Zp,Zq,Zr,Zs,Zt,Zu,Zv,Zw,Zx,Zy,Zz,YA,YB,YC,YD,YE,YF,YG,YH,YI,YJ,YK,YL,YM,YN,YO,YP,YQ,YR,Env.set,cond_true,cond_false,String.reduceBEq,YS,YT,YU,YV,YW,YX,YY,YZ,Ya,Yb,Yc,Yd,Ye,Yf] | simp only [Yg,Yh,true_and,Yi,Yj,Yk,Yl,Ym,Yn,Yo,Yp,Yq,Yr,Yt,Yu,Yv,Yw,Yx,Yy,Yz,XA,XB,XC,XD,XE,beq_self_eq_true,reduceIte,reduceCtorEq,↓reduceIte,XF,XG,XH]))
  refine hn _ _ ?_
  clear hn hr K
  have hI1 := hI.pre hp1
  have hw1 := hw.pre hp1
  have hl1 := hl.pre hp1
  have hm1 := hm.pre hp1
  have nI : Kp [iw, d] H H1 := .pre hp1
  have n1 := hp1.length_le
  clear hI hw hl hm
  refine wSs_step fun K hn hr => ?_
  (repeat (first | dsimp only [XI, XJ] | dsimp only [ZA,ZB,ZC,ZD,ZE,ZF,ZG,ZH,ZI,ZJ,ZK,ZL,ZM,ZN,ZO,ZP,ZQ,ZR,ZS,ZT,ZU,ZV,ZW,ZX,ZY,ZZ,Za,Zb,Zc,Zd,Ze,Zf,Zg,Zh,Zi,Zj,Zk,Zl,Zm,Zn,Zo,Zp,Zq,Zr,Zs,Zt,Zu,Zv,Zw,Zx,Zy,Zz,YA,YB,YC,YD,YE,YF,YG,YH,YI,YJ,YK,YL,YM,YN,YO,YP,YQ,YR,Env.set,cond_true,cond_false,String.reduceBEq,YS,YT,YU,YV,YW,YX,YY,YZ,Ya,Yb,Yc,Yd,Ye,Yf] | simp only [Yg,Yh,true_and,Yi,Yj,Yk,Yl,Ym,Yn,Yo,Yp,Yq,Yr,Yt,Yu,Yv,Yw,Yx,Yy,Yz,XA,XB,XC,XD,XE,beq_self_eq_true,reduceIte,reduceCtorEq,↓reduceIte,XF,XG,XH, hl1.seq]))
  have pn : H1 <+: H1 ++ [O.list (l.map .int)] := pre_new _ _
  have hI2 := hI1.pre pn
  have hw2 := hw1.pre pn
  have hm2 := hm1.pre pn
  have hll2 : LI (H1 ++ [O.list (l.map .int)]) H1.length l := LI.new _ _
  have nI2 : Kp [iw, d] H (H1 ++ [O.list (l.map .int)]) := nI.trans (.pre pn)
  have n2 : H.length ≤ (H1 ++ [O.list (l.map .int)]).length := Nat.le_trans n1 pn.length_le
  have hrs2 : H <+: H1 ++ [O.list (l.map .int)] := hp1.trans pn
  generalize H1 ++ [O.list (l.map .int)] = H2 at hrs2 hI2 hw2 hm2 hll2 nI2 n2 ⊢
  (repeat (first | dsimp only [XI, XJ] | dsimp only [ZA,ZB,ZC,ZD,ZE,ZF,ZG,ZH,ZI,ZJ,ZK,ZL,ZM,ZN,ZO,ZP,ZQ,ZR,ZS,ZT,ZU,ZV,ZW,ZX,ZY,ZZ,Za,Zb,Zc,Zd,Ze,Zf,Zg,Zh,Zi,Zj,Zk,Zl,Zm,Zn,Zo,Zp,Zq,Zr,Zs,Zt,Zu,Zv,Zw,Zx,Zy,Zz,YA,YB,YC,YD,YE,YF,YG,YH,YI,YJ,YK,YL,YM,YN,YO,YP,YQ,YR,Env.set,cond_true,cond_false,String.reduceBEq,YS,YT,YU,YV,YW,YX,YY,YZ,Ya,Yb,Yc,Yd,Ye,Yf] | simp only [Yg,Yh,true_and,Yi,Yj,Yk,Yl,Ym,Yn,Yo,Yp,Yq,Yr,Yt,Yu,Yv,Yw,Yx,Yy,Yz,XA,XB,XC,XD,XE,beq_self_eq_true,reduceIte,reduceCtorEq,↓reduceIte,XF,XG,XH, hI2.wishes]))
  have r1 : H2[iw]? = some (.list rs) := pre_get hrs2 hrs
  have hlen : rs.length = W.length := by obtain ⟨rs', r1', r2⟩ := id hw2; rw [r1] at r1'; cases r1'; exact r2.length
  have nv2 := hw2.notV hnil
  have w3 : WH (H2.set iw (.list (rs.set g (.ref H1.length)))) iw (W.set g l) := by
    obtain ⟨H', q1, q2, _⟩ := hw2.set hg hll2
    rw [set_seq r1 (by omega)] at q1
    cases q1; exact q2
  have rs3 : (H2.set iw (.list (rs.set g (.ref H1.length))))[iw]? = some (.list (rs.set g (.ref H1.length))) := get_set_eq r1 _
  have k3 : Kp [iw] H2 (H2.set iw (.list (rs.set g (.ref H1.length)))) := Kp.set (.head _) _
  have hxi : x ∉ [iw] := fun q => by cases List.mem_singleton.mp q; have := hI2.obj; rw [r1] at this; cases this
  have hdi : d ∉ [iw] := fun q => by cases List.mem_singleton.mp q; have := hI2.names; rw [r1] at this; cases this
  have hI3 := hI2.kp k3 hxi hdi
  have hm3 := hm2.kp k3 (fun s q => by cases List.mem_singleton.mp q; exact nv2)
  have hb3 : LI (H2.set iw (.list (rs.set g (.ref H1.length)))) H1.length l := hll2.kp k3 (fun s q => by cases List.mem_singleton.mp q; exact nv2)
  have nI3 : Kp [iw, d] H (H2.set iw (.list (rs.set g (.ref H1.length)))) := nI2.trans (k3.mono fun c q => by cases List.mem_singleton.mp q; exact .head _)
  have n3 : H.length ≤ (H2.set iw (.list (rs.set g (.ref H1.length)))).length := by rw [List.length_set]; exact n2
  (repeat (first | dsimp only [XI, XJ] | dsimp only [ZA,ZB,ZC,ZD,ZE,ZF,ZG,ZH,ZI,ZJ,ZK,ZL,ZM,ZN,ZO,ZP,ZQ,ZR,ZS,ZT,ZU,ZV,ZW,ZX,ZY,ZZ,Za,Zb,Zc,Zd,Ze,Zf,Zg,Zh,Zi,Zj,Zk,Zl,Zm,Zn,Zo,Zp,Zq,Zr,Zs,Zt,Zu,Zv,Zw,Zx,Zy,Zz,YA,YB,YC,YD,YE,YF,YG,YH,YI,YJ,YK,YL,YM,YN,YO,YP,YQ,YR,Env.set,cond_true,cond_false,String.reduceBEq,YS,YT,YU,YV,YW,YX,YY,YZ,Ya,Yb,Yc,Yd,Ye,Yf] | simp only [Yg,Yh,true_and,Yi,Yj,Yk,Yl,Ym,Yn,Yo,Yp,Yq,Yr,Yt,Yu,Yv,Yw,Yx,Yy,Yz,XA,XB,XC,XD,XE,beq_self_eq_true,reduceIte,reduceCtorEq,↓reduceIte,XF,XG,XH, set_seq r1 (show g < rs.length by omega)]))
  refine hn _ _ ?_
  clear hn hr K
  generalize H2.set iw (.list (rs.set g (.ref H1.length))) = H3 at rs3 hb3 w3 hI3 hm3 nI3 n3 ⊢
  clear hI2 hw2 hm2 hll2 nI2 n2 r1 k3 pn hI1 hw1 hl1 hm1 nI nv2 hrs2
  have hxd : x ≠ d := by rintro rfl; have := hI3.obj; rw [hI3.names] at this; cases this
  have hid : iw ≠ d := by rintro rfl; obtain ⟨_, q, _⟩ := w3; rw [hI3.names] at q; cases q
  -- the inn asks anew
  have anew : ∀ (H4 : Hp) (ρ : Env) (K : SPost), H3 <+: H4 → ρ "self" = some (.ref x) → nextM (W.set g l) o = firstC (W.set g l) → (∀ ρ' H', Q .none H' → K none ρ' H') → wS ⟨b, callN P b (n + 11), P.glob⟩ (.setAttr (.var "self") "mates" (.call "first_calm" [.op (.attr "wishes") [.var "self"]])) ρ H4 K X := by
    intro H4 ρ K hp4 hself en hn
    rw [s_setAttr]
    (repeat (first | dsimp only [XI, XJ] | dsimp only [ZA,ZB,ZC,ZD,ZE,ZF,ZG,ZH,ZI,ZJ,ZK,ZL,ZM,ZN,ZO,ZP,ZQ,ZR,ZS,ZT,ZU,ZV,ZW,ZX,ZY,ZZ,Za,Zb,Zc,Zd,Ze,Zf,Zg,Zh,Zi,Zj,Zk,Zl,Zm,Zn,Zo,Zp,Zq,Zr,Zs,Zt,Zu,Zv,Zw,Zx,Zy,Zz,YA,YB,YC,YD,YE,YF,YG,YH,YI,YJ,YK,YL,YM,YN,YO,YP,YQ,YR,Env.set,cond_true,cond_false,String.reduceBEq,YS,YT,YU,YV,YW,YX,YY,YZ,Ya,Yb,Yc,Yd,Ye,Yf] | simp only [Yg,Yh,true_and,Yi,Yj,Yk,Yl,Ym,Yn,Yo,Yp,Yq,Yr,Yt,Yu,Yv,Yw,Yx,Yy,Yz,XA,XB,XC,XD,XE,beq_self_eq_true,reduceIte,reduceCtorEq,↓reduceIte,XF,XG,XH, hself, (hI3.pre hp4).wishes]))
    refine s_first_calm (n := n) hP9 hP hP0 hP1 hP4 hP5 hP6 hP7 hG hP3 hP8 (w3.pre hp4) ok' fun H5 mv' hp5 hmv hge => ?_
    have hI5 := hI3.pre (hp4.trans hp5)
    have s2 : setAttrV (.ref x) "mates" mv' H5 = some (H5.set d (.fdict [("wishes", .ref iw), ("mates", mv')])) := by unfold setAttrV; simp only [hI5.obj, hI5.names]; rfl
    (repeat (first | dsimp only [XI, XJ] | dsimp only [ZA,ZB,ZC,ZD,ZE,ZF,ZG,ZH,ZI,ZJ,ZK,ZL,ZM,ZN,ZO,ZP,ZQ,ZR,ZS,ZT,ZU,ZV,ZW,ZX,ZY,ZZ,Za,Zb,Zc,Zd,Ze,Zf,Zg,Zh,Zi,Zj,Zk,Zl,Zm,Zn,Zo,Zp,Zq,Zr,Zs,Zt,Zu,Zv,Zw,Zx,Zy,Zz,YA,YB,YC,YD,YE,YF,YG,YH,YI,YJ,YK,YL,YM,YN,YO,YP,YQ,YR,Env.set,cond_true,cond_false,String.reduceBEq,YS,YT,YU,YV,YW,YX,YY,YZ,Ya,Yb,Yc,Yd,Ye,Yf] | simp only [Yg,Yh,true_and,Yi,Yj,Yk,Yl,Ym,Yn,Yo,Yp,Yq,Yr,Yt,Yu,Yv,Yw,Yx,Yy,Yz,XA,XB,XC,XD,XE,beq_self_eq_true,reduceIte,reduceCtorEq,↓reduceIte,XF,XG,XH, hself, s2]))
    refine hn _ _ ?_
    have nv5 : ∀ s ∈ [d], NotV H5 s := fun s hs => by cases List.mem_singleton.mp hs; exact NotV.of hI5.names (fun _ q => by cases q)
    have k5 : Kp [d] H5 (H5.set d (.fdict [("wishes", .ref iw), ("mates", mv')])) := Kp.set (.head _) _
    refine h _ mv' H1.length ((nI3.trans (.pre (hp4.trans hp5))).trans (k5.mono fun c q => by cases List.mem_singleton.mp q; exact .tail _ (.head _))) (by rw [List.length_set]; exact Nat.le_trans n3 (hp4.trans hp5).length_le) ⟨k5 x _ (fun q => hxd (List.mem_singleton.mp q)) hI5.obj, get_set_eq hI5.names _⟩ (k5 iw _ (fun q => hid (List.mem_singleton.mp q)) (pre_get (hp4.trans hp5) rs3)) n1 ((hb3.pre (hp4.trans hp5)).kp k5 nv5) (by rw [en]; exact hmv.kp k5 nv5) (fun a q => .inr (by have := hge a q; have := hp4.length_le; omega))
  refine wSs_step fun K hn hr => ?_
  cases o with
  | none =>
    cases hm3
    (repeat (first | dsimp only [XI, XJ] | dsimp only [ZA,ZB,ZC,ZD,ZE,ZF,ZG,ZH,ZI,ZJ,ZK,ZL,ZM,ZN,ZO,ZP,ZQ,ZR,ZS,ZT,ZU,ZV,ZW,ZX,ZY,ZZ,Za,Zb,Zc,Zd,Ze,Zf,Zg,Zh,Zi,Zj,Zk,Zl,Zm,Zn,Zo,Zp,Zq,Zr,Zs,Zt,Zu,Zv,Zw,Zx,Zy,Zz,YA,YB,YC,YD,YE,YF,YG,YH,YI,YJ,YK,YL,YM,YN,YO,YP,YQ,YR,Env.set,cond_true,cond_false,String.reduceBEq,YS,YT,YU,YV,YW,YX,YY,YZ,Ya,Yb,Yc,Yd,Ye,Yf] | simp only [Yg,Yh,true_and,Yi,Yj,Yk,Yl,Ym,Yn,Yo,Yp,Yq,Yr,Yt,Yu,Yv,Yw,Yx,Yy,Yz,XA,XB,XC,XD,XE,beq_self_eq_true,reduceIte,reduceCtorEq,↓reduceIte,XF,XG,XH, hI3.mates]))
    refine anew H3 _ _ (List.prefix_refl _) rfl rfl fun ρ' H' q => ?_
    (repeat (first | dsimp only [XI, XJ] | dsimp only [ZA,ZB,ZC,ZD,ZE,ZF,ZG,ZH,ZI,ZJ,ZK,ZL,ZM,ZN,ZO,ZP,ZQ,ZR,ZS,ZT,ZU,ZV,ZW,ZX,ZY,ZZ,Za,Zb,Zc,Zd,Ze,Zf,Zg,Zh,Zi,Zj,Zk,Zl,Zm,Zn,Zo,Zp,Zq,Zr,Zs,Zt,Zu,Zv,Zw,Zx,Zy,Zz,YA,YB,YC,YD,YE,YF,YG,YH,YI,YJ,YK,YL,YM,YN,YO,YP,YQ,YR,Env.set,cond_true,cond_false,String.reduceBEq,YS,YT,YU,YV,YW,YX,YY,YZ,Ya,Yb,Yc,Yd,Ye,Yf] | simp only [Yg,Yh,true_and,Yi,Yj,Yk,Yl,Ym,Yn,Yo,Yp,Yq,Yr,Yt,Yu,Yv,Yw,Yx,Yy,Yz,XA,XB,XC,XD,XE,beq_self_eq_true,reduceIte,reduceCtorEq,↓reduceIte,XF,XG,XH]))
    exact hn _ _ (by (repeat (first | dsimp only [XI, XJ] | dsimp only [ZA,ZB,ZC,ZD,ZE,ZF,ZG,ZH,ZI,ZJ,ZK,ZL,ZM,ZN,ZO,ZP,ZQ,ZR,ZS,ZT,ZU,ZV,ZW,ZX,ZY,ZZ,Za,Zb,Zc,Zd,Ze,Zf,Zg,Zh,Zi,Zj,Zk,Zl,Zm,Zn,Zo,Zp,Zq,Zr,Zs,Zt,Zu,Zv,Zw,Zx,Zy,Zz,YA,YB,YC,YD,YE,YF,YG,YH,YI,YJ,YK,YL,YM,YN,YO,YP,YQ,YR,Env.set,cond_true,cond_false,String.reduceBEq,YS,YT,YU,YV,YW,YX,YY,YZ,Ya,Yb,Yc,Yd,Ye,Yf] | simp only [Yg,Yh,true_and,Yi,Yj,Yk,Yl,Ym,Yn,Yo,Yp,Yq,Yr,Yt,Yu,Yv,Yw,Yx,Yy,Yz,XA,XB,XC,XD,XE,beq_self_eq_true,reduceIte,reduceCtorEq,↓reduceIte,XF,XG,XH])); exact q)
  | some M =>
    obtain ⟨a, rfl, hM⟩ := id hm3
    (repeat (first | dsimp only [XI, XJ] | dsimp only [ZA,ZB,ZC,ZD,ZE,ZF,ZG,ZH,ZI,ZJ,ZK,ZL,ZM,ZN,ZO,ZP,ZQ,ZR,ZS,ZT,ZU,ZV,ZW,ZX,ZY,ZZ,Za,Zb,Zc,Zd,Ze,Zf,Zg,Zh,Zi,Zj,Zk,Zl,Zm,Zn,Zo,Zp,Zq,Zr,Zs,Zt,Zu,Zv,Zw,Zx,Zy,Zz,YA,YB,YC,YD,YE,YF,YG,YH,YI,YJ,YK,YL,YM,YN,YO,YP,YQ,YR,Env.set,cond_true,cond_false,String.reduceBEq,YS,YT,YU,YV,YW,YX,YY,YZ,Ya,Yb,Yc,Yd,Ye,Yf] | simp only [Yg,Yh,true_and,Yi,Yj,Yk,Yl,Ym,Yn,Yo,Yp,Yq,Yr,Yt,Yu,Yv,Yw,Yx,Yy,Yz,XA,XB,XC,XD,XE,beq_self_eq_true,reduceIte,reduceCtorEq,↓reduceIte,XF,XG,XH, hI3.mates, hI3.wishes, show isSame (.ref a) .none = some false from rfl]))
    have hinv : MInv (W.set g l).length M := by rw [List.length_set]; exact ho M rfl
    refine s_stay (n := n + 7) hPs hP3 hP6 hP8 w3 ok' hM hinv fun H4 hp4 => ?_
    cases e : stayB (W.set g l) M with
    | true =>
      (repeat (first | dsimp only [XI, XJ] | dsimp only [ZA,ZB,ZC,ZD,ZE,ZF,ZG,ZH,ZI,ZJ,ZK,ZL,ZM,ZN,ZO,ZP,ZQ,ZR,ZS,ZT,ZU,ZV,ZW,ZX,ZY,ZZ,Za,Zb,Zc,Zd,Ze,Zf,Zg,Zh,Zi,Zj,Zk,Zl,Zm,Zn,Zo,Zp,Zq,Zr,Zs,Zt,Zu,Zv,Zw,Zx,Zy,Zz,YA,YB,YC,YD,YE,YF,YG,YH,YI,YJ,YK,YL,YM,YN,YO,YP,YQ,YR,Env.set,cond_true,cond_false,String.reduceBEq,YS,YT,YU,YV,YW,YX,YY,YZ,Ya,Yb,Yc,Yd,Ye,Yf] | simp only [Yg,Yh,true_and,Yi,Yj,Yk,Yl,Ym,Yn,Yo,Yp,Yq,Yr,Yt,Yu,Yv,Yw,Yx,Yy,Yz,XA,XB,XC,XD,XE,beq_self_eq_true,reduceIte,reduceCtorEq,↓reduceIte,XF,XG,XH]))
      refine hn _ _ ?_
      (repeat (first | dsimp only [XI, XJ] | dsimp only [ZA,ZB,ZC,ZD,ZE,ZF,ZG,ZH,ZI,ZJ,ZK,ZL,ZM,ZN,ZO,ZP,ZQ,ZR,ZS,ZT,ZU,ZV,ZW,ZX,ZY,ZZ,Za,Zb,Zc,Zd,Ze,Zf,Zg,Zh,Zi,Zj,Zk,Zl,Zm,Zn,Zo,Zp,Zq,Zr,Zs,Zt,Zu,Zv,Zw,Zx,Zy,Zz,YA,YB,YC,YD,YE,YF,YG,YH,YI,YJ,YK,YL,YM,YN,YO,YP,YQ,YR,Env.set,cond_true,cond_false,String.reduceBEq,YS,YT,YU,YV,YW,YX,YY,YZ,Ya,Yb,Yc,Yd,Ye,Yf] | simp only [Yg,Yh,true_and,Yi,Yj,Yk,Yl,Ym,Yn,Yo,Yp,Yq,Yr,Yt,Yu,Yv,Yw,Yx,Yy,Yz,XA,XB,XC,XD,XE,beq_self_eq_true,reduceIte,reduceCtorEq,↓reduceIte,XF,XG,XH]))
      refine h _ (.ref a) H1.length (nI3.trans (.pre hp4)) (Nat.le_trans n3 hp4.length_le) (hI3.pre hp4) (pre_get hp4 rs3) n1 (hb3.pre hp4) ?_ (fun _ _ => .inl rfl)
      simp only [nextM, e, if_true]
      exact hm3.pre hp4
    | false =>
      (repeat (first | dsimp only [XI, XJ] | dsimp only [ZA,ZB,ZC,ZD,ZE,ZF,ZG,ZH,ZI,ZJ,ZK,ZL,ZM,ZN,ZO,ZP,ZQ,ZR,ZS,ZT,ZU,ZV,ZW,ZX,ZY,ZZ,Za,Zb,Zc,Zd,Ze,Zf,Zg,Zh,Zi,Zj,Zk,Zl,Zm,Zn,Zo,Zp,Zq,Zr,Zs,Zt,Zu,Zv,Zw,Zx,Zy,Zz,YA,YB,YC,YD,YE,YF,YG,YH,YI,YJ,YK,YL,YM,YN,YO,YP,YQ,YR,Env.set,cond_true,cond_false,String.reduceBEq,YS,YT,YU,YV,YW,YX,YY,YZ,Ya,Yb,Yc,Yd,Ye,Yf] | simp only [Yg,Yh,true_and,Yi,Yj,Yk,Yl,Ym,Yn,Yo,Yp,Yq,Yr,Yt,Yu,Yv,Yw,Yx,Yy,Yz,XA,XB,XC,XD,XE,beq_self_eq_true,reduceIte,reduceCtorEq,↓reduceIte,XF,XG,XH]))
      refine anew H4 _ _ hp4 rfl (by simp [nextM, e]) fun ρ' H' q => ?_
      (repeat (first | dsimp only [XI, XJ] | dsimp only [ZA,ZB,ZC,ZD,ZE,ZF,ZG,ZH,ZI,ZJ,ZK,ZL,ZM,ZN,ZO,ZP,ZQ,ZR,ZS,ZT,ZU,ZV,ZW,ZX,ZY,ZZ,Za,Zb,Zc,Zd,Ze,Zf,Zg,Zh,Zi,Zj,Zk,Zl,Zm,Zn,Zo,Zp,Zq,Zr,Zs,Zt,Zu,Zv,Zw,Zx,Zy,Zz,YA,YB,YC,YD,YE,YF,YG,YH,YI,YJ,YK,YL,YM,YN,YO,YP,YQ,YR,Env.set,cond_true,cond_false,String.reduceBEq,YS,YT,YU,YV,YW,YX,YY,YZ,Ya,Yb,Yc,Yd,Ye,Yf] | simp only [Yg,Yh,true_and,Yi,Yj,Yk,Yl,Ym,Yn,Yo,Yp,Yq,Yr,Yt,Yu,Yv,Yw,Yx,Yy,Yz,XA,XB,XC,XD,XE,beq_self_eq_true,reduceIte,reduceCtorEq,↓reduceIte,XF,XG,XH]))
      exact hn _ _ (by (repeat (first | dsimp only [XI, XJ] | dsimp only [ZA,ZB,ZC,ZD,ZE,ZF,ZG,ZH,ZI,ZJ,ZK,ZL,ZM,ZN,ZO,ZP,ZQ,ZR,ZS,ZT,ZU,ZV,ZW,ZX,ZY,ZZ,Za,Zb,Zc,Zd,Ze,Zf,Zg,Zh,Zi,Zj,Zk,Zl,Zm,Zn,Zo,Zp,Zq,Zr,Zs,Zt,Zu,Zv,Zw,Zx,Zy,Zz,YA,YB,YC,YD,YE,YF,YG,YH,YI,YJ,YK,YL,YM,YN,YO,YP,YQ,YR,Env.set,cond_true,cond_false,String.reduceBEq,YS,YT,YU,YV,YW,YX,YY,YZ,Ya,Yb,Yc,Yd,Ye,Yf] | simp only [Yg,Yh,true_and,Yi,Yj,Yk,Yl,Ym,Yn,Yo,Yp,Yq,Yr,Yt,Yu,Yv,Yw,Yx,Yy,Yz,XA,XB,XC,XD,XE,beq_self_eq_true,reduceIte,reduceCtorEq,↓reduceIte,XF,XG,XH])); exact q)
end
end Mine

namespace Mine
open PySem

theorem WHf.row0 {c : Nat} {H : Hp} {w : Nat} {W : List (List Int)} (h : WHf c H w W) (hW : W ≠ []) : ∃ rs b l, H[w]? = some (.list (.ref b :: rs)) ∧ c ≤ b ∧ LI H b l ∧ b ≠ w ∧ (rs.length + 1 = W.length) ∧ l ∈ W := by
  obtain ⟨rs, h1, h2⟩ := h
  cases h2 with
  | nil => exact absurd rfl hW
  | cons hr hs =>
    obtain ⟨b, rfl, hc, hl⟩ := hr
    refine ⟨_, b, _, h1, hc, hl, fun e => ?_, by rw [hs.length]; rfl, .head _⟩
    subst e
    exact (NotV.refs h1).1 _ hl

section
variable {P : Prog} {b : Bool} {n : Nat} {H : Hp} {Q : Post} {X : XP}

theorem s_refused10 (hP' : P.fn "_law_refused" = some f__law_refused_10) (hP : P.fn "Inn.turn" = some f_Inn_turn) (hP2 : P.fn "need_guest" = some f_need_guest) (hP5 : P.fn "is_guest" = some f_is_guest) {x d iw g : Nat} {mv r : V} {W : List (List Int)} (hI : INN H x d iw mv) (hw : WH H iw W) (hg : g < W.length) (hr : RowBad P b r g W.length H)
    (h : ∀ H', H <+: H' → Q (.bool true) H') : callN P b (n + 4) "_law_refused" [.ref x, .int (g : Int), r] H Q X := by
  (refine callN_in hP' rfl ?_; unfold f__law_refused_10)
  (repeat (first | dsimp only [XI, XJ] | dsimp only [ZA,ZB,ZC,ZD,ZE,ZF,ZG,ZH,ZI,ZJ,ZK,ZL,ZM,ZN,ZO,ZP,ZQ,ZR,ZS,ZT,ZU,ZV,ZW,ZX,ZY,ZZ,Za,Zb,Zc,Zd,Ze,Zf,Zg,Zh,Zi,Zj,Zk,Zl,Zm,Zn,Zo,Zp,Zq,Zr,Zs,Zt,Zu,Zv,Zw,Zx,Zy,Zz,YA,YB,YC,YD,YE,YF,YG,YH,YI,YJ,YK,YL,YM,YN,YO,YP,YQ,YR,Env.set,cond_true,cond_false,String.reduceBEq,YS,YT,YU,YV,YW,YX,YY,YZ,Ya,Yb,Yc,Yd,Ye,Yf] | simp only [Yg,Yh,true_and,Yi,Yj,Yk,Yl,Ym,Yn,Yo,Yp,Yq,Yr,Yt,Yu,Yv,Yw,Yx,Yy,Yz,XA,XB,XC,XD,XE,beq_self_eq_true,reduceIte,reduceCtorEq,↓reduceIte,XF,XG,XH, e_meth, hI.inst, show (("Inn" ++ "." ++ "turn" : String)) = "Inn.turn" from by decide]))
  refine s_turn_bad hP hP2 hP5 hI hw hg hr fun H' hp => ?_
  rw [hs_same]
  simp only [wHb, hE]
  exact h H' hp

theorem s_held (hP' : P.fn "_law_held" = some f__law_held) (h1 : P.fn "Inn.twos" = some f_Inn_twos) (h2 : P.fn "Inn.table" = some f_Inn_table) (h3 : P.fn "_law_mates" = some f__law_mates) (h4 : P.fn "_law_suits" = some f__law_suits) (h5 : P.fn "_law_whole" = some f__law_whole) (h6 : P.fn "_law_restless" = some f__law_restless_05) (h7 : P.fn "_law_rather" = some f__law_rather) {x d iw w : Nat} {mv due : V} {W : List (List Int)} {o : Option Mt} (hI : INN H x d iw mv) (hw : WH H iw W) (hw' : WH H w W) (hm : MV H mv o) (hm' : MV H due o) (ok : WOk W) (ho : GM W o)
    (h : ∀ H', H <+: H' → Q (.bool true) H') : callN P b (n + 4) "_law_held" [.ref x, .ref w, due] H Q X := by
  have hpos := ok.pos
  have hnil : W ≠ [] := fun e => by rw [e] at hpos; simp at hpos
  have n1 : ("Inn" ++ "." ++ "twos" : String) = "Inn.twos" := by decide
  have n2 : ("Inn" ++ "." ++ "table" : String) = "Inn.table" := by decide
  (refine callN_in hP' rfl ?_; unfold f__law_held)
  refine wSs_step fun K hn hr => ?_
  (repeat (first | dsimp only [XI, XJ] | dsimp only [ZA,ZB,ZC,ZD,ZE,ZF,ZG,ZH,ZI,ZJ,ZK,ZL,ZM,ZN,ZO,ZP,ZQ,ZR,ZS,ZT,ZU,ZV,ZW,ZX,ZY,ZZ,Za,Zb,Zc,Zd,Ze,Zf,Zg,Zh,Zi,Zj,Zk,Zl,Zm,Zn,Zo,Zp,Zq,Zr,Zs,Zt,Zu,Zv,Zw,Zx,Zy,Zz,YA,YB,YC,YD,YE,YF,YG,YH,YI,YJ,YK,YL,YM,YN,YO,YP,YQ,YR,Env.set,cond_true,cond_false,String.reduceBEq,YS,YT,YU,YV,YW,YX,YY,YZ,Ya,Yb,Yc,Yd,Ye,Yf] | simp only [Yg,Yh,true_and,Yi,Yj,Yk,Yl,Ym,Yn,Yo,Yp,Yq,Yr,Yt,Yu,Yv,Yw,Yx,Yy,Yz,XA,XB,XC,XD,XE,beq_self_eq_true,reduceIte,reduceCtorEq,↓reduceIte,XF,XG,XH, e_meth, hI.inst, n1]))
  refine s_twos (n := n + 2) h1 hI hm fun H1 v hp1 hv hf => ?_
  refine hn _ _ ?_
  clear hn hr K
  refine wSs_step fun K hn hr => ?_
  (repeat (first | dsimp only [XI, XJ] | dsimp only [ZA,ZB,ZC,ZD,ZE,ZF,ZG,ZH,ZI,ZJ,ZK,ZL,ZM,ZN,ZO,ZP,ZQ,ZR,ZS,ZT,ZU,ZV,ZW,ZX,ZY,ZZ,Za,Zb,Zc,Zd,Ze,Zf,Zg,Zh,Zi,Zj,Zk,Zl,Zm,Zn,Zo,Zp,Zq,Zr,Zs,Zt,Zu,Zv,Zw,Zx,Zy,Zz,YA,YB,YC,YD,YE,YF,YG,YH,YI,YJ,YK,YL,YM,YN,YO,YP,YQ,YR,Env.set,cond_true,cond_false,String.reduceBEq,YS,YT,YU,YV,YW,YX,YY,YZ,Ya,Yb,Yc,Yd,Ye,Yf] | simp only [Yg,Yh,true_and,Yi,Yj,Yk,Yl,Ym,Yn,Yo,Yp,Yq,Yr,Yt,Yu,Yv,Yw,Yx,Yy,Yz,XA,XB,XC,XD,XE,beq_self_eq_true,reduceIte,reduceCtorEq,↓reduceIte,XF,XG,XH, e_meth, (hI.pre hp1).inst, n2]))
  refine s_table (n := n + 2) h2 (hI.pre hp1) (hw.pre hp1) fun H2 r hp2 hrl hT => ?_
  refine hn _ _ ?_
  clear hn hr K
  have hp12 := hp1.trans hp2
  refine wSs_step fun K hn hr => ?_
  (repeat (first | dsimp only [XI, XJ] | dsimp only [ZA,ZB,ZC,ZD,ZE,ZF,ZG,ZH,ZI,ZJ,ZK,ZL,ZM,ZN,ZO,ZP,ZQ,ZR,ZS,ZT,ZU,ZV,ZW,ZX,ZY,ZZ,Za,Zb,Zc,Zd,Ze,Zf,Zg,Zh,Zi,Zj,Zk,Zl,Zm,Zn,Zo,Zp,Zq,Zr,Zs,Zt,Zu,Zv,Zw,Zx,Zy,Zz,YA,YB,YC,YD,YE,YF,YG,YH,YI,YJ,YK,YL,YM,YN,YO,YP,YQ,YR,Env.set,cond_true,cond_false,String.reduceBEq,YS,YT,YU,YV,YW,YX,YY,YZ,Ya,Yb,Yc,Yd,Ye,Yf] | simp only [Yg,Yh,true_and,Yi,Yj,Yk,Yl,Ym,Yn,Yo,Yp,Yq,Yr,Yt,Yu,Yv,Yw,Yx,Yy,Yz,XA,XB,XC,XD,XE,beq_self_eq_true,reduceIte,reduceCtorEq,↓reduceIte,XF,XG,XH, hT.wh.eq (hw'.pre hp12), decide_true, (hv.pre hp2).eq (hm'.pre hp12)]))
  refine hn _ _ ?_
  clear hn hr K
  -- mates
  suffices fin : ∀ H3 r0 b0 rs l, H <+: H3 → H3[r0]? = some (.list (.ref b0 :: rs)) → H.length ≤ b0 → H.length ≤ r0 → LI H3 b0 l → b0 ≠ r0 → rs.length + 1 ≤ 6 → l.length ≤ 6 →
      (∀ M, o = some M → ∃ a, v = .ref a ∧ H.length ≤ a ∧ a < b0 ∧ a < r0 ∧ H3[a]? = some (.list ((M ++ [none]).map ov))) → (o = none → v = .none) →
      ∀ ρ : Env, ρ "_law_inn" = some (.ref x) → ρ "_law_wishes" = some (.ref w) → ρ "_law_due" = some due → ρ "_law_found" = some v → ρ "_law_table" = some (.ref r0) →
      wSs ⟨b, callN P b (n + 3), P.glob⟩ [.expr (.mcall .append (.var "_law_table") [.op .mkList []]),
  .expr (.mcall .append (.op .item [.var "_law_table", .int 0]) [.int 0]),
  .ite (.or_ [.op (.cmp .ne) [.meth "twos" (.var "_law_inn") [], .var "_law_due"], .op (.cmp .ne) [.meth "table" (.var "_law_inn") [], .var "_law_wishes"]])
    [.ret (.bool false)]
    [],
  .ret (.and_ [.op (.cmp .eq) [.op .item [.var "_law_table", .op .neg [.int 1]], .op .mkList []], .or_ [.op (.cmp .is_) [.var "_law_found", .none], .op (.cmp .eq) [.var "_law_found", .op (.bin .add) [.var "_law_due", .op .mkList [.none]]]]])] ρ H3 (fun r _ H' => Q (r.getD .none) H') X by
    obtain ⟨rs, b0, l, t1, t2, t3, t4, t5, t6⟩ := hT.row0 hnil
    have l6 : l.length ≤ 6 := by
      obtain ⟨i, hi, e⟩ := List.mem_iff_getElem.mp t6
      have := (ok.rows i hi).len
      unfold row at this
      rw [List.getD_eq_getElem?_getD, List.getElem?_eq_getElem hi, Option.getD_some, e] at this
      exact this
    have := ok.le
    have hl1 := hp1.length_le
    refine wSs_step fun K hn hr => ?_
    cases o with
    | none =>
      cases hv
      (repeat (first | dsimp only [XI, XJ] | dsimp only [ZA,ZB,ZC,ZD,ZE,ZF,ZG,ZH,ZI,ZJ,ZK,ZL,ZM,ZN,ZO,ZP,ZQ,ZR,ZS,ZT,ZU,ZV,ZW,ZX,ZY,ZZ,Za,Zb,Zc,Zd,Ze,Zf,Zg,Zh,Zi,Zj,Zk,Zl,Zm,Zn,Zo,Zp,Zq,Zr,Zs,Zt,Zu,Zv,Zw,Zx,Zy,Zz,YA,YB,YC,YD,YE,YF,YG,YH,YI,YJ,YK,YL,YM,YN,YO,YP,YQ,YR,Env.set,cond_true,cond_false,String.reduceBEq,YS,YT,YU,YV,YW,YX,YY,YZ,Ya,Yb,Yc,Yd,Ye,Yf] | simp only [Yg,Yh,true_and,Yi,Yj,Yk,Yl,Ym,Yn,Yo,Yp,Yq,Yr,Yt,Yu,Yv,Yw,Yx,Yy,Yz,XA,XB,XC,XD,XE,beq_self_eq_true,reduceIte,reduceCtorEq,↓reduceIte,XF,XG,XH]))
      exact hn _ _ (fin H2 r b0 rs l hp12 t1 (by omega) (by omega) t3 t4 (by omega) l6 (fun M e => by cases e) (fun _ => rfl) _ rfl rfl rfl rfl rfl)
    | some M =>
      obtain ⟨a, rfl, hM⟩ := hv
      obtain ⟨mok, hrs⟩ := ho M rfl
      have ha1 : a < H1.length := (List.getElem?_eq_some_iff.mp hM).1
      have ha0 := hf a rfl
      have hM2 := hM.pre hp2
      have mlen := mok.len
      (repeat (first | dsimp only [XI, XJ] | dsimp only [ZA,ZB,ZC,ZD,ZE,ZF,ZG,ZH,ZI,ZJ,ZK,ZL,ZM,ZN,ZO,ZP,ZQ,ZR,ZS,ZT,ZU,ZV,ZW,ZX,ZY,ZZ,Za,Zb,Zc,Zd,Ze,Zf,Zg,Zh,Zi,Zj,Zk,Zl,Zm,Zn,Zo,Zp,Zq,Zr,Zs,Zt,Zu,Zv,Zw,Zx,Zy,Zz,YA,YB,YC,YD,YE,YF,YG,YH,YI,YJ,YK,YL,YM,YN,YO,YP,YQ,YR,Env.set,cond_true,cond_false,String.reduceBEq,YS,YT,YU,YV,YW,YX,YY,YZ,Ya,Yb,Yc,Yd,Ye,Yf] | simp only [Yg,Yh,true_and,Yi,Yj,Yk,Yl,Ym,Yn,Yo,Yp,Yq,Yr,Yt,Yu,Yv,Yw,Yx,Yy,Yz,XA,XB,XC,XD,XE,beq_self_eq_true,reduceIte,reduceCtorEq,↓reduceIte,XF,XG,XH, show isSame (.ref a) .none = some false from rfl]))
      refine s_law_mates (n := n + 1) h3 h4 h5 (hw'.pre hp12) ok hM2 mok ?_
      (repeat (first | dsimp only [XI, XJ] | dsimp only [ZA,ZB,ZC,ZD,ZE,ZF,ZG,ZH,ZI,ZJ,ZK,ZL,ZM,ZN,ZO,ZP,ZQ,ZR,ZS,ZT,ZU,ZV,ZW,ZX,ZY,ZZ,Za,Zb,Zc,Zd,Ze,Zf,Zg,Zh,Zi,Zj,Zk,Zl,Zm,Zn,Zo,Zp,Zq,Zr,Zs,Zt,Zu,Zv,Zw,Zx,Zy,Zz,YA,YB,YC,YD,YE,YF,YG,YH,YI,YJ,YK,YL,YM,YN,YO,YP,YQ,YR,Env.set,cond_true,cond_false,String.reduceBEq,YS,YT,YU,YV,YW,YX,YY,YZ,Ya,Yb,Yc,Yd,Ye,Yf] | simp only [Yg,Yh,true_and,Yi,Yj,Yk,Yl,Ym,Yn,Yo,Yp,Yq,Yr,Yt,Yu,Yv,Yw,Yx,Yy,Yz,XA,XB,XC,XD,XE,beq_self_eq_true,reduceIte,reduceCtorEq,↓reduceIte,XF,XG,XH]))
      refine s_law_restless5 (n := n) h6 h7 h4 (hw'.pre hp12) ok hM2 mok fun H4 p hp4 hpl hpr => ?_
      have hem : PR (H4 ++ [O.list []]) H4.length [] := ⟨[], get_new _ _, .nil⟩
      have heq := (hpr.pre (pre_new H4 (.list []))).eq hem
      have hp5 : H2 <+: H4 ++ [O.list []] := hp4.trans (pre_new _ _)
      (repeat (first | dsimp only [XI, XJ] | dsimp only [ZA,ZB,ZC,ZD,ZE,ZF,ZG,ZH,ZI,ZJ,ZK,ZL,ZM,ZN,ZO,ZP,ZQ,ZR,ZS,ZT,ZU,ZV,ZW,ZX,ZY,ZZ,Za,Zb,Zc,Zd,Ze,Zf,Zg,Zh,Zi,Zj,Zk,Zl,Zm,Zn,Zo,Zp,Zq,Zr,Zs,Zt,Zu,Zv,Zw,Zx,Zy,Zz,YA,YB,YC,YD,YE,YF,YG,YH,YI,YJ,YK,YL,YM,YN,YO,YP,YQ,YR,Env.set,cond_true,cond_false,String.reduceBEq,YS,YT,YU,YV,YW,YX,YY,YZ,Ya,Yb,Yc,Yd,Ye,Yf] | simp only [Yg,Yh,true_and,Yi,Yj,Yk,Yl,Ym,Yn,Yo,Yp,Yq,Yr,Yt,Yu,Yv,Yw,Yx,Yy,Yz,XA,XB,XC,XD,XE,beq_self_eq_true,reduceIte,reduceCtorEq,↓reduceIte,XF,XG,XH, heq, hrs, decide_true]))
      generalize H4 ++ [O.list []] = H5 at hp5 ⊢
      have hM5 := hM2.pre hp5
      (repeat (first | dsimp only [XI, XJ] | dsimp only [ZA,ZB,ZC,ZD,ZE,ZF,ZG,ZH,ZI,ZJ,ZK,ZL,ZM,ZN,ZO,ZP,ZQ,ZR,ZS,ZT,ZU,ZV,ZW,ZX,ZY,ZZ,Za,Zb,Zc,Zd,Ze,Zf,Zg,Zh,Zi,Zj,Zk,Zl,Zm,Zn,Zo,Zp,Zq,Zr,Zs,Zt,Zu,Zv,Zw,Zx,Zy,Zz,YA,YB,YC,YD,YE,YF,YG,YH,YI,YJ,YK,YL,YM,YN,YO,YP,YQ,YR,Env.set,cond_true,cond_false,String.reduceBEq,YS,YT,YU,YV,YW,YX,YY,YZ,Ya,Yb,Yc,Yd,Ye,Yf] | simp only [Yg,Yh,true_and,Yi,Yj,Yk,Yl,Ym,Yn,Yo,Yp,Yq,Yr,Yt,Yu,Yv,Yw,Yx,Yy,Yz,XA,XB,XC,XD,XE,beq_self_eq_true,reduceIte,reduceCtorEq,↓reduceIte,XF,XG,XH, (recvL hM5).1, append_at (v := .none) hM5 (by rw [List.length_map]; unfold lim; omega)]))
      refine hn _ _ (fin _ r b0 rs l ?_ ?_ (by omega) (by omega) ?_ t4 (by omega) l6 (fun M' e => ?_) (fun e => by cases e) _ rfl rfl rfl rfl rfl)
      · exact pre_set (hp12.trans hp5) ha0 _
      · rw [get_set_ne (by omega)]; exact pre_get hp5 t1
      · unfold LI; rw [get_set_ne (by omega)]; exact pre_get hp5 t3
      · cases e
        refine ⟨a, rfl, ha0, by omega, by omega, ?_⟩
        rw [get_set_eq hM5]; simp [ov]
  clear hT hp2 hp12
  intro H3 r0 b0 rs l hp3 t1 t2 t2' t3 t4 t5 t6 hM hN ρ e1 e2 e3 e4 e5
  have hr0 : r0 < H3.length := (List.getElem?_eq_some_iff.mp t1).1
  have hb0 : b0 < H3.length := (List.getElem?_eq_some_iff.mp t3).1
  -- table.append([])
  refine wSs_step fun K hn hr => ?_
  have t1' := pre_get (pre_new H3 (.list [])) t1
  (repeat (first | dsimp only [XI, XJ] | dsimp only [ZA,ZB,ZC,ZD,ZE,ZF,ZG,ZH,ZI,ZJ,ZK,ZL,ZM,ZN,ZO,ZP,ZQ,ZR,ZS,ZT,ZU,ZV,ZW,ZX,ZY,ZZ,Za,Zb,Zc,Zd,Ze,Zf,Zg,Zh,Zi,Zj,Zk,Zl,Zm,Zn,Zo,Zp,Zq,Zr,Zs,Zt,Zu,Zv,Zw,Zx,Zy,Zz,YA,YB,YC,YD,YE,YF,YG,YH,YI,YJ,YK,YL,YM,YN,YO,YP,YQ,YR,Env.set,cond_true,cond_false,String.reduceBEq,YS,YT,YU,YV,YW,YX,YY,YZ,Ya,Yb,Yc,Yd,Ye,Yf] | simp only [Yg,Yh,true_and,Yi,Yj,Yk,Yl,Ym,Yn,Yo,Yp,Yq,Yr,Yt,Yu,Yv,Yw,Yx,Yy,Yz,XA,XB,XC,XD,XE,beq_self_eq_true,reduceIte,reduceCtorEq,↓reduceIte,XF,XG,XH, e5, (recvL t1).1, append_at (v := .ref H3.length) t1' (by simp; unfold lim; omega)]))
  refine hn _ _ ?_
  clear hn hr K
  have g1 : ((H3 ++ [O.list []]).set r0 (.list (.ref b0 :: rs ++ [.ref H3.length])))[r0]? = some (.list (.ref b0 :: (rs ++ [.ref H3.length]))) := get_set_eq t1' _
  have g2 : LI ((H3 ++ [O.list []]).set r0 (.list (.ref b0 :: rs ++ [.ref H3.length]))) b0 l := by unfold LI; rw [get_set_ne t4]; exact pre_get (pre_new _ _) t3
  have g3 : ((H3 ++ [O.list []]).set r0 (.list (.ref b0 :: rs ++ [.ref H3.length])))[H3.length]? = some (.list []) := by rw [get_set_ne (by omega)]; exact get_new _ _
  have g4 : H <+: (H3 ++ [O.list []]).set r0 (.list (.ref b0 :: rs ++ [.ref H3.length])) := pre_set (hp3.trans (pre_new _ _)) t2' _
  have g5 : ∀ M, o = some M → ∃ a, v = .ref a ∧ H.length ≤ a ∧ a < b0 ∧ a < r0 ∧ ((H3 ++ [O.list []]).set r0 (.list (.ref b0 :: rs ++ [.ref H3.length])))[a]? = some (.list ((M ++ [none]).map ov)) := fun M e => by
    obtain ⟨a, q1, q2, q3, q3', q4⟩ := hM M e
    refine ⟨a, q1, q2, q3, q3', ?_⟩
    rw [get_set_ne (by omega)]; exact pre_get (pre_new _ _) q4
  have hlen : H3.length ≠ b0 := by omega
  generalize hE : H3.length = e0 at g1 g2 g3 g4 g5 hlen ⊢
  clear hE hb0 hr0 hM t1 t3 t1' hp3
  generalize (H3 ++ [O.list []]).set r0 (.list (.ref b0 :: rs ++ [.ref e0])) = H4 at g1 g2 g3 g4 g5 ⊢
  -- table[0].append(0)
  refine wSs_step fun K hn hr => ?_
  have i0 : itemV (.ref r0) (.int 0) H4 = some (.ref b0) := item_seq (i := 0) (seqOf_list g1) rfl
  (repeat (first | dsimp only [XI, XJ] | dsimp only [ZA,ZB,ZC,ZD,ZE,ZF,ZG,ZH,ZI,ZJ,ZK,ZL,ZM,ZN,ZO,ZP,ZQ,ZR,ZS,ZT,ZU,ZV,ZW,ZX,ZY,ZZ,Za,Zb,Zc,Zd,Ze,Zf,Zg,Zh,Zi,Zj,Zk,Zl,Zm,Zn,Zo,Zp,Zq,Zr,Zs,Zt,Zu,Zv,Zw,Zx,Zy,Zz,YA,YB,YC,YD,YE,YF,YG,YH,YI,YJ,YK,YL,YM,YN,YO,YP,YQ,YR,Env.set,cond_true,cond_false,String.reduceBEq,YS,YT,YU,YV,YW,YX,YY,YZ,Ya,Yb,Yc,Yd,Ye,Yf] | simp only [Yg,Yh,true_and,Yi,Yj,Yk,Yl,Ym,Yn,Yo,Yp,Yq,Yr,Yt,Yu,Yv,Yw,Yx,Yy,Yz,XA,XB,XC,XD,XE,beq_self_eq_true,reduceIte,reduceCtorEq,↓reduceIte,XF,XG,XH, e5, i0, (recvL g2).1, append_at (v := .int 0) g2 (by rw [List.length_map]; unfold lim; omega)]))
  refine hn _ _ ?_
  clear hn hr K
  have k1 : (H4.set b0 (.list (l.map .int ++ [.int 0])))[r0]? = some (.list (.ref b0 :: (rs ++ [.ref e0]))) := by rw [get_set_ne (Ne.symm t4)]; exact g1
  have k3 : (H4.set b0 (.list (l.map .int ++ [.int 0])))[e0]? = some (.list []) := by rw [get_set_ne hlen]; exact g3
  have k4 : H <+: H4.set b0 (.list (l.map .int ++ [.int 0])) := pre_set g4 t2 _
  have k5 : ∀ M, o = some M → ∃ a, v = .ref a ∧ (H4.set b0 (.list (l.map .int ++ [.int 0])))[a]? = some (.list ((M ++ [none]).map ov)) := fun M e => by
    obtain ⟨a, q1, q2, q3, q3', q4⟩ := g5 M e
    refine ⟨a, q1, ?_⟩
    rw [get_set_ne (by omega)]; exact q4
  generalize H4.set b0 (.list (l.map .int ++ [.int 0])) = H5 at k1 k3 k4 k5 ⊢
  clear g1 g2 g3 g4 g5 i0
  -- asked anew
  refine wSs_step fun K hn hr => ?_
  (repeat (first | dsimp only [XI, XJ] | dsimp only [ZA,ZB,ZC,ZD,ZE,ZF,ZG,ZH,ZI,ZJ,ZK,ZL,ZM,ZN,ZO,ZP,ZQ,ZR,ZS,ZT,ZU,ZV,ZW,ZX,ZY,ZZ,Za,Zb,Zc,Zd,Ze,Zf,Zg,Zh,Zi,Zj,Zk,Zl,Zm,Zn,Zo,Zp,Zq,Zr,Zs,Zt,Zu,Zv,Zw,Zx,Zy,Zz,YA,YB,YC,YD,YE,YF,YG,YH,YI,YJ,YK,YL,YM,YN,YO,YP,YQ,YR,Env.set,cond_true,cond_false,String.reduceBEq,YS,YT,YU,YV,YW,YX,YY,YZ,Ya,Yb,Yc,Yd,Ye,Yf] | simp only [Yg,Yh,true_and,Yi,Yj,Yk,Yl,Ym,Yn,Yo,Yp,Yq,Yr,Yt,Yu,Yv,Yw,Yx,Yy,Yz,XA,XB,XC,XD,XE,beq_self_eq_true,reduceIte,reduceCtorEq,↓reduceIte,XF,XG,XH, e1, e_meth, (hI.pre k4).inst, n1]))
  refine s_twos (n := n + 2) h1 (hI.pre k4) (hm.pre k4) fun H6 v' hp6 hv' _ => ?_
  have q6 := k4.trans hp6
  (repeat (first | dsimp only [XI, XJ] | dsimp only [ZA,ZB,ZC,ZD,ZE,ZF,ZG,ZH,ZI,ZJ,ZK,ZL,ZM,ZN,ZO,ZP,ZQ,ZR,ZS,ZT,ZU,ZV,ZW,ZX,ZY,ZZ,Za,Zb,Zc,Zd,Ze,Zf,Zg,Zh,Zi,Zj,Zk,Zl,Zm,Zn,Zo,Zp,Zq,Zr,Zs,Zt,Zu,Zv,Zw,Zx,Zy,Zz,YA,YB,YC,YD,YE,YF,YG,YH,YI,YJ,YK,YL,YM,YN,YO,YP,YQ,YR,Env.set,cond_true,cond_false,String.reduceBEq,YS,YT,YU,YV,YW,YX,YY,YZ,Ya,Yb,Yc,Yd,Ye,Yf] | simp only [Yg,Yh,true_and,Yi,Yj,Yk,Yl,Ym,Yn,Yo,Yp,Yq,Yr,Yt,Yu,Yv,Yw,Yx,Yy,Yz,XA,XB,XC,XD,XE,beq_self_eq_true,reduceIte,reduceCtorEq,↓reduceIte,XF,XG,XH, e3, hv'.eq (hm'.pre q6), e1, e_meth, (hI.pre q6).inst, n2]))
  refine s_table (n := n + 2) h2 (hI.pre q6) (hw.pre q6) fun H7 r' hp7 _ hT' => ?_
  have q7 := q6.trans hp7
  (repeat (first | dsimp only [XI, XJ] | dsimp only [ZA,ZB,ZC,ZD,ZE,ZF,ZG,ZH,ZI,ZJ,ZK,ZL,ZM,ZN,ZO,ZP,ZQ,ZR,ZS,ZT,ZU,ZV,ZW,ZX,ZY,ZZ,Za,Zb,Zc,Zd,Ze,Zf,Zg,Zh,Zi,Zj,Zk,Zl,Zm,Zn,Zo,Zp,Zq,Zr,Zs,Zt,Zu,Zv,Zw,Zx,Zy,Zz,YA,YB,YC,YD,YE,YF,YG,YH,YI,YJ,YK,YL,YM,YN,YO,YP,YQ,YR,Env.set,cond_true,cond_false,String.reduceBEq,YS,YT,YU,YV,YW,YX,YY,YZ,Ya,Yb,Yc,Yd,Ye,Yf] | simp only [Yg,Yh,true_and,Yi,Yj,Yk,Yl,Ym,Yn,Yo,Yp,Yq,Yr,Yt,Yu,Yv,Yw,Yx,Yy,Yz,XA,XB,XC,XD,XE,beq_self_eq_true,reduceIte,reduceCtorEq,↓reduceIte,XF,XG,XH, e2, hT'.wh.eq (hw'.pre q7), decide_true]))
  refine hn _ _ ?_
  clear hn hr K
  have m1 := pre_get (hp6.trans hp7) k1
  have m3 := pre_get (hp6.trans hp7) k3
  have i1 : itemV (.ref r0) (.int (-1)) H7 = some (.ref e0) := by
    have this : normIdx (-1) (rs.length + 1 + 1) = some (rs.length + 1) := by
      unfold normIdx; simp; omega
    unfold itemV
    simp [seqOf_list m1, this]
  have rd : ∀ {H' : Hp} {c : Nat}, H'[c]? = some (.list []) → PR H' c [] := fun q => ⟨[], q, .nil⟩
  have eq1 : eqD (H7 ++ [O.list []]) (.ref e0) (.ref H7.length) = some true := by
    rw [(rd (pre_get (pre_new _ _) m3)).eq (rd (get_new _ _))]; simp
  refine wSs_step fun K hn hr => ?_
  cases o with
  | none =>
    cases hN rfl
    (repeat (first | dsimp only [XI, XJ] | dsimp only [ZA,ZB,ZC,ZD,ZE,ZF,ZG,ZH,ZI,ZJ,ZK,ZL,ZM,ZN,ZO,ZP,ZQ,ZR,ZS,ZT,ZU,ZV,ZW,ZX,ZY,ZZ,Za,Zb,Zc,Zd,Ze,Zf,Zg,Zh,Zi,Zj,Zk,Zl,Zm,Zn,Zo,Zp,Zq,Zr,Zs,Zt,Zu,Zv,Zw,Zx,Zy,Zz,YA,YB,YC,YD,YE,YF,YG,YH,YI,YJ,YK,YL,YM,YN,YO,YP,YQ,YR,Env.set,cond_true,cond_false,String.reduceBEq,YS,YT,YU,YV,YW,YX,YY,YZ,Ya,Yb,Yc,Yd,Ye,Yf] | simp only [Yg,Yh,true_and,Yi,Yj,Yk,Yl,Ym,Yn,Yo,Yp,Yq,Yr,Yt,Yu,Yv,Yw,Yx,Yy,Yz,XA,XB,XC,XD,XE,beq_self_eq_true,reduceIte,reduceCtorEq,↓reduceIte,XF,XG,XH, e5, show (-1 : Int) = -1 from rfl, i1, eq1, e4]))
    exact hr _ _ _ (h _ (q7.trans (pre_new _ _)))
  | some M =>
    obtain ⟨a, rfl, hM⟩ := k5 M rfl
    obtain ⟨c, rfl, hD⟩ := id hm'
    have hM7 := pre_get (hp6.trans hp7) hM
    have mlen := (ho M rfl).1.len
    have l6 := ok.le
    (repeat (first | dsimp only [XI, XJ] | dsimp only [ZA,ZB,ZC,ZD,ZE,ZF,ZG,ZH,ZI,ZJ,ZK,ZL,ZM,ZN,ZO,ZP,ZQ,ZR,ZS,ZT,ZU,ZV,ZW,ZX,ZY,ZZ,Za,Zb,Zc,Zd,Ze,Zf,Zg,Zh,Zi,Zj,Zk,Zl,Zm,Zn,Zo,Zp,Zq,Zr,Zs,Zt,Zu,Zv,Zw,Zx,Zy,Zz,YA,YB,YC,YD,YE,YF,YG,YH,YI,YJ,YK,YL,YM,YN,YO,YP,YQ,YR,Env.set,cond_true,cond_false,String.reduceBEq,YS,YT,YU,YV,YW,YX,YY,YZ,Ya,Yb,Yc,Yd,Ye,Yf] | simp only [Yg,Yh,true_and,Yi,Yj,Yk,Yl,Ym,Yn,Yo,Yp,Yq,Yr,Yt,Yu,Yv,Yw,Yx,Yy,Yz,XA,XB,XC,XD,XE,beq_self_eq_true,reduceIte,reduceCtorEq,↓reduceIte,XF,XG,XH, e5, i1, eq1, e4, show isSame (.ref a) .none = some false from rfl, e3]))
    have p8 := q7.trans (pre_new H7 (.list []))
    have hM8 := pre_get (pre_new H7 (.list [])) hM7
    generalize H7 ++ [O.list []] = H8 at p8 hM8 ⊢
    have p9 := p8.trans (pre_new H8 (.list [.none]))
    have hD9 := hD.pre p9
    have hM9 := pre_get (pre_new H8 (.list [.none])) hM8
    have hN9 : (H8 ++ [O.list [.none]])[H8.length]? = some (.list [.none]) := get_new _ _
    rw [add_at hD9 hN9 (by simp; unfold lim; omega)]
    generalize H8 ++ [O.list [.none]] = H9 at p9 hD9 hM9 hN9 ⊢
    have hA : MT (H9 ++ [O.list (M.map ov ++ [.none])]) H9.length (M ++ [none]) := by unfold MT; rw [get_new]; simp [ov]
    have hB : MT (H9 ++ [O.list (M.map ov ++ [.none])]) a (M ++ [none]) := pre_get (pre_new _ _) hM9
    (repeat (first | dsimp only [XI, XJ] | dsimp only [ZA,ZB,ZC,ZD,ZE,ZF,ZG,ZH,ZI,ZJ,ZK,ZL,ZM,ZN,ZO,ZP,ZQ,ZR,ZS,ZT,ZU,ZV,ZW,ZX,ZY,ZZ,Za,Zb,Zc,Zd,Ze,Zf,Zg,Zh,Zi,Zj,Zk,Zl,Zm,Zn,Zo,Zp,Zq,Zr,Zs,Zt,Zu,Zv,Zw,Zx,Zy,Zz,YA,YB,YC,YD,YE,YF,YG,YH,YI,YJ,YK,YL,YM,YN,YO,YP,YQ,YR,Env.set,cond_true,cond_false,String.reduceBEq,YS,YT,YU,YV,YW,YX,YY,YZ,Ya,Yb,Yc,Yd,Ye,Yf] | simp only [Yg,Yh,true_and,Yi,Yj,Yk,Yl,Ym,Yn,Yo,Yp,Yq,Yr,Yt,Yu,Yv,Yw,Yx,Yy,Yz,XA,XB,XC,XD,XE,beq_self_eq_true,reduceIte,reduceCtorEq,↓reduceIte,XF,XG,XH, hB.eq hA, decide_true]))
    exact hr _ _ _ (h _ (p9.trans (pre_new _ _)))

theorem cut_map {α β : Type} (f : α → β) (xs : List α) (lo hi : Option Int) : cut (xs.map f) lo hi = (cut xs lo hi).map f := by
  unfold cut; rw [List.length_map, List.map_take, List.map_drop]
theorem cut_len {α : Type} (xs : List α) (lo : Option Int) (j : Nat) : (cut xs lo (some (j : Int))).length ≤ j := by
  unfold cut
  rw [List.length_take]
  have : clampIdx xs.length (j : Int) ≤ j := by unfold clampIdx; split <;> omega
  simp only [Option.elim_some]
  omega

theorem s_deeds (hP : P.fn "_law_deeds" = some f__law_deeds) (hP1 : P.fn "_law_cell_at" = some f__law_cell_at) {a : Nat} {is : List Int} (hs : H[a]? = some (.frozen (is.map .int))) {m : Nat} (h : ∀ H' r l, H <+: H' → H.length ≤ r → LI H' r l → l.length ≤ 20 → Q (.ref r) H') : callN P b (n + 2) "_law_deeds" [.ref a, .int (m : Int)] H Q X := by
  have hq : seqOf H a = some (is.map .int) := by unfold seqOf; rw [hs]
  have fin : ∀ j : Nat, j ≤ 20 → sliceV (.ref a) (some 10) (some (j : Int)) H = some (.ref H.length, H ++ [.list ((cut is (some 10) (some (j : Int))).map .int)]) ∧ Q (.ref H.length) (H ++ [.list ((cut is (some 10) (some (j : Int))).map .int)]) := fun j hj =>
    ⟨by rw [sl_frz hs, cut_map], h _ _ _ (pre_new _ _) (Nat.le_refl _) (LI.new _ _) (Nat.le_trans (cut_len _ _ _) hj)⟩
  have z18 : ((18 : Int) = 0 ∨ 2 ^ 30 ≤ (18 : Int).natAbs) = False := by decide
  have z8 : ((8 : Int) = 0) = False := by decide
  have z16 : ((16 : Int) = 0) = False := by decide
  (refine callN_in hP rfl ?_; unfold f__law_deeds)
  refine wSs_step fun K hn hr => ?_
  (repeat (first | dsimp only [XI, XJ] | dsimp only [ZA,ZB,ZC,ZD,ZE,ZF,ZG,ZH,ZI,ZJ,ZK,ZL,ZM,ZN,ZO,ZP,ZQ,ZR,ZS,ZT,ZU,ZV,ZW,ZX,ZY,ZZ,Za,Zb,Zc,Zd,Ze,Zf,Zg,Zh,Zi,Zj,Zk,Zl,Zm,Zn,Zo,Zp,Zq,Zr,Zs,Zt,Zu,Zv,Zw,Zx,Zy,Zz,YA,YB,YC,YD,YE,YF,YG,YH,YI,YJ,YK,YL,YM,YN,YO,YP,YQ,YR,Env.set,cond_true,cond_false,String.reduceBEq,YS,YT,YU,YV,YW,YX,YY,YZ,Ya,Yb,Yc,Yd,Ye,Yf] | simp only [Yg,Yh,true_and,Yi,Yj,Yk,Yl,Ym,Yn,Yo,Yp,Yq,Yr,Yt,Yu,Yv,Yw,Yx,Yy,Yz,XA,XB,XC,XD,XE,beq_self_eq_true,reduceIte,reduceCtorEq,↓reduceIte,XF,XG,XH]))
  refine s_cell_at (k := 0) hP1 hq ?_
  (repeat (first | dsimp only [XI, XJ] | dsimp only [ZA,ZB,ZC,ZD,ZE,ZF,ZG,ZH,ZI,ZJ,ZK,ZL,ZM,ZN,ZO,ZP,ZQ,ZR,ZS,ZT,ZU,ZV,ZW,ZX,ZY,ZZ,Za,Zb,Zc,Zd,Ze,Zf,Zg,Zh,Zi,Zj,Zk,Zl,Zm,Zn,Zo,Zp,Zq,Zr,Zs,Zt,Zu,Zv,Zw,Zx,Zy,Zz,YA,YB,YC,YD,YE,YF,YG,YH,YI,YJ,YK,YL,YM,YN,YO,YP,YQ,YR,Env.set,cond_true,cond_false,String.reduceBEq,YS,YT,YU,YV,YW,YX,YY,YZ,Ya,Yb,Yc,Yd,Ye,Yf] | simp only [Yg,Yh,true_and,Yi,Yj,Yk,Yl,Ym,Yn,Yo,Yp,Yq,Yr,Yt,Yu,Yv,Yw,Yx,Yy,Yz,XA,XB,XC,XD,XE,beq_self_eq_true,reduceIte,reduceCtorEq,↓reduceIte,XF,XG,XH, z18]))
  refine hn _ _ ?_
  clear hn hr K
  generalize (is.getD 0 0).fdiv 18 = c
  have tail : ∀ ρ : Env, ρ "_law_script" = some (.ref a) → ρ "_law_many" = some (.int (m : Int)) → ρ "_law_more" = some (.int c) → wSs ⟨b, callN P b (n + 1), P.glob⟩ [.ite (.op (.cmp .eq) [.var "_law_many", .int 6])
    [.ret (.op (.slice true true) [.var "_law_script", .int 10, .op (.bin .add) [.int 12, .op (.bin .mul) [.int 3, .op .int [.op (.cmp .eq) [.op (.bin .mod) [.var "_law_more", .int 16], .int 1]]]]])]
    [],
  .ret (.op (.slice true true) [.var "_law_script", .int 10, .int 20])] ρ H (fun r _ H' => Q (r.getD .none) H') X := by
    intro ρ e1 e2 e3
    by_cases h6 : m = 6
    · subst h6
      (repeat (first | dsimp only [XI, XJ] | dsimp only [ZA,ZB,ZC,ZD,ZE,ZF,ZG,ZH,ZI,ZJ,ZK,ZL,ZM,ZN,ZO,ZP,ZQ,ZR,ZS,ZT,ZU,ZV,ZW,ZX,ZY,ZZ,Za,Zb,Zc,Zd,Ze,Zf,Zg,Zh,Zi,Zj,Zk,Zl,Zm,Zn,Zo,Zp,Zq,Zr,Zs,Zt,Zu,Zv,Zw,Zx,Zy,Zz,YA,YB,YC,YD,YE,YF,YG,YH,YI,YJ,YK,YL,YM,YN,YO,YP,YQ,YR,Env.set,cond_true,cond_false,String.reduceBEq,YS,YT,YU,YV,YW,YX,YY,YZ,Ya,Yb,Yc,Yd,Ye,Yf] | simp only [Yg,Yh,true_and,Yi,Yj,Yk,Yl,Ym,Yn,Yo,Yp,Yq,Yr,Yt,Yu,Yv,Yw,Yx,Yy,Yz,XA,XB,XC,XD,XE,beq_self_eq_true,reduceIte,reduceCtorEq,↓reduceIte,XF,XG,XH, e1, e2, e3, z16, show (((6 : Nat) : Int) == 6) = true from rfl]))
      cases e : (c.fmod 16 == 1) with
      | true =>
        (repeat (first | dsimp only [XI, XJ] | dsimp only [ZA,ZB,ZC,ZD,ZE,ZF,ZG,ZH,ZI,ZJ,ZK,ZL,ZM,ZN,ZO,ZP,ZQ,ZR,ZS,ZT,ZU,ZV,ZW,ZX,ZY,ZZ,Za,Zb,Zc,Zd,Ze,Zf,Zg,Zh,Zi,Zj,Zk,Zl,Zm,Zn,Zo,Zp,Zq,Zr,Zs,Zt,Zu,Zv,Zw,Zx,Zy,Zz,YA,YB,YC,YD,YE,YF,YG,YH,YI,YJ,YK,YL,YM,YN,YO,YP,YQ,YR,Env.set,cond_true,cond_false,String.reduceBEq,YS,YT,YU,YV,YW,YX,YY,YZ,Ya,Yb,Yc,Yd,Ye,Yf] | simp only [Yg,Yh,true_and,Yi,Yj,Yk,Yl,Ym,Yn,Yo,Yp,Yq,Yr,Yt,Yu,Yv,Yw,Yx,Yy,Yz,XA,XB,XC,XD,XE,beq_self_eq_true,reduceIte,reduceCtorEq,↓reduceIte,XF,XG,XH, show intV (.bool true) = some (.int 1) from rfl, show mulV (.int 3) (.int 1) H = some (.int 3, H) from rfl, show (12 : Int) + 3 = ((15 : Nat) : Int) from rfl, (fin 15 (by omega)).1]))
        exact (fin 15 (by omega)).2
      | false =>
        (repeat (first | dsimp only [XI, XJ] | dsimp only [ZA,ZB,ZC,ZD,ZE,ZF,ZG,ZH,ZI,ZJ,ZK,ZL,ZM,ZN,ZO,ZP,ZQ,ZR,ZS,ZT,ZU,ZV,ZW,ZX,ZY,ZZ,Za,Zb,Zc,Zd,Ze,Zf,Zg,Zh,Zi,Zj,Zk,Zl,Zm,Zn,Zo,Zp,Zq,Zr,Zs,Zt,Zu,Zv,Zw,Zx,Zy,Zz,YA,YB,YC,YD,YE,YF,YG,YH,YI,YJ,YK,YL,YM,YN,YO,YP,YQ,YR,Env.set,cond_true,cond_false,String.reduceBEq,YS,YT,YU,YV,YW,YX,YY,YZ,Ya,Yb,Yc,Yd,Ye,Yf] | simp only [Yg,Yh,true_and,Yi,Yj,Yk,Yl,Ym,Yn,Yo,Yp,Yq,Yr,Yt,Yu,Yv,Yw,Yx,Yy,Yz,XA,XB,XC,XD,XE,beq_self_eq_true,reduceIte,reduceCtorEq,↓reduceIte,XF,XG,XH, show intV (.bool false) = some (.int 0) from rfl, show mulV (.int 3) (.int 0) H = some (.int 0, H) from rfl, show (12 : Int) + 0 = ((12 : Nat) : Int) from rfl, (fin 12 (by omega)).1]))
        exact (fin 12 (by omega)).2
    · have e6 : ((m : Int) == 6) = false := beq_eq_false_iff_ne.mpr (by omega)
      (repeat (first | dsimp only [XI, XJ] | dsimp only [ZA,ZB,ZC,ZD,ZE,ZF,ZG,ZH,ZI,ZJ,ZK,ZL,ZM,ZN,ZO,ZP,ZQ,ZR,ZS,ZT,ZU,ZV,ZW,ZX,ZY,ZZ,Za,Zb,Zc,Zd,Ze,Zf,Zg,Zh,Zi,Zj,Zk,Zl,Zm,Zn,Zo,Zp,Zq,Zr,Zs,Zt,Zu,Zv,Zw,Zx,Zy,Zz,YA,YB,YC,YD,YE,YF,YG,YH,YI,YJ,YK,YL,YM,YN,YO,YP,YQ,YR,Env.set,cond_true,cond_false,String.reduceBEq,YS,YT,YU,YV,YW,YX,YY,YZ,Ya,Yb,Yc,Yd,Ye,Yf] | simp only [Yg,Yh,true_and,Yi,Yj,Yk,Yl,Ym,Yn,Yo,Yp,Yq,Yr,Yt,Yu,Yv,Yw,Yx,Yy,Yz,XA,XB,XC,XD,XE,beq_self_eq_true,reduceIte,reduceCtorEq,↓reduceIte,XF,XG,XH, e1, e2, e3, e6]))
      rw [show (20 : Int) = ((20 : Nat) : Int) from rfl, (fin 20 (by omega)).1]
      exact (fin 20 (by omega)).2
  refine wSs_step fun K hn hr => ?_
  by_cases h5 : m = 5
  · subst h5
    (repeat (first | dsimp only [XI, XJ] | dsimp only [ZA,ZB,ZC,ZD,ZE,ZF,ZG,ZH,ZI,ZJ,ZK,ZL,ZM,ZN,ZO,ZP,ZQ,ZR,ZS,ZT,ZU,ZV,ZW,ZX,ZY,ZZ,Za,Zb,Zc,Zd,Ze,Zf,Zg,Zh,Zi,Zj,Zk,Zl,Zm,Zn,Zo,Zp,Zq,Zr,Zs,Zt,Zu,Zv,Zw,Zx,Zy,Zz,YA,YB,YC,YD,YE,YF,YG,YH,YI,YJ,YK,YL,YM,YN,YO,YP,YQ,YR,Env.set,cond_true,cond_false,String.reduceBEq,YS,YT,YU,YV,YW,YX,YY,YZ,Ya,Yb,Yc,Yd,Ye,Yf] | simp only [Yg,Yh,true_and,Yi,Yj,Yk,Yl,Ym,Yn,Yo,Yp,Yq,Yr,Yt,Yu,Yv,Yw,Yx,Yy,Yz,XA,XB,XC,XD,XE,beq_self_eq_true,reduceIte,reduceCtorEq,↓reduceIte,XF,XG,XH, show (((5 : Nat) : Int) == 5) = true from rfl, z8]))
    cases e : (c.fmod 8 == 1) with
    | true => (repeat (first | dsimp only [XI, XJ] | dsimp only [ZA,ZB,ZC,ZD,ZE,ZF,ZG,ZH,ZI,ZJ,ZK,ZL,ZM,ZN,ZO,ZP,ZQ,ZR,ZS,ZT,ZU,ZV,ZW,ZX,ZY,ZZ,Za,Zb,Zc,Zd,Ze,Zf,Zg,Zh,Zi,Zj,Zk,Zl,Zm,Zn,Zo,Zp,Zq,Zr,Zs,Zt,Zu,Zv,Zw,Zx,Zy,Zz,YA,YB,YC,YD,YE,YF,YG,YH,YI,YJ,YK,YL,YM,YN,YO,YP,YQ,YR,Env.set,cond_true,cond_false,String.reduceBEq,YS,YT,YU,YV,YW,YX,YY,YZ,Ya,Yb,Yc,Yd,Ye,Yf] | simp only [Yg,Yh,true_and,Yi,Yj,Yk,Yl,Ym,Yn,Yo,Yp,Yq,Yr,Yt,Yu,Yv,Yw,Yx,Yy,Yz,XA,XB,XC,XD,XE,beq_self_eq_true,reduceIte,reduceCtorEq,↓reduceIte,XF,XG,XH])); exact hn _ _ (tail _ rfl rfl rfl)
    | false =>
      (repeat (first | dsimp only [XI, XJ] | dsimp only [ZA,ZB,ZC,ZD,ZE,ZF,ZG,ZH,ZI,ZJ,ZK,ZL,ZM,ZN,ZO,ZP,ZQ,ZR,ZS,ZT,ZU,ZV,ZW,ZX,ZY,ZZ,Za,Zb,Zc,Zd,Ze,Zf,Zg,Zh,Zi,Zj,Zk,Zl,Zm,Zn,Zo,Zp,Zq,Zr,Zs,Zt,Zu,Zv,Zw,Zx,Zy,Zz,YA,YB,YC,YD,YE,YF,YG,YH,YI,YJ,YK,YL,YM,YN,YO,YP,YQ,YR,Env.set,cond_true,cond_false,String.reduceBEq,YS,YT,YU,YV,YW,YX,YY,YZ,Ya,Yb,Yc,Yd,Ye,Yf] | simp only [Yg,Yh,true_and,Yi,Yj,Yk,Yl,Ym,Yn,Yo,Yp,Yq,Yr,Yt,Yu,Yv,Yw,Yx,Yy,Yz,XA,XB,XC,XD,XE,beq_self_eq_true,reduceIte,reduceCtorEq,↓reduceIte,XF,XG,XH]))
      rw [show (12 : Int) = ((12 : Nat) : Int) from rfl, (fin 12 (by omega)).1]
      (repeat (first | dsimp only [XI, XJ] | dsimp only [ZA,ZB,ZC,ZD,ZE,ZF,ZG,ZH,ZI,ZJ,ZK,ZL,ZM,ZN,ZO,ZP,ZQ,ZR,ZS,ZT,ZU,ZV,ZW,ZX,ZY,ZZ,Za,Zb,Zc,Zd,Ze,Zf,Zg,Zh,Zi,Zj,Zk,Zl,Zm,Zn,Zo,Zp,Zq,Zr,Zs,Zt,Zu,Zv,Zw,Zx,Zy,Zz,YA,YB,YC,YD,YE,YF,YG,YH,YI,YJ,YK,YL,YM,YN,YO,YP,YQ,YR,Env.set,cond_true,cond_false,String.reduceBEq,YS,YT,YU,YV,YW,YX,YY,YZ,Ya,Yb,Yc,Yd,Ye,Yf] | simp only [Yg,Yh,true_and,Yi,Yj,Yk,Yl,Ym,Yn,Yo,Yp,Yq,Yr,Yt,Yu,Yv,Yw,Yx,Yy,Yz,XA,XB,XC,XD,XE,beq_self_eq_true,reduceIte,reduceCtorEq,↓reduceIte,XF,XG,XH]))
      exact hr _ _ _ (fin 12 (by omega)).2
  · have e5 : ((m : Int) == 5) = false := beq_eq_false_iff_ne.mpr (by omega)
    (repeat (first | dsimp only [XI, XJ] | dsimp only [ZA,ZB,ZC,ZD,ZE,ZF,ZG,ZH,ZI,ZJ,ZK,ZL,ZM,ZN,ZO,ZP,ZQ,ZR,ZS,ZT,ZU,ZV,ZW,ZX,ZY,ZZ,Za,Zb,Zc,Zd,Ze,Zf,Zg,Zh,Zi,Zj,Zk,Zl,Zm,Zn,Zo,Zp,Zq,Zr,Zs,Zt,Zu,Zv,Zw,Zx,Zy,Zz,YA,YB,YC,YD,YE,YF,YG,YH,YI,YJ,YK,YL,YM,YN,YO,YP,YQ,YR,Env.set,cond_true,cond_false,String.reduceBEq,YS,YT,YU,YV,YW,YX,YY,YZ,Ya,Yb,Yc,Yd,Ye,Yf] | simp only [Yg,Yh,true_and,Yi,Yj,Yk,Yl,Ym,Yn,Yo,Yp,Yq,Yr,Yt,Yu,Yv,Yw,Yx,Yy,Yz,XA,XB,XC,XD,XE,beq_self_eq_true,reduceIte,reduceCtorEq,↓reduceIte,XF,XG,XH, e5]))
    exact hn _ _ (tail _ rfl rfl rfl)
end
end Mine

namespace Mine
open PySem

theorem pre_of {H H' : Hp} (h : ∀ (c : Nat) (o : O), H[c]? = some o → H'[c]? = some o) : H <+: H' := by
  rw [List.prefix_iff_getElem?]
  intro i hi
  rw [h i _ (List.getElem?_eq_getElem hi)]
theorem pre_mask {H H' : Hp} (hp : H <+: H') {r : Nat} (hr : r < H.length) (o : O) : H.set r o <+: H'.set r o := by
  obtain ⟨t, rfl⟩ := hp
  rw [List.set_append_left _ _ hr]; exact List.prefix_append _ _

/-- a pair of the law's memory -/
noncomputable def HE (S : List Nat) (H : Hp) (v : V) : Prop := ∃ t x y mt tb du cp M W, v = .ref t ∧ H[t]? = some (.tuple [.ref x, .ref y]) ∧ H[x]? = some (.list [mt, .ref tb]) ∧ H[y]? = some (.list [du, .ref cp]) ∧ MV H mt M ∧ MV H du M ∧ WH H tb W ∧ WH H cp W ∧ ∀ c ∈ [t, x, y, tb, cp], c ∉ S
theorem HE.kp {S : List Nat} {H H' : Hp} {v : V} (h : HE S H v) (k : Kp S H H') (nv : ∀ s ∈ S, NotV H s) : HE S H' v := by
  obtain ⟨t, x, y, mt, tb, du, cp, M, W, e, h1, h2, h3, h4, h5, h6, h7, h8⟩ := h
  exact ⟨t, x, y, mt, tb, du, cp, M, W, e, k _ _ (h8 t (by simp)) h1, k _ _ (h8 x (by simp)) h2, k _ _ (h8 y (by simp)) h3, h4.kp k nv, h5.kp k nv, h6.kp k nv (h8 tb (by simp)), h7.kp k nv (h8 cp (by simp)), h8⟩

/-- what stays the same all the time -/
structure Cs where
  (w x d iw x2 d2 iw2 old dd hh : Nat)
  (mv2 st : V)
  (W0 : List (List Int))
  (o0 : Option Mt)
  (l : List Int)
noncomputable def Cs.S (c : Cs) : List Nat := [c.w, c.iw, c.d, c.hh]
structure Cs.Ok (c : Cs) : Prop where
  far : ∀ a ∈ [c.x2, c.d2, c.iw2, c.old], a ∉ c.S
  hh : ∀ a ∈ [c.w, c.x, c.d, c.iw], a ≠ c.hh
  wi : c.w ≠ c.iw
structure Sta (c : Cs) (hs : List V) (H : Hp) : Prop where
  inn : INN H c.x2 c.d2 c.iw2 c.mv2
  wi : WH H c.iw2 c.W0
  wo : WH H c.old c.W0
  m1 : MV H c.mv2 c.o0
  m2 : MV H c.st c.o0
  deeds : LI H c.dd c.l
  hist : ∀ v ∈ hs, HE c.S H v
structure Dyn (c : Cs) (H : Hp) (mv due : V) (W : List (List Int)) (o : Option Mt) : Prop where
  inn : INN H c.x c.d c.iw mv
  wi : WH H c.iw W
  ww : WH H c.w W
  m1 : MV H mv o
  m2 : MV H due o

theorem Sta.kp {c : Cs} (ok : c.Ok) {hs : List V} {H H' : Hp} (h : Sta c hs H) (k : Kp c.S H H') (nv : ∀ s ∈ c.S, NotV H s) : Sta c hs H' :=
  ⟨h.inn.kp k (ok.far _ (by simp)) (ok.far _ (by simp)), h.wi.kp k nv (ok.far _ (by simp)), h.wo.kp k nv (ok.far _ (by simp)), h.m1.kp k nv, h.m2.kp k nv, h.deeds.kp k nv, fun v hv => (h.hist v hv).kp k nv⟩
theorem HE.pre {S : List Nat} {H H' : Hp} {v : V} (h : HE S H v) (hp : H <+: H') : HE S H' v := by
  obtain ⟨t, x, y, mt, tb, du, cp, M, W, e, h1, h2, h3, h4, h5, h6, h7, h8⟩ := h
  exact ⟨t, x, y, mt, tb, du, cp, M, W, e, pre_get hp h1, pre_get hp h2, pre_get hp h3, h4.pre hp, h5.pre hp, h6.pre hp, h7.pre hp, h8⟩
theorem Sta.pre {c : Cs} {hs : List V} {H H' : Hp} (h : Sta c hs H) (hp : H <+: H') : Sta c hs H' :=
  ⟨h.inn.pre hp, h.wi.pre hp, h.wo.pre hp, h.m1.pre hp, h.m2.pre hp, h.deeds.pre hp, fun v hv => (h.hist v hv).pre hp⟩
theorem Dyn.pre {c : Cs} {H H' : Hp} {mv due : V} {W : List (List Int)} {o : Option Mt} (h : Dyn c H mv due W o) (hp : H <+: H') : Dyn c H' mv due W o :=
  ⟨h.inn.pre hp, h.wi.pre hp, h.ww.pre hp, h.m1.pre hp, h.m2.pre hp⟩
theorem Dyn.kp {c : Cs} (ok : c.Ok) {H H' : Hp} {mv due : V} {W : List (List Int)} {o : Option Mt} (h : Dyn c H mv due W o) (k : Kp [c.hh] H H') (nv : NotV H c.hh) : Dyn c H' mv due W o := by
  have nv' : ∀ s ∈ [c.hh], NotV H s := fun s q => by cases List.mem_singleton.mp q; exact nv
  have aw : ∀ a ∈ [c.w, c.x, c.d, c.iw], a ∉ [c.hh] := fun a q r => ok.hh a q (List.mem_singleton.mp r)
  exact ⟨h.inn.kp k (aw _ (by simp)) (aw _ (by simp)), h.wi.kp k nv' (aw _ (by simp)), h.ww.kp k nv' (aw _ (by simp)), h.m1.kp k nv', h.m2.kp k nv'⟩
theorem Dyn.nv {c : Cs} {H : Hp} {mv due : V} {W : List (List Int)} {o : Option Mt} (h : Dyn c H mv due W o) (hW : W ≠ []) (nv : NotV H c.hh) : ∀ s ∈ c.S, NotV H s := fun s q => by
  simp only [Cs.S, List.mem_cons, List.not_mem_nil, or_false] at q
  rcases q with rfl | rfl | rfl | rfl
  · exact h.ww.notV hW
  · exact h.wi.notV hW
  · exact NotV.of h.inn.names fun _ q => by cases q
  · exact nv
theorem WOk.ne {W : List (List Int)} (ok : WOk W) : W ≠ [] := fun e => by have := ok.pos; rw [e] at this; simp at this

/-- no row with that thing in it -/
noncomputable def BadFor (l : List Int) (g m : Nat) (v : V) : Prop := (∃ i, v = .int i ∧ ∀ k, rowB (l.take k ++ i :: l.drop k) g m = false) ∨ ∃ q, v = .bool q
theorem bad_not {l : List Int} {g m : Nat} {i : Int} (h : ∀ k, ¬ ((∀ x ∈ l.take k ++ i :: l.drop k, 0 ≤ x ∧ x < (m : Int)) ∧ (g : Int) ∉ l.take k ++ i :: l.drop k ∧ (l.take k ++ i :: l.drop k).Nodup)) : BadFor l g m (.int i) := .inl ⟨i, rfl, fun k => by
  cases e : rowB (l.take k ++ i :: l.drop k) g m with
  | false => rfl
  | true => exact absurd (rowB_iff.mp e) (h k)⟩
theorem bad_g (l : List Int) (g m : Nat) : BadFor l g m (.int (g : Int)) := bad_not fun k q => q.2.1 (by simp)
theorem bad_m (l : List Int) (g m : Nat) : BadFor l g m (.int (m : Int)) := bad_not fun k q => by have := (q.1 m (by simp)).2; omega
theorem bad_1 (l : List Int) (g m : Nat) : BadFor l g m (.int (-1)) := bad_not fun k q => by have := (q.1 (-1) (by simp)).1; omega
theorem bad_0 {l : List Int} (g m : Nat) {x : Int} (h : x ∈ l) : BadFor l g m (.int x) := bad_not fun k q => by
  have hd := q.2.2
  rw [← List.take_append_drop k l, List.mem_append] at h
  have hp : (l.take k ++ x :: l.drop k).Perm (x :: (l.take k ++ l.drop k)) := List.perm_middle
  have := (hp.nodup_iff.mp hd)
  rw [List.nodup_cons] at this
  exact this.1 (List.mem_append.mpr h)

section
variable {P : Prog} {b : Bool} {n : Nat} {H : Hp} {Q : Post} {X : XP}

theorem rowBad_for (hP4 : P.fn "is_row" = some f_is_row) (hP5 : P.fn "is_guest" = some f_is_guest) {l : List Int} {g m k a : Nat} {v : V} (hb : BadFor l g m v) (ok : RowOk l g m) (ha : H[a]? = some (.list ((l.take k).map .int ++ [v] ++ (l.drop k).map .int))) : RowBad P b (.ref a) g m H := by
  have hlen : (l.take k).length + (l.drop k).length = l.length := by rw [← List.length_append, List.take_append_drop]
  have l6 := ok.len
  rcases hb with ⟨i, rfl, hb⟩ | ⟨q, rfl⟩
  · refine rowBad_ints hP4 hP5 (l := l.take k ++ i :: l.drop k) ?_ (by rw [List.length_append, List.length_cons]; unfold lim; omega) (hb k)
    unfold LI; rw [ha]; simp
  · refine rowBad_thing hP4 hP5 (l := l.take k) (t := .bool q) (B := (l.drop k).map .int) (by rw [ha]; simp) (by simp only [List.length_append, List.length_map, List.length_cons]; unfold lim; omega) (rowB_take (rowB_iff.mpr ⟨ok.low, ok.ne, ok.nodup⟩) k) fun _ _ => .inr ⟨q, rfl⟩

/-- a new inn -/
theorem w_newInn {C : Ctx} {e : E} {ρ : Env} {N : Nat} (hC : C.call = callN P b (N + 12)) (hPi : P.fn "Inn.__init__" = some f_Inn___init__) (hP9 : P.fn "first_calm" = some f_first_calm) (hP : P.fn "all_calm" = some f_all_calm) (hP0 : P.fn "all_twos" = some f_all_twos) (hP1 : P.fn "need_wishes" = some f_need_wishes) (hP4 : P.fn "is_row" = some f_is_row) (hP5 : P.fn "is_guest" = some f_is_guest) (hP6 : P.fn "both_wish" = some f_both_wish) (hP7 : P.fn "settled" = some f_settled) (hG : P.glob "MOST_GUESTS" = some (.int 6))
    (hP3 : P.fn "found_restless" = some f_found_restless) (hP8 : P.fn "sooner" = some f_sooner) {w : Nat} {W : List (List Int)} {H1 : Hp} (hs : ∀ (Q : Post), Q (.ref w) H1 → wE C e ρ H Q X) (hw : WH H1 w W) (ok : WOk W)
    (h : ∀ H' x d iw mv, H1 <+: H' → H1.length ≤ x → H1.length ≤ d → H1.length ≤ iw → iw ≠ d → INN H' x d iw mv → WHf H1.length H' iw W → MV H' mv (firstC W) → (∀ a, mv = .ref a → H1.length ≤ a) → Q (.ref x) H') : wE C (.new "Inn" [e]) ρ H Q X := by
  rw [e_new, es_cons]
  refine hs _ ?_
  rw [es_nil, hC, show (("Inn" ++ "." ++ "__init__" : String)) = "Inn.__init__" from by decide]
  have p1 : H1 <+: H1 ++ [O.fdict [], O.inst "Inn" H1.length] := List.prefix_append _ _
  have hl : (H1 ++ [O.fdict [], O.inst "Inn" H1.length]).length = H1.length + 2 := by simp
  refine s_init hPi hP9 hP hP0 hP1 hP4 hP5 hP6 hP7 hG hP3 hP8 (get2b _ _ _) (get2a _ _ _) (hw.pre p1) ok fun H' iw mv hk hI hiw hW hm hf => ⟨rfl, ?_⟩
  refine h H' _ _ iw mv (pre_of fun c o q => hk c o (fun r => ?_) (pre_get p1 q)) (by omega) (Nat.le_refl _) (by omega) (by omega) hI (hW.le (by omega)) hm (fun a q => by have := hf a q; omega)
  cases List.mem_singleton.mp r
  have := (List.getElem?_eq_some_iff.mp q).1
  omega
end
end Mine

namespace Mine
open PySem

noncomputable def rnames : List String := ["_law_many", "_law_wishes", "_law_inn", "_law_beside", "_law_due", "_law_start", "_law_old", "_law_held_here"]
structure Rho (c : Cs) (m : Nat) (due : V) (ρ : Env) : Prop where
  many : ρ "_law_many" = some (.int (m : Int))
  wishes : ρ "_law_wishes" = some (.ref c.w)
  inn : ρ "_law_inn" = some (.ref c.x)
  beside : ρ "_law_beside" = some (.ref c.x2)
  due : ρ "_law_due" = some due
  start : ρ "_law_start" = some c.st
  old : ρ "_law_old" = some (.ref c.old)
  held : ρ "_law_held_here" = some (.ref c.hh)
theorem set_other {ρ : Env} {x y : String} {v : V} {r : Option V} (h : ρ x = r) (hy : (x == y) = false) : (ρ.set y v) x = r := by
  show cond (x == y) (some v) (ρ x) = r
  rw [hy]; exact h
theorem Rho.set {c : Cs} {m : Nat} {due : V} {ρ : Env} (h : Rho c m due ρ) {y : String} (hy : rnames.all (fun n => !(n == y)) = true) (v : V) : Rho c m due (ρ.set y v) := by
  have q : ∀ n ∈ rnames, (n == y) = false := fun n hn => by simpa using List.all_eq_true.mp hy n hn
  exact ⟨set_other h.many (q _ (by simp [rnames])), set_other h.wishes (q _ (by simp [rnames])), set_other h.inn (q _ (by simp [rnames])), set_other h.beside (q _ (by simp [rnames])), set_other h.due (q _ (by simp [rnames])), set_other h.start (q _ (by simp [rnames])), set_other h.old (q _ (by simp [rnames])), set_other h.held (q _ (by simp [rnames]))⟩
theorem Rho.setDue {c : Cs} {m : Nat} {due : V} {ρ : Env} (h : Rho c m due ρ) (v : V) : Rho c m v (ρ.set "_law_due" v) :=
  ⟨set_other h.many (by decide), set_other h.wishes (by decide), set_other h.inn (by decide), set_other h.beside (by decide), rfl, set_other h.start (by decide), set_other h.old (by decide), set_other h.held (by decide)⟩

/-- while a deed is done -/
structure Mid (c : Cs) (m i : Nat) (ρ : Env) (H : Hp) (mv due : V) (W : List (List Int)) (o : Option Mt) (hs : List V) : Prop where
  hh : H[c.hh]? = some (.list hs)
  len : hs.length ≤ i
  ref : ∃ t rest, hs = .ref t :: rest
  dyn : Dyn c H mv due W o
  sta : Sta c hs H
  wok : WOk W
  wlen : W.length = m
  gm : GM W o
  rho : Rho c m due ρ
theorem Mid.nv {c : Cs} {m i : Nat} {ρ : Env} {H : Hp} {mv due : V} {W : List (List Int)} {o : Option Mt} {hs : List V} (h : Mid c m i ρ H mv due W o hs) : NotV H c.hh := by
  obtain ⟨t, rest, e⟩ := h.ref
  have := h.hh
  rw [e] at this
  exact NotV.refs this
theorem Mid.pre {c : Cs} {m i : Nat} {ρ : Env} {H H' : Hp} {mv due : V} {W : List (List Int)} {o : Option Mt} {hs : List V} (h : Mid c m i ρ H mv due W o hs) (hp : H <+: H') : Mid c m i ρ H' mv due W o hs :=
  ⟨pre_get hp h.hh, h.len, h.ref, h.dyn.pre hp, h.sta.pre hp, h.wok, h.wlen, h.gm, h.rho⟩
theorem Mid.set {c : Cs} {m i : Nat} {ρ : Env} {H : Hp} {mv due : V} {W : List (List Int)} {o : Option Mt} {hs : List V} (h : Mid c m i ρ H mv due W o hs) {y : String} (hy : rnames.all (fun n => !(n == y)) = true) (v : V) : Mid c m i (ρ.set y v) H mv due W o hs :=
  ⟨h.hh, h.len, h.ref, h.dyn, h.sta, h.wok, h.wlen, h.gm, h.rho.set hy v⟩

/-- between the deeds -/
noncomputable def I10 (c : Cs) (m i : Nat) (ρ : Env) (H : Hp) : Prop := ∃ hs mv due W o, H[c.hh]? = some (.list hs) ∧ hs.length ≤ i ∧ Dyn c (H.set c.hh (.fdict [])) mv due W o ∧ Sta c hs (H.set c.hh (.fdict [])) ∧ WOk W ∧ W.length = m ∧ GM W o ∧ Rho c m due ρ
theorem Mid.end {c : Cs} (ok : c.Ok) {m i : Nat} {ρ : Env} {H : Hp} {mv due : V} {W : List (List Int)} {o : Option Mt} {hs : List V} (h : Mid c m i ρ H mv due W o hs) : I10 c m i ρ H :=
  ⟨hs, mv, due, W, o, h.hh, h.len, h.dyn.kp ok (Kp.set (.head _) _) h.nv, h.sta.kp ok (Kp.set (by simp [Cs.S]) _) (h.dyn.nv h.wok.ne h.nv), h.wok, h.wlen, h.gm, h.rho⟩

theorem w_copyF {C : Ctx} {x y : String} {ρ : Env} {H : Hp} {Q : Post} {X : XP} {w : Nat} {W : List (List Int)} (hρ : ρ x = some (.ref w)) (hw : WH H w W) (h : ∀ H' r, H <+: H' → H.length ≤ r → WHf H.length H' r W → Q (.ref r) H') : wE C (copyE x y) ρ H Q X := by
  unfold copyE
  exact w_copyE (fun Q hq => by (repeat (first | dsimp only [XI, XJ] | dsimp only [ZA,ZB,ZC,ZD,ZE,ZF,ZG,ZH,ZI,ZJ,ZK,ZL,ZM,ZN,ZO,ZP,ZQ,ZR,ZS,ZT,ZU,ZV,ZW,ZX,ZY,ZZ,Za,Zb,Zc,Zd,Ze,Zf,Zg,Zh,Zi,Zj,Zk,Zl,Zm,Zn,Zo,Zp,Zq,Zr,Zs,Zt,Zu,Zv,Zw,Zx,Zy,Zz,YA,YB,YC,YD,YE,YF,YG,YH,YI,YJ,YK,YL,YM,YN,YO,YP,YQ,YR,Env.set,cond_true,cond_false,String.reduceBEq,YS,YT,YU,YV,YW,YX,YY,YZ,Ya,Yb,Yc,Yd,Ye,Yf] | simp only [Yg,Yh,true_and,Yi,Yj,Yk,Yl,Ym,Yn,Yo,Yp,Yq,Yr,Yt,Yu,Yv,Yw,Yx,Yy,Yz,XA,XB,XC,XD,XE,beq_self_eq_true,reduceIte,reduceCtorEq,↓reduceIte,XF,XG,XH, hρ])); exact hq) hw h

noncomputable abbrev C10 : Ctx := ⟨false, callN prog10 false 199, prog10.glob⟩

noncomputable def memoS : S := .expr (.mcall .append (.var "_law_held_here") [.op .mkTuple [.op .mkList [.meth "twos" (.var "_law_inn") [], .meth "table" (.var "_law_inn") []], .op .mkList [.var "_law_due", copyE "_law_wishes" "_law_row"]]])

theorem w_memo {c : Cs} (ok : c.Ok) {m i : Nat} {ρ : Env} {H : Hp} {K : SPost} {X : SXP} (hi : i < 100) (hI : I10 c m i ρ H) (hn : ∀ H' mv due W o hs, Mid c m (i + 1) ρ H' mv due W o hs → K none ρ H') : wS C10 memoS ρ H K X := by
  obtain ⟨hs, mv, due, W, o, hh, hlen, D, St, wok, wlen, gm, e⟩ := hI
  have hlt : c.hh < H.length := (List.getElem?_eq_some_iff.mp hh).1
  have ml : (H.set c.hh (.fdict [])).length = H.length := List.length_set ..
  have mg : (H.set c.hh (.fdict []))[c.hh]? = some (.fdict []) := get_set_eq hh _
  have kum : Kp [c.hh] (H.set c.hh (.fdict [])) H := fun a o hc e => by
    rw [get_set_ne (fun q => hc (by rw [q]; exact .head _))] at e; exact e
  have D0 : Dyn c H mv due W o := D.kp ok kum (NotV.of mg fun _ q => by cases q)
  have n1 : ("Inn" ++ "." ++ "twos" : String) = "Inn.twos" := by decide
  have n2 : ("Inn" ++ "." ++ "table" : String) = "Inn.table" := by decide
  unfold memoS
  (repeat (first | dsimp only [XI, XJ] | dsimp only [ZA,ZB,ZC,ZD,ZE,ZF,ZG,ZH,ZI,ZJ,ZK,ZL,ZM,ZN,ZO,ZP,ZQ,ZR,ZS,ZT,ZU,ZV,ZW,ZX,ZY,ZZ,Za,Zb,Zc,Zd,Ze,Zf,Zg,Zh,Zi,Zj,Zk,Zl,Zm,Zn,Zo,Zp,Zq,Zr,Zs,Zt,Zu,Zv,Zw,Zx,Zy,Zz,YA,YB,YC,YD,YE,YF,YG,YH,YI,YJ,YK,YL,YM,YN,YO,YP,YQ,YR,Env.set,cond_true,cond_false,String.reduceBEq,YS,YT,YU,YV,YW,YX,YY,YZ,Ya,Yb,Yc,Yd,Ye,Yf] | simp only [Yg,Yh,true_and,Yi,Yj,Yk,Yl,Ym,Yn,Yo,Yp,Yq,Yr,Yt,Yu,Yv,Yw,Yx,Yy,Yz,XA,XB,XC,XD,XE,beq_self_eq_true,reduceIte,reduceCtorEq,↓reduceIte,XF,XG,XH, e.held, (recvL hh).1, e.inn, e_meth, D0.inn.inst, n1]))
  refine s_twos rfl D0.inn D0.m1 fun H1 v hp1 hv hf => ?_
  (repeat (first | dsimp only [XI, XJ] | dsimp only [ZA,ZB,ZC,ZD,ZE,ZF,ZG,ZH,ZI,ZJ,ZK,ZL,ZM,ZN,ZO,ZP,ZQ,ZR,ZS,ZT,ZU,ZV,ZW,ZX,ZY,ZZ,Za,Zb,Zc,Zd,Ze,Zf,Zg,Zh,Zi,Zj,Zk,Zl,Zm,Zn,Zo,Zp,Zq,Zr,Zs,Zt,Zu,Zv,Zw,Zx,Zy,Zz,YA,YB,YC,YD,YE,YF,YG,YH,YI,YJ,YK,YL,YM,YN,YO,YP,YQ,YR,Env.set,cond_true,cond_false,String.reduceBEq,YS,YT,YU,YV,YW,YX,YY,YZ,Ya,Yb,Yc,Yd,Ye,Yf] | simp only [Yg,Yh,true_and,Yi,Yj,Yk,Yl,Ym,Yn,Yo,Yp,Yq,Yr,Yt,Yu,Yv,Yw,Yx,Yy,Yz,XA,XB,XC,XD,XE,beq_self_eq_true,reduceIte,reduceCtorEq,↓reduceIte,XF,XG,XH, e.inn, e_meth, (D0.inn.pre hp1).inst, n2]))
  refine s_table rfl (D0.inn.pre hp1) (D0.wi.pre hp1) fun H2 r hp2 hrl hT => ?_
  (repeat (first | dsimp only [XI, XJ] | dsimp only [ZA,ZB,ZC,ZD,ZE,ZF,ZG,ZH,ZI,ZJ,ZK,ZL,ZM,ZN,ZO,ZP,ZQ,ZR,ZS,ZT,ZU,ZV,ZW,ZX,ZY,ZZ,Za,Zb,Zc,Zd,Ze,Zf,Zg,Zh,Zi,Zj,Zk,Zl,Zm,Zn,Zo,Zp,Zq,Zr,Zs,Zt,Zu,Zv,Zw,Zx,Zy,Zz,YA,YB,YC,YD,YE,YF,YG,YH,YI,YJ,YK,YL,YM,YN,YO,YP,YQ,YR,Env.set,cond_true,cond_false,String.reduceBEq,YS,YT,YU,YV,YW,YX,YY,YZ,Ya,Yb,Yc,Yd,Ye,Yf] | simp only [Yg,Yh,true_and,Yi,Yj,Yk,Yl,Ym,Yn,Yo,Yp,Yq,Yr,Yt,Yu,Yv,Yw,Yx,Yy,Yz,XA,XB,XC,XD,XE,beq_self_eq_true,reduceIte,reduceCtorEq,↓reduceIte,XF,XG,XH, e.due]))
  have hx3 : (H2 ++ [O.list [v, .ref r]])[H2.length]? = some (.list [v, .ref r]) := get_new _ _
  have hp3 : H2 <+: H2 ++ [O.list [v, .ref r]] := pre_new _ _
  have hl3 : (H2 ++ [O.list [v, .ref r]]).length = H2.length + 1 := by simp
  generalize H2 ++ [O.list [v, .ref r]] = H3 at hx3 hp3 hl3 ⊢
  have hp03 := hp1.trans (hp2.trans hp3)
  refine w_copyF (w := c.w) e.wishes (D0.ww.pre hp03) fun H4 cp hp4 hcp hC => ?_
  (repeat (first | dsimp only [XI, XJ] | dsimp only [ZA,ZB,ZC,ZD,ZE,ZF,ZG,ZH,ZI,ZJ,ZK,ZL,ZM,ZN,ZO,ZP,ZQ,ZR,ZS,ZT,ZU,ZV,ZW,ZX,ZY,ZZ,Za,Zb,Zc,Zd,Ze,Zf,Zg,Zh,Zi,Zj,Zk,Zl,Zm,Zn,Zo,Zp,Zq,Zr,Zs,Zt,Zu,Zv,Zw,Zx,Zy,Zz,YA,YB,YC,YD,YE,YF,YG,YH,YI,YJ,YK,YL,YM,YN,YO,YP,YQ,YR,Env.set,cond_true,cond_false,String.reduceBEq,YS,YT,YU,YV,YW,YX,YY,YZ,Ya,Yb,Yc,Yd,Ye,Yf] | simp only [Yg,Yh,true_and,Yi,Yj,Yk,Yl,Ym,Yn,Yo,Yp,Yq,Yr,Yt,Yu,Yv,Yw,Yx,Yy,Yz,XA,XB,XC,XD,XE,beq_self_eq_true,reduceIte,reduceCtorEq,↓reduceIte,XF,XG,XH]))
  have hy5 : (H4 ++ [O.list [due, .ref cp]])[H4.length]? = some (.list [due, .ref cp]) := get_new _ _
  have hp5 : H4 <+: H4 ++ [O.list [due, .ref cp]] := pre_new _ _
  have hl5 : (H4 ++ [O.list [due, .ref cp]]).length = H4.length + 1 := by simp
  generalize H4 ++ [O.list [due, .ref cp]] = H5 at hy5 hp5 hl5 ⊢
  have hz6 : (H5 ++ [O.tuple [.ref H2.length, .ref H4.length]])[H5.length]? = some (.tuple [.ref H2.length, .ref H4.length]) := get_new _ _
  have hp6 : H5 <+: H5 ++ [O.tuple [.ref H2.length, .ref H4.length]] := pre_new _ _
  generalize H5 ++ [O.tuple [.ref H2.length, .ref H4.length]] = H6 at hz6 hp6 ⊢
  have hp06 : H <+: H6 := hp03.trans (hp4.trans (hp5.trans hp6))
  have hh6 := pre_get hp06 hh
  (repeat (first | dsimp only [XI, XJ] | dsimp only [ZA,ZB,ZC,ZD,ZE,ZF,ZG,ZH,ZI,ZJ,ZK,ZL,ZM,ZN,ZO,ZP,ZQ,ZR,ZS,ZT,ZU,ZV,ZW,ZX,ZY,ZZ,Za,Zb,Zc,Zd,Ze,Zf,Zg,Zh,Zi,Zj,Zk,Zl,Zm,Zn,Zo,Zp,Zq,Zr,Zs,Zt,Zu,Zv,Zw,Zx,Zy,Zz,YA,YB,YC,YD,YE,YF,YG,YH,YI,YJ,YK,YL,YM,YN,YO,YP,YQ,YR,Env.set,cond_true,cond_false,String.reduceBEq,YS,YT,YU,YV,YW,YX,YY,YZ,Ya,Yb,Yc,Yd,Ye,Yf] | simp only [Yg,Yh,true_and,Yi,Yj,Yk,Yl,Ym,Yn,Yo,Yp,Yq,Yr,Yt,Yu,Yv,Yw,Yx,Yy,Yz,XA,XB,XC,XD,XE,beq_self_eq_true,reduceIte,reduceCtorEq,↓reduceIte,XF,XG,XH, append_at (v := .ref H5.length) hh6 (by unfold lim; omega)]))
  have a1 := hp1.length_le
  have a2 := hp2.length_le
  have a4 := hp4.length_le
  have a5 := hp5.length_le
  have pm : H.set c.hh (.fdict []) <+: H6.set c.hh (.fdict []) := pre_mask hp06 hlt _
  have nvm : NotV (H6.set c.hh (.fdict [])) c.hh := NotV.of (get_set_eq hh6 _) fun _ q => by cases q
  have k7 : ∀ S : List Nat, c.hh ∈ S → Kp S (H6.set c.hh (.fdict [])) (H6.set c.hh (.list (hs ++ [.ref H5.length]))) := fun S q => by
    have := Kp.set (S := S) (H := H6.set c.hh (.fdict [])) q (.list (hs ++ [.ref H5.length]))
    rw [List.set_set] at this; exact this
  have D7 := (D.pre pm).kp ok (k7 _ (.head _)) nvm
  have S7 := (St.pre pm).kp ok (k7 _ (by simp [Cs.S])) ((D.pre pm).nv wok.ne nvm)
  have g7 : ∀ {a : Nat} {o : O}, H.length ≤ a → H6[a]? = some o → (H6.set c.hh (.list (hs ++ [.ref H5.length])))[a]? = some o := fun ha q => by
    rw [get_set_ne (by omega)]; exact q
  have lt : ∀ s ∈ c.S, s < H.length := fun s hs => by
    have gl : ∀ {a : Nat} {o : O}, H[a]? = some o → a < H.length := fun q => (List.getElem?_eq_some_iff.mp q).1
    simp only [Cs.S, List.mem_cons, List.not_mem_nil, or_false] at hs
    rcases hs with rfl | rfl | rfl | rfl
    · obtain ⟨_, q, _⟩ := D0.ww; exact gl q
    · obtain ⟨_, q, _⟩ := D0.wi; exact gl q
    · exact gl D0.inn.names
    · exact hlt
  have vm : MV (H6.set c.hh (.list (hs ++ [.ref H5.length]))) v o := by
    cases o with
    | none => exact hv
    | some M =>
      obtain ⟨a, rfl, hM⟩ := hv
      exact ⟨a, rfl, g7 (hf a rfl) (pre_get (hp2.trans (hp3.trans (hp4.trans (hp5.trans hp6)))) hM)⟩
  have t7 : WH (H6.set c.hh (.list (hs ++ [.ref H5.length]))) r W := ((hT.pre (hp3.trans (hp4.trans (hp5.trans hp6)))).far hrl (by omega) _).wh
  have c7 : WH (H6.set c.hh (.list (hs ++ [.ref H5.length]))) cp W := ((hC.pre (hp5.trans hp6)).far hcp (by omega) _).wh
  have new : HE c.S (H6.set c.hh (.list (hs ++ [.ref H5.length]))) (.ref H5.length) :=
    ⟨H5.length, H2.length, H4.length, v, r, due, cp, o, W, rfl, g7 (by omega) hz6, g7 (by omega) (pre_get (hp4.trans (hp5.trans hp6)) hx3), g7 (by omega) (pre_get hp6 hy5), vm, D7.m2, t7, c7, fun a ha q => by
      have := lt a q
      simp only [List.mem_cons, List.not_mem_nil, or_false] at ha
      rcases ha with rfl | rfl | rfl | rfl | rfl <;> omega⟩
  refine hn _ mv due W o (hs ++ [.ref H5.length]) ⟨get_set_eq hh6 _, by rw [List.length_append]; simp; omega, ?_, D7, ⟨S7.inn, S7.wi, S7.wo, S7.m1, S7.m2, S7.deeds, fun u hu => ?_⟩, wok, wlen, gm, e⟩
  · cases hs with
    | nil => exact ⟨_, _, rfl⟩
    | cons u us =>
      obtain ⟨t, _, _, _, _, _, _, _, _, q, _⟩ := St.hist u (.head _)
      exact ⟨t, _, by rw [q]; rfl⟩
  · rcases List.mem_append.mp hu with q | q
    · exact S7.hist u q
    · rw [List.mem_singleton.mp q]; exact new
end Mine

namespace Mine
open PySem

noncomputable def badSs : List S := [.assign "_law_bad" (.op .item [.op .mkList [.var "_law_guest", .var "_law_many", .op .neg [.int 1], .bool true, .op .item [.op (.bin .add) [.var "_law_row", .op .mkList [.var "_law_many"]], .int 0], .bool false], .op (.bin .mod) [.op (.bin .fdiv) [.var "_law_cell", .int 60], .int 6]]),
      .assign "_law_at" (.op (.bin .mod) [.op (.bin .fdiv) [.var "_law_cell", .int 360], .op (.bin .add) [.op .len [.var "_law_row"], .int 1]]),
      .ite (.not_ (.call "_law_refused" [.var "_law_inn", .var "_law_guest", .op (.bin .add) [.op (.bin .add) [.op (.slice false true) [.var "_law_row", .var "_law_at"], .op .mkList [.var "_law_bad"]], .op (.slice true false) [.var "_law_row", .var "_law_at"]]]))
        [.ret (.bool false)]
        []]
noncomputable def goodSs : List S := [.assign "_law_given" (.op .list [.var "_law_row"]),
      .ite (.op (.cmp .isNot) [.meth "turn" (.var "_law_inn") [.var "_law_guest", .var "_law_given"], .none])
        [.ret (.bool false)]
        [],
      .expr (.mcall .append (.var "_law_given") [.var "_law_guest"]),
      .setItem (.var "_law_wishes") (.var "_law_guest") (.var "_law_row"),
      .ite (.or_ [.op (.cmp .is_) [.var "_law_due", .none], .not_ (.call "_law_mates" [.var "_law_wishes", .var "_law_due"]), .op (.cmp .ne) [.call "_law_restless" [.var "_law_wishes", .var "_law_due"], .op .mkList []]])
        [.assign "_law_due" (.call "_law_first" [.var "_law_wishes"])]
        []]

theorem w_bad {c : Cs} {m i g r : Nat} {l : List Int} {cell : Int} {ρ : Env} {H : Hp} {mv due : V} {W : List (List Int)} {o : Option Mt} {hs : List V} {K : SPost} {X : SXP} (M : Mid c m i ρ H mv due W o hs) (hg : g < m) (hr : LI H r l) (rok : RowOk l g m) (eg : ρ "_law_guest" = some (.int (g : Int))) (er : ρ "_law_row" = some (.ref r)) (ec : ρ "_law_cell" = some (.int cell))
    (hn : ∀ ρ' H', Mid c m i ρ' H' mv due W o hs → K none ρ' H') : wSs C10 badSs ρ H K X := by
  have wl := M.wlen
  have l6 := rok.len
  have z60 : ((60 : Int) = 0 ∨ 2 ^ 30 ≤ (60 : Int).natAbs) = False := by decide
  have z360 : ((360 : Int) = 0 ∨ 2 ^ 30 ≤ (360 : Int).natAbs) = False := by decide
  have z6 : ((6 : Int) = 0) = False := by decide
  have lm6 : (0 + 1 + 1 + 1 + 1 + 1 + 1 ≤ lim) = True := by simp [lim]
  unfold badSs
  refine wSs_step fun K' hn' hr' => ?_
  (repeat (first | dsimp only [XI, XJ] | dsimp only [ZA,ZB,ZC,ZD,ZE,ZF,ZG,ZH,ZI,ZJ,ZK,ZL,ZM,ZN,ZO,ZP,ZQ,ZR,ZS,ZT,ZU,ZV,ZW,ZX,ZY,ZZ,Za,Zb,Zc,Zd,Ze,Zf,Zg,Zh,Zi,Zj,Zk,Zl,Zm,Zn,Zo,Zp,Zq,Zr,Zs,Zt,Zu,Zv,Zw,Zx,Zy,Zz,YA,YB,YC,YD,YE,YF,YG,YH,YI,YJ,YK,YL,YM,YN,YO,YP,YQ,YR,Env.set,cond_true,cond_false,String.reduceBEq,YS,YT,YU,YV,YW,YX,YY,YZ,Ya,Yb,Yc,Yd,Ye,Yf] | simp only [Yg,Yh,true_and,Yi,Yj,Yk,Yl,Ym,Yn,Yo,Yp,Yq,Yr,Yt,Yu,Yv,Yw,Yx,Yy,Yz,XA,XB,XC,XD,XE,beq_self_eq_true,reduceIte,reduceCtorEq,↓reduceIte,XF,XG,XH, eg, er, ec, M.rho.many]))
  have p1 : H <+: H ++ [O.list [.int (m : Int)]] := pre_new _ _
  have g1 : (H ++ [O.list [.int (m : Int)]])[H.length]? = some (.list [.int (m : Int)]) := get_new _ _
  rw [add_at (hr.pre p1) g1 (by simp; unfold lim; omega)]
  generalize H ++ [O.list [.int (m : Int)]] = H1 at p1 g1 ⊢
  have p2 : H1 <+: H1 ++ [O.list (l.map .int ++ [.int (m : Int)])] := pre_new _ _
  have g2 : (H1 ++ [O.list (l.map .int ++ [.int (m : Int)])])[H1.length]? = some (.list (l.map .int ++ [.int (m : Int)])) := get_new _ _
  obtain ⟨x, hx, hbx⟩ : ∃ x : Int, (l.map V.int ++ [.int (m : Int)])[0]? = some (.int x) ∧ BadFor l g m (.int x) := by
    cases l with
    | nil => exact ⟨m, rfl, bad_m _ _ _⟩
    | cons y ys => exact ⟨y, rfl, bad_0 _ _ (.head _)⟩
  have i2 : itemV (.ref H1.length) (.int 0) (H1 ++ [O.list (l.map .int ++ [.int (m : Int)])]) = some (.int x) := item_seq (i := 0) (seqOf_list g2) hx
  have p02 := p1.trans p2
  (repeat (first | dsimp only [XI, XJ] | dsimp only [ZA,ZB,ZC,ZD,ZE,ZF,ZG,ZH,ZI,ZJ,ZK,ZL,ZM,ZN,ZO,ZP,ZQ,ZR,ZS,ZT,ZU,ZV,ZW,ZX,ZY,ZZ,Za,Zb,Zc,Zd,Ze,Zf,Zg,Zh,Zi,Zj,Zk,Zl,Zm,Zn,Zo,Zp,Zq,Zr,Zs,Zt,Zu,Zv,Zw,Zx,Zy,Zz,YA,YB,YC,YD,YE,YF,YG,YH,YI,YJ,YK,YL,YM,YN,YO,YP,YQ,YR,Env.set,cond_true,cond_false,String.reduceBEq,YS,YT,YU,YV,YW,YX,YY,YZ,Ya,Yb,Yc,Yd,Ye,Yf] | simp only [Yg,Yh,true_and,Yi,Yj,Yk,Yl,Ym,Yn,Yo,Yp,Yq,Yr,Yt,Yu,Yv,Yw,Yx,Yy,Yz,XA,XB,XC,XD,XE,beq_self_eq_true,reduceIte,reduceCtorEq,↓reduceIte,XF,XG,XH]))
  generalize H1 ++ [O.list (l.map .int ++ [.int (m : Int)])] = H2 at p02 i2 ⊢
  (repeat (first | dsimp only [XI, XJ] | dsimp only [ZA,ZB,ZC,ZD,ZE,ZF,ZG,ZH,ZI,ZJ,ZK,ZL,ZM,ZN,ZO,ZP,ZQ,ZR,ZS,ZT,ZU,ZV,ZW,ZX,ZY,ZZ,Za,Zb,Zc,Zd,Ze,Zf,Zg,Zh,Zi,Zj,Zk,Zl,Zm,Zn,Zo,Zp,Zq,Zr,Zs,Zt,Zu,Zv,Zw,Zx,Zy,Zz,YA,YB,YC,YD,YE,YF,YG,YH,YI,YJ,YK,YL,YM,YN,YO,YP,YQ,YR,Env.set,cond_true,cond_false,String.reduceBEq,YS,YT,YU,YV,YW,YX,YY,YZ,Ya,Yb,Yc,Yd,Ye,Yf] | simp only [Yg,Yh,true_and,Yi,Yj,Yk,Yl,Ym,Yn,Yo,Yp,Yq,Yr,Yt,Yu,Yv,Yw,Yx,Yy,Yz,XA,XB,XC,XD,XE,beq_self_eq_true,reduceIte,reduceCtorEq,↓reduceIte,XF,XG,XH, i2, lm6, z60, z6]))
  obtain ⟨k, hk, ek⟩ := fmod_nat (cell.fdiv 60) (m := 6) (by omega)
  have ek' : (cell.fdiv 60).fmod 6 = (k : Int) := ek
  have g3 : (H2 ++ [O.list [.int (g : Int), .int (m : Int), .int (-1), .bool true, .int x, .bool false]])[H2.length]? = some (.list [.int (g : Int), .int (m : Int), .int (-1), .bool true, .int x, .bool false]) := get_new _ _
  have p03 : H <+: H2 ++ [O.list [.int (g : Int), .int (m : Int), .int (-1), .bool true, .int x, .bool false]] := p02.trans (pre_new _ _)
  generalize H2 ++ [O.list [.int (g : Int), .int (m : Int), .int (-1), .bool true, .int x, .bool false]] = H3 at g3 p03 ⊢
  obtain ⟨v, hv, hb⟩ : ∃ v, [V.int (g : Int), .int (m : Int), .int (-1), .bool true, .int x, .bool false][k]? = some v ∧ BadFor l g m v := by
    match k, hk with
    | 0, _ => exact ⟨_, rfl, bad_g _ _ _⟩
    | 1, _ => exact ⟨_, rfl, bad_m _ _ _⟩
    | 2, _ => exact ⟨_, rfl, bad_1 _ _ _⟩
    | 3, _ => exact ⟨_, rfl, .inr ⟨_, rfl⟩⟩
    | 4, _ => exact ⟨_, rfl, hbx⟩
    | 5, _ => exact ⟨_, rfl, .inr ⟨_, rfl⟩⟩
  have i3 : itemV (.ref H2.length) (.int (k : Int)) H3 = some v := item_seq (seqOf_list g3) hv
  (repeat (first | dsimp only [XI, XJ] | dsimp only [ZA,ZB,ZC,ZD,ZE,ZF,ZG,ZH,ZI,ZJ,ZK,ZL,ZM,ZN,ZO,ZP,ZQ,ZR,ZS,ZT,ZU,ZV,ZW,ZX,ZY,ZZ,Za,Zb,Zc,Zd,Ze,Zf,Zg,Zh,Zi,Zj,Zk,Zl,Zm,Zn,Zo,Zp,Zq,Zr,Zs,Zt,Zu,Zv,Zw,Zx,Zy,Zz,YA,YB,YC,YD,YE,YF,YG,YH,YI,YJ,YK,YL,YM,YN,YO,YP,YQ,YR,Env.set,cond_true,cond_false,String.reduceBEq,YS,YT,YU,YV,YW,YX,YY,YZ,Ya,Yb,Yc,Yd,Ye,Yf] | simp only [Yg,Yh,true_and,Yi,Yj,Yk,Yl,Ym,Yn,Yo,Yp,Yq,Yr,Yt,Yu,Yv,Yw,Yx,Yy,Yz,XA,XB,XC,XD,XE,beq_self_eq_true,reduceIte,reduceCtorEq,↓reduceIte,XF,XG,XH, ek', i3]))
  refine hn' _ _ ?_
  clear hn' hr' K'
  -- at
  refine wSs_step fun K' hn' hr' => ?_
  have c1 : (l.length : Int) + 1 = ((l.length + 1 : Nat) : Int) := by omega
  have c2 : (((l.length + 1 : Nat) : Int) = 0) = False := by simp; omega
  have hr3 := hr.pre p03
  (repeat (first | dsimp only [XI, XJ] | dsimp only [ZA,ZB,ZC,ZD,ZE,ZF,ZG,ZH,ZI,ZJ,ZK,ZL,ZM,ZN,ZO,ZP,ZQ,ZR,ZS,ZT,ZU,ZV,ZW,ZX,ZY,ZZ,Za,Zb,Zc,Zd,Ze,Zf,Zg,Zh,Zi,Zj,Zk,Zl,Zm,Zn,Zo,Zp,Zq,Zr,Zs,Zt,Zu,Zv,Zw,Zx,Zy,Zz,YA,YB,YC,YD,YE,YF,YG,YH,YI,YJ,YK,YL,YM,YN,YO,YP,YQ,YR,Env.set,cond_true,cond_false,String.reduceBEq,YS,YT,YU,YV,YW,YX,YY,YZ,Ya,Yb,Yc,Yd,Ye,Yf] | simp only [Yg,Yh,true_and,Yi,Yj,Yk,Yl,Ym,Yn,Yo,Yp,Yq,Yr,Yt,Yu,Yv,Yw,Yx,Yy,Yz,XA,XB,XC,XD,XE,beq_self_eq_true,reduceIte,reduceCtorEq,↓reduceIte,XF,XG,XH, ec, er, hr3.len, z360, c1, c2]))
  obtain ⟨at', hat, eat⟩ := fmod_nat (cell.fdiv 360) (m := l.length + 1) (by omega)
  (repeat (first | dsimp only [XI, XJ] | dsimp only [ZA,ZB,ZC,ZD,ZE,ZF,ZG,ZH,ZI,ZJ,ZK,ZL,ZM,ZN,ZO,ZP,ZQ,ZR,ZS,ZT,ZU,ZV,ZW,ZX,ZY,ZZ,Za,Zb,Zc,Zd,Ze,Zf,Zg,Zh,Zi,Zj,Zk,Zl,Zm,Zn,Zo,Zp,Zq,Zr,Zs,Zt,Zu,Zv,Zw,Zx,Zy,Zz,YA,YB,YC,YD,YE,YF,YG,YH,YI,YJ,YK,YL,YM,YN,YO,YP,YQ,YR,Env.set,cond_true,cond_false,String.reduceBEq,YS,YT,YU,YV,YW,YX,YY,YZ,Ya,Yb,Yc,Yd,Ye,Yf] | simp only [Yg,Yh,true_and,Yi,Yj,Yk,Yl,Ym,Yn,Yo,Yp,Yq,Yr,Yt,Yu,Yv,Yw,Yx,Yy,Yz,XA,XB,XC,XD,XE,beq_self_eq_true,reduceIte,reduceCtorEq,↓reduceIte,XF,XG,XH, eat]))
  refine hn' _ _ ?_
  clear hn' hr' K'
  refine wSs_step fun K' hn' hr' => ?_
  (repeat (first | dsimp only [XI, XJ] | dsimp only [ZA,ZB,ZC,ZD,ZE,ZF,ZG,ZH,ZI,ZJ,ZK,ZL,ZM,ZN,ZO,ZP,ZQ,ZR,ZS,ZT,ZU,ZV,ZW,ZX,ZY,ZZ,Za,Zb,Zc,Zd,Ze,Zf,Zg,Zh,Zi,Zj,Zk,Zl,Zm,Zn,Zo,Zp,Zq,Zr,Zs,Zt,Zu,Zv,Zw,Zx,Zy,Zz,YA,YB,YC,YD,YE,YF,YG,YH,YI,YJ,YK,YL,YM,YN,YO,YP,YQ,YR,Env.set,cond_true,cond_false,String.reduceBEq,YS,YT,YU,YV,YW,YX,YY,YZ,Ya,Yb,Yc,Yd,Ye,Yf] | simp only [Yg,Yh,true_and,Yi,Yj,Yk,Yl,Ym,Yn,Yo,Yp,Yq,Yr,Yt,Yu,Yv,Yw,Yx,Yy,Yz,XA,XB,XC,XD,XE,beq_self_eq_true,reduceIte,reduceCtorEq,↓reduceIte,XF,XG,XH, M.rho.inn, eg, er, hr3.sliceTo at']))
  -- take
  have s4 : (H3 ++ [O.list ((l.take at').map .int)])[H3.length]? = some (.list ((l.take at').map .int)) := get_new _ _
  have p4 : H3 <+: H3 ++ [O.list ((l.take at').map .int)] := pre_new _ _
  generalize H3 ++ [O.list ((l.take at').map .int)] = H4 at s4 p4 ⊢
  have s5 : (H4 ++ [O.list [v]])[H4.length]? = some (.list [v]) := get_new _ _
  have p5 : H4 <+: H4 ++ [O.list [v]] := pre_new _ _
  have s5' := pre_get p5 s4
  have hlen : (l.take at').length + (l.drop at').length = l.length := by rw [← List.length_append, List.take_append_drop]
  generalize H4 ++ [O.list [v]] = H5 at s5 p5 s5' ⊢
  rw [add_at s5' s5 (by simp only [List.length_map, List.length_cons, List.length_nil]; unfold lim; omega)]
  have s6 : (H5 ++ [O.list ((l.take at').map .int ++ [v])])[H5.length]? = some (.list ((l.take at').map .int ++ [v])) := get_new _ _
  have p6 : H5 <+: H5 ++ [O.list ((l.take at').map .int ++ [v])] := pre_new _ _
  (repeat (first | dsimp only [XI, XJ] | dsimp only [ZA,ZB,ZC,ZD,ZE,ZF,ZG,ZH,ZI,ZJ,ZK,ZL,ZM,ZN,ZO,ZP,ZQ,ZR,ZS,ZT,ZU,ZV,ZW,ZX,ZY,ZZ,Za,Zb,Zc,Zd,Ze,Zf,Zg,Zh,Zi,Zj,Zk,Zl,Zm,Zn,Zo,Zp,Zq,Zr,Zs,Zt,Zu,Zv,Zw,Zx,Zy,Zz,YA,YB,YC,YD,YE,YF,YG,YH,YI,YJ,YK,YL,YM,YN,YO,YP,YQ,YR,Env.set,cond_true,cond_false,String.reduceBEq,YS,YT,YU,YV,YW,YX,YY,YZ,Ya,Yb,Yc,Yd,Ye,Yf] | simp only [Yg,Yh,true_and,Yi,Yj,Yk,Yl,Ym,Yn,Yo,Yp,Yq,Yr,Yt,Yu,Yv,Yw,Yx,Yy,Yz,XA,XB,XC,XD,XE,beq_self_eq_true,reduceIte,reduceCtorEq,↓reduceIte,XF,XG,XH, er]))
  generalize H5 ++ [O.list ((l.take at').map .int ++ [v])] = H6 at s6 p6 ⊢
  have hr6 := hr3.pre (p4.trans (p5.trans p6))
  have sl6 : sliceV (.ref r) (some (at' : Int)) none H6 = some (.ref H6.length, H6 ++ [.list ((l.drop at').map .int)]) := by rw [sl_ref hr6, cut_from, List.map_drop]
  (repeat (first | dsimp only [XI, XJ] | dsimp only [ZA,ZB,ZC,ZD,ZE,ZF,ZG,ZH,ZI,ZJ,ZK,ZL,ZM,ZN,ZO,ZP,ZQ,ZR,ZS,ZT,ZU,ZV,ZW,ZX,ZY,ZZ,Za,Zb,Zc,Zd,Ze,Zf,Zg,Zh,Zi,Zj,Zk,Zl,Zm,Zn,Zo,Zp,Zq,Zr,Zs,Zt,Zu,Zv,Zw,Zx,Zy,Zz,YA,YB,YC,YD,YE,YF,YG,YH,YI,YJ,YK,YL,YM,YN,YO,YP,YQ,YR,Env.set,cond_true,cond_false,String.reduceBEq,YS,YT,YU,YV,YW,YX,YY,YZ,Ya,Yb,Yc,Yd,Ye,Yf] | simp only [Yg,Yh,true_and,Yi,Yj,Yk,Yl,Ym,Yn,Yo,Yp,Yq,Yr,Yt,Yu,Yv,Yw,Yx,Yy,Yz,XA,XB,XC,XD,XE,beq_self_eq_true,reduceIte,reduceCtorEq,↓reduceIte,XF,XG,XH, sl6]))
  have s7 : (H6 ++ [O.list ((l.drop at').map .int)])[H6.length]? = some (.list ((l.drop at').map .int)) := get_new _ _
  have p7 : H6 <+: H6 ++ [O.list ((l.drop at').map .int)] := pre_new _ _
  have s7' := pre_get p7 s6
  generalize H6 ++ [O.list ((l.drop at').map .int)] = H7 at s7 p7 s7' ⊢
  rw [add_at s7' s7 (by simp only [List.length_append, List.length_map, List.length_cons, List.length_nil]; unfold lim; omega)]
  have s8 : (H7 ++ [O.list ((l.take at').map .int ++ [v] ++ (l.drop at').map .int)])[H7.length]? = some (.list ((l.take at').map .int ++ [v] ++ (l.drop at').map .int)) := get_new _ _
  have p8 : H <+: H7 ++ [O.list ((l.take at').map .int ++ [v] ++ (l.drop at').map .int)] := p03.trans (p4.trans (p5.trans (p6.trans (p7.trans (pre_new _ _)))))
  (repeat (first | dsimp only [XI, XJ] | dsimp only [ZA,ZB,ZC,ZD,ZE,ZF,ZG,ZH,ZI,ZJ,ZK,ZL,ZM,ZN,ZO,ZP,ZQ,ZR,ZS,ZT,ZU,ZV,ZW,ZX,ZY,ZZ,Za,Zb,Zc,Zd,Ze,Zf,Zg,Zh,Zi,Zj,Zk,Zl,Zm,Zn,Zo,Zp,Zq,Zr,Zs,Zt,Zu,Zv,Zw,Zx,Zy,Zz,YA,YB,YC,YD,YE,YF,YG,YH,YI,YJ,YK,YL,YM,YN,YO,YP,YQ,YR,Env.set,cond_true,cond_false,String.reduceBEq,YS,YT,YU,YV,YW,YX,YY,YZ,Ya,Yb,Yc,Yd,Ye,Yf] | simp only [Yg,Yh,true_and,Yi,Yj,Yk,Yl,Ym,Yn,Yo,Yp,Yq,Yr,Yt,Yu,Yv,Yw,Yx,Yy,Yz,XA,XB,XC,XD,XE,beq_self_eq_true,reduceIte,reduceCtorEq,↓reduceIte,XF,XG,XH]))
  generalize H7 ++ [O.list ((l.take at').map .int ++ [v] ++ (l.drop at').map .int)] = H8 at s8 p8 ⊢
  have M8 := M.pre p8
  refine s_refused10 rfl rfl rfl rfl M8.dyn.inn M8.dyn.wi (by omega) (by rw [wl]; exact rowBad_for rfl rfl hb rok s8) fun H9 hp9 => ?_
  (repeat (first | dsimp only [XI, XJ] | dsimp only [ZA,ZB,ZC,ZD,ZE,ZF,ZG,ZH,ZI,ZJ,ZK,ZL,ZM,ZN,ZO,ZP,ZQ,ZR,ZS,ZT,ZU,ZV,ZW,ZX,ZY,ZZ,Za,Zb,Zc,Zd,Ze,Zf,Zg,Zh,Zi,Zj,Zk,Zl,Zm,Zn,Zo,Zp,Zq,Zr,Zs,Zt,Zu,Zv,Zw,Zx,Zy,Zz,YA,YB,YC,YD,YE,YF,YG,YH,YI,YJ,YK,YL,YM,YN,YO,YP,YQ,YR,Env.set,cond_true,cond_false,String.reduceBEq,YS,YT,YU,YV,YW,YX,YY,YZ,Ya,Yb,Yc,Yd,Ye,Yf] | simp only [Yg,Yh,true_and,Yi,Yj,Yk,Yl,Ym,Yn,Yo,Yp,Yq,Yr,Yt,Yu,Yv,Yw,Yx,Yy,Yz,XA,XB,XC,XD,XE,beq_self_eq_true,reduceIte,reduceCtorEq,↓reduceIte,XF,XG,XH]))
  refine hn' _ _ ?_
  (repeat (first | dsimp only [XI, XJ] | dsimp only [ZA,ZB,ZC,ZD,ZE,ZF,ZG,ZH,ZI,ZJ,ZK,ZL,ZM,ZN,ZO,ZP,ZQ,ZR,ZS,ZT,ZU,ZV,ZW,ZX,ZY,ZZ,Za,Zb,Zc,Zd,Ze,Zf,Zg,Zh,Zi,Zj,Zk,Zl,Zm,Zn,Zo,Zp,Zq,Zr,Zs,Zt,Zu,Zv,Zw,Zx,Zy,Zz,YA,YB,YC,YD,YE,YF,YG,YH,YI,YJ,YK,YL,YM,YN,YO,YP,YQ,YR,Env.set,cond_true,cond_false,String.reduceBEq,YS,YT,YU,YV,YW,YX,YY,YZ,Ya,Yb,Yc,Yd,Ye,Yf] | simp only [Yg,Yh,true_and,Yi,Yj,Yk,Yl,Ym,Yn,Yo,Yp,Yq,Yr,Yt,Yu,Yv,Yw,Yx,Yy,Yz,XA,XB,XC,XD,XE,beq_self_eq_true,reduceIte,reduceCtorEq,↓reduceIte,XF,XG,XH]))
  exact hn _ _ (((M8.pre hp9).set (by decide) _).set (by decide) _)
end Mine

namespace Mine
open PySem

theorem w_good {c : Cs} (ok : c.Ok) {m i g r : Nat} {l : List Int} {ρ : Env} {H : Hp} {mv due : V} {W : List (List Int)} {o : Option Mt} {hs : List V} {K : SPost} {X : SXP} (M : Mid c m i ρ H mv due W o hs) (hg : g < m) (hr : LI H r l) (rok : RowOk l g m) (eg : ρ "_law_guest" = some (.int (g : Int))) (er : ρ "_law_row" = some (.ref r))
    (hn : ∀ ρ' H' mv' due' W' o', Mid c m i ρ' H' mv' due' W' o' hs → K none ρ' H') : wSs C10 goodSs ρ H K X := by
  have wl := M.wlen
  have l6 := rok.len
  have hgW : g < W.length := by omega
  have nt : ("Inn" ++ "." ++ "turn" : String) = "Inn.turn" := by decide
  have D := M.dyn
  have ho : ∀ M, o = some M → MInv W.length M := fun M' e => (M.gm M' e).1.inv
  obtain ⟨rs, r1, r2⟩ := id D.wi
  have gl : ∀ {a : Nat} {o : O}, H[a]? = some o → a < H.length := fun q => (List.getElem?_eq_some_iff.mp q).1
  have hiw := gl r1
  have hx := gl D.inn.obj
  have hd := gl D.inn.names
  unfold goodSs
  -- given = list(row)
  refine wSs_step fun K' hn' hr' => ?_
  (repeat (first | dsimp only [XI, XJ] | dsimp only [ZA,ZB,ZC,ZD,ZE,ZF,ZG,ZH,ZI,ZJ,ZK,ZL,ZM,ZN,ZO,ZP,ZQ,ZR,ZS,ZT,ZU,ZV,ZW,ZX,ZY,ZZ,Za,Zb,Zc,Zd,Ze,Zf,Zg,Zh,Zi,Zj,Zk,Zl,Zm,Zn,Zo,Zp,Zq,Zr,Zs,Zt,Zu,Zv,Zw,Zx,Zy,Zz,YA,YB,YC,YD,YE,YF,YG,YH,YI,YJ,YK,YL,YM,YN,YO,YP,YQ,YR,Env.set,cond_true,cond_false,String.reduceBEq,YS,YT,YU,YV,YW,YX,YY,YZ,Ya,Yb,Yc,Yd,Ye,Yf] | simp only [Yg,Yh,true_and,Yi,Yj,Yk,Yl,Ym,Yn,Yo,Yp,Yq,Yr,Yt,Yu,Yv,Yw,Yx,Yy,Yz,XA,XB,XC,XD,XE,beq_self_eq_true,reduceIte,reduceCtorEq,↓reduceIte,XF,XG,XH, er, hr.seq]))
  refine hn' _ _ ?_
  clear hn' hr' K'
  have hgv : LI (H ++ [O.list (l.map .int)]) H.length l := LI.new _ _
  have p1 : H <+: H ++ [O.list (l.map .int)] := pre_new _ _
  have n1 : (H ++ [O.list (l.map .int)]).length = H.length + 1 := by simp
  generalize H ++ [O.list (l.map .int)] = H1 at hgv p1 n1 ⊢
  have nv0 : ∀ {Hx : Hp}, H <+: Hx → ∀ s ∈ [c.iw, c.d], NotV Hx s := fun {Hx} hp s q => by
    simp only [List.mem_cons, List.not_mem_nil, or_false] at q
    rcases q with rfl | rfl
    · exact (D.wi.pre hp).notV M.wok.ne
    · exact NotV.of (D.inn.pre hp).names fun _ q => by cases q
  -- turn
  refine wSs_step fun K' hn' hr' => ?_
  (repeat (first | dsimp only [XI, XJ] | dsimp only [ZA,ZB,ZC,ZD,ZE,ZF,ZG,ZH,ZI,ZJ,ZK,ZL,ZM,ZN,ZO,ZP,ZQ,ZR,ZS,ZT,ZU,ZV,ZW,ZX,ZY,ZZ,Za,Zb,Zc,Zd,Ze,Zf,Zg,Zh,Zi,Zj,Zk,Zl,Zm,Zn,Zo,Zp,Zq,Zr,Zs,Zt,Zu,Zv,Zw,Zx,Zy,Zz,YA,YB,YC,YD,YE,YF,YG,YH,YI,YJ,YK,YL,YM,YN,YO,YP,YQ,YR,Env.set,cond_true,cond_false,String.reduceBEq,YS,YT,YU,YV,YW,YX,YY,YZ,Ya,Yb,Yc,Yd,Ye,Yf] | simp only [Yg,Yh,true_and,Yi,Yj,Yk,Yl,Ym,Yn,Yo,Yp,Yq,Yr,Yt,Yu,Yv,Yw,Yx,Yy,Yz,XA,XB,XC,XD,XE,beq_self_eq_true,reduceIte,reduceCtorEq,↓reduceIte,XF,XG,XH, M.rho.inn, e_meth, (D.inn.pre p1).inst, nt, eg]))
  refine s_turn rfl rfl rfl rfl rfl rfl rfl rfl rfl rfl rfl rfl rfl rfl (D.inn.pre p1) (D.wi.pre p1) (pre_get p1 r1) M.wok hgW hgv (by rw [wl]; exact rok) (D.m1.pre p1) ho fun H2 mv' b' k2 n2 hI2 hiw2 hb' hlb hmv hsame => ?_
  (repeat (first | dsimp only [XI, XJ] | dsimp only [ZA,ZB,ZC,ZD,ZE,ZF,ZG,ZH,ZI,ZJ,ZK,ZL,ZM,ZN,ZO,ZP,ZQ,ZR,ZS,ZT,ZU,ZV,ZW,ZX,ZY,ZZ,Za,Zb,Zc,Zd,Ze,Zf,Zg,Zh,Zi,Zj,Zk,Zl,Zm,Zn,Zo,Zp,Zq,Zr,Zs,Zt,Zu,Zv,Zw,Zx,Zy,Zz,YA,YB,YC,YD,YE,YF,YG,YH,YI,YJ,YK,YL,YM,YN,YO,YP,YQ,YR,Env.set,cond_true,cond_false,String.reduceBEq,YS,YT,YU,YV,YW,YX,YY,YZ,Ya,Yb,Yc,Yd,Ye,Yf] | simp only [Yg,Yh,true_and,Yi,Yj,Yk,Yl,Ym,Yn,Yo,Yp,Yq,Yr,Yt,Yu,Yv,Yw,Yx,Yy,Yz,XA,XB,XC,XD,XE,beq_self_eq_true,reduceIte,reduceCtorEq,↓reduceIte,XF,XG,XH]))
  refine hn' _ _ ?_
  clear hn' hr' K'
  -- given.append(guest)
  have hgv2 : LI H2 H.length l := hgv.kp k2 (nv0 p1)
  refine wSs_step fun K' hn' hr' => ?_
  (repeat (first | dsimp only [XI, XJ] | dsimp only [ZA,ZB,ZC,ZD,ZE,ZF,ZG,ZH,ZI,ZJ,ZK,ZL,ZM,ZN,ZO,ZP,ZQ,ZR,ZS,ZT,ZU,ZV,ZW,ZX,ZY,ZZ,Za,Zb,Zc,Zd,Ze,Zf,Zg,Zh,Zi,Zj,Zk,Zl,Zm,Zn,Zo,Zp,Zq,Zr,Zs,Zt,Zu,Zv,Zw,Zx,Zy,Zz,YA,YB,YC,YD,YE,YF,YG,YH,YI,YJ,YK,YL,YM,YN,YO,YP,YQ,YR,Env.set,cond_true,cond_false,String.reduceBEq,YS,YT,YU,YV,YW,YX,YY,YZ,Ya,Yb,Yc,Yd,Ye,Yf] | simp only [Yg,Yh,true_and,Yi,Yj,Yk,Yl,Ym,Yn,Yo,Yp,Yq,Yr,Yt,Yu,Yv,Yw,Yx,Yy,Yz,XA,XB,XC,XD,XE,beq_self_eq_true,reduceIte,reduceCtorEq,↓reduceIte,XF,XG,XH, eg, (recvL hgv2).1, append_at (v := .int (g : Int)) hgv2 (by rw [List.length_map]; unfold lim; omega)]))
  refine hn' _ _ ?_
  clear hn' hr' K'
  have k3 : Kp [c.iw, c.d] H (H2.set H.length (.list (l.map .int ++ [.int (g : Int)]))) := fun a o' ha e => by
    have := gl e
    rw [get_set_ne (by omega)]; exact k2 a o' ha (pre_get p1 e)
  have f3 : ∀ {a : Nat} {o' : O}, a ≠ H.length → H2[a]? = some o' → (H2.set H.length (.list (l.map .int ++ [.int (g : Int)])))[a]? = some o' := fun ha e => by rw [get_set_ne ha]; exact e
  have I3 : INN (H2.set H.length (.list (l.map .int ++ [.int (g : Int)]))) c.x c.d c.iw mv' := ⟨f3 (by omega) hI2.obj, f3 (by omega) hI2.names⟩
  have iw3 := f3 (show c.iw ≠ H.length by omega) hiw2
  have lb3 : LI (H2.set H.length (.list (l.map .int ++ [.int (g : Int)]))) b' l := f3 (by omega) hlb
  have mv3 : MV (H2.set H.length (.list (l.map .int ++ [.int (g : Int)]))) mv' (nextM (W.set g l) o) := by
    cases e : nextM (W.set g l) o with
    | none => rw [e] at hmv; exact hmv
    | some M' =>
      rw [e] at hmv
      obtain ⟨a, rfl, q⟩ := hmv
      refine ⟨a, rfl, f3 ?_ q⟩
      rcases hsame a rfl with s | s
      · have m1 := D.m1
        rw [← s] at m1
        cases o with
        | none => cases m1
        | some M0 =>
          obtain ⟨a', e', q'⟩ := m1
          cases e'
          have := gl q'
          omega
      · omega
  generalize H2.set H.length (.list (l.map .int ++ [.int (g : Int)])) = H3 at k3 I3 iw3 lb3 mv3 ⊢
  clear f3 hgv2 hiw2 hlb hmv hsame hI2 k2 n2
  have nvH := nv0 (List.prefix_refl H)
  have wi3 : WH H3 c.iw (W.set g l) := ⟨_, iw3, (r2.mono fun _ _ ⟨b, e, q⟩ => ⟨b, e, q.kp k3 nvH⟩).set g ⟨b', rfl, lb3⟩⟩
  have wiw : c.w ∉ [c.iw, c.d] := fun q => by
    simp only [List.mem_cons, List.not_mem_nil, or_false] at q
    rcases q with q | q
    · exact ok.wi q
    · obtain ⟨_, e, _⟩ := D.ww
      rw [q, D.inn.names] at e; cases e
  have ww3 := D.ww.kp k3 nvH wiw
  have du3 := D.m2.kp k3 nvH
  have hr3 := hr.kp k3 nvH
  have S3 := M.sta.kp ok (k3.mono fun a q => by
    simp only [List.mem_cons, List.not_mem_nil, or_false] at q
    rcases q with rfl | rfl <;> simp [Cs.S]) (D.nv M.wok.ne M.nv)
  have hh3 : H3[c.hh]? = some (.list hs) := k3 _ _ (fun q => by
    simp only [List.mem_cons, List.not_mem_nil, or_false] at q
    rcases q with q | q
    · exact ok.hh c.iw (by simp) q.symm
    · exact ok.hh c.d (by simp) q.symm) M.hh
  -- wishes[guest] = row
  refine wSs_step fun K' hn' hr' => ?_
  obtain ⟨rw3, t1, t2⟩ := id ww3
  have tl := t2.length
  have ww4 : WH (H3.set c.w (.list (rw3.set g (.ref r)))) c.w (W.set g l) := by
    obtain ⟨H', q1, q2, _⟩ := ww3.set hgW hr3
    rw [set_seq t1 (by omega)] at q1
    cases q1; exact q2
  (repeat (first | dsimp only [XI, XJ] | dsimp only [ZA,ZB,ZC,ZD,ZE,ZF,ZG,ZH,ZI,ZJ,ZK,ZL,ZM,ZN,ZO,ZP,ZQ,ZR,ZS,ZT,ZU,ZV,ZW,ZX,ZY,ZZ,Za,Zb,Zc,Zd,Ze,Zf,Zg,Zh,Zi,Zj,Zk,Zl,Zm,Zn,Zo,Zp,Zq,Zr,Zs,Zt,Zu,Zv,Zw,Zx,Zy,Zz,YA,YB,YC,YD,YE,YF,YG,YH,YI,YJ,YK,YL,YM,YN,YO,YP,YQ,YR,Env.set,cond_true,cond_false,String.reduceBEq,YS,YT,YU,YV,YW,YX,YY,YZ,Ya,Yb,Yc,Yd,Ye,Yf] | simp only [Yg,Yh,true_and,Yi,Yj,Yk,Yl,Ym,Yn,Yo,Yp,Yq,Yr,Yt,Yu,Yv,Yw,Yx,Yy,Yz,XA,XB,XC,XD,XE,beq_self_eq_true,reduceIte,reduceCtorEq,↓reduceIte,XF,XG,XH, M.rho.wishes, eg, er, set_seq t1 (show g < rw3.length by omega)]))
  refine hn' _ _ ?_
  clear hn' hr' K'
  have k4 : Kp [c.w] H3 (H3.set c.w (.list (rw3.set g (.ref r)))) := Kp.set (.head _) _
  have nv4 : ∀ s ∈ [c.w], NotV H3 s := fun s q => by cases List.mem_singleton.mp q; exact ww3.notV M.wok.ne
  have wok' : WOk (W.set g l) := M.wok.set hgW (by rw [wl]; exact rok)
  have one : ∀ {a : Nat}, a ≠ c.w → a ∉ [c.w] := fun h q => h (List.mem_singleton.mp q)
  have xw : c.x ≠ c.w := fun q => by have := I3.obj; rw [q, t1] at this; cases this
  have dw : c.d ≠ c.w := fun q => by have := I3.names; rw [q, t1] at this; cases this
  have I4 := I3.kp k4 (one xw) (one dw)
  have wi4 := wi3.kp k4 nv4 (one (Ne.symm ok.wi))
  have mv4 := mv3.kp k4 nv4
  have du4 := du3.kp k4 nv4
  have nvS : ∀ s ∈ c.S, NotV H3 s := fun s q => by
    simp only [Cs.S, List.mem_cons, List.not_mem_nil, or_false] at q
    rcases q with rfl | rfl | rfl | rfl
    · exact ww3.notV M.wok.ne
    · exact wi3.notV wok'.ne
    · exact NotV.of I3.names fun _ q => by cases q
    · obtain ⟨t, rest, e⟩ := M.ref
      rw [e] at hh3; exact NotV.refs hh3
  have S4 := S3.kp ok (k4.mono fun a q => by cases List.mem_singleton.mp q; simp [Cs.S]) nvS
  have hh4 := k4 _ _ (one (Ne.symm (ok.hh c.w (by simp)))) hh3
  generalize H3.set c.w (.list (rw3.set g (.ref r))) = H4 at ww4 k4 I4 wi4 mv4 du4 S4 hh4 ⊢
  clear k4 nv4 t1 t2 S3 hh3 hr3 ww3 du3 wi3 I3 iw3 lb3 mv3 nvS
  have fin : ∀ ρ' H5 due', H4 <+: H5 → Rho c m due' ρ' → MV H5 due' (nextM (W.set g l) o) → K none ρ' H5 := fun ρ' H5 due' hp e q =>
    hn ρ' H5 mv' due' (W.set g l) (nextM (W.set g l) o) ⟨pre_get hp hh4, M.len, M.ref, ⟨I4.pre hp, wi4.pre hp, ww4.pre hp, mv4.pre hp, q⟩, S4.pre hp, wok', by rw [List.length_set]; exact wl, GM.next fun M' e => by rw [List.length_set]; exact ho M' e, e⟩
  have rh := M.rho.set (y := "_law_given") (by decide) (.ref H.length)
  generalize ρ.set "_law_given" (.ref H.length) = ρ4 at rh ⊢
  -- due
  have anew : ∀ (H5 : Hp) (ρ' : Env) (K' : SPost), H4 <+: H5 → Rho c m due ρ' → nextM (W.set g l) o = firstC (W.set g l) → (∀ ρ' H', K none ρ' H' → K' none ρ' H') → callN prog10 false 199 "_law_first" [.ref c.w] H5 (fun v H1 => K' none (ρ'.set "_law_due" v) H1) X := by
    intro H5 ρ' K' hp e en hk
    refine s_law_first10 rfl rfl rfl rfl rfl rfl rfl rfl rfl rfl rfl (ww4.pre hp) wok' fun H6 v hp6 hv _ => ?_
    refine hk _ _ (fin _ H6 v (hp.trans hp6) (e.setDue v) ?_)
    rw [en]; exact hv
  refine wSs_step fun K' hn' hr' => ?_
  cases o with
  | none =>
    cases du4
    (repeat (first | dsimp only [XI, XJ] | dsimp only [ZA,ZB,ZC,ZD,ZE,ZF,ZG,ZH,ZI,ZJ,ZK,ZL,ZM,ZN,ZO,ZP,ZQ,ZR,ZS,ZT,ZU,ZV,ZW,ZX,ZY,ZZ,Za,Zb,Zc,Zd,Ze,Zf,Zg,Zh,Zi,Zj,Zk,Zl,Zm,Zn,Zo,Zp,Zq,Zr,Zs,Zt,Zu,Zv,Zw,Zx,Zy,Zz,YA,YB,YC,YD,YE,YF,YG,YH,YI,YJ,YK,YL,YM,YN,YO,YP,YQ,YR,Env.set,cond_true,cond_false,String.reduceBEq,YS,YT,YU,YV,YW,YX,YY,YZ,Ya,Yb,Yc,Yd,Ye,Yf] | simp only [Yg,Yh,true_and,Yi,Yj,Yk,Yl,Ym,Yn,Yo,Yp,Yq,Yr,Yt,Yu,Yv,Yw,Yx,Yy,Yz,XA,XB,XC,XD,XE,beq_self_eq_true,reduceIte,reduceCtorEq,↓reduceIte,XF,XG,XH, rh.due, rh.wishes]))
    refine anew H4 _ _ (List.prefix_refl _) rh rfl fun ρ' H' q => ?_
    exact hn' _ _ (by (repeat (first | dsimp only [XI, XJ] | dsimp only [ZA,ZB,ZC,ZD,ZE,ZF,ZG,ZH,ZI,ZJ,ZK,ZL,ZM,ZN,ZO,ZP,ZQ,ZR,ZS,ZT,ZU,ZV,ZW,ZX,ZY,ZZ,Za,Zb,Zc,Zd,Ze,Zf,Zg,Zh,Zi,Zj,Zk,Zl,Zm,Zn,Zo,Zp,Zq,Zr,Zs,Zt,Zu,Zv,Zw,Zx,Zy,Zz,YA,YB,YC,YD,YE,YF,YG,YH,YI,YJ,YK,YL,YM,YN,YO,YP,YQ,YR,Env.set,cond_true,cond_false,String.reduceBEq,YS,YT,YU,YV,YW,YX,YY,YZ,Ya,Yb,Yc,Yd,Ye,Yf] | simp only [Yg,Yh,true_and,Yi,Yj,Yk,Yl,Ym,Yn,Yo,Yp,Yq,Yr,Yt,Yu,Yv,Yw,Yx,Yy,Yz,XA,XB,XC,XD,XE,beq_self_eq_true,reduceIte,reduceCtorEq,↓reduceIte,XF,XG,XH])); exact q)
  | some M0 =>
    obtain ⟨a, rfl, hM⟩ := id du4
    have hinv : MInv (W.set g l).length M0 := by rw [List.length_set]; exact ho M0 rfl
    (repeat (first | dsimp only [XI, XJ] | dsimp only [ZA,ZB,ZC,ZD,ZE,ZF,ZG,ZH,ZI,ZJ,ZK,ZL,ZM,ZN,ZO,ZP,ZQ,ZR,ZS,ZT,ZU,ZV,ZW,ZX,ZY,ZZ,Za,Zb,Zc,Zd,Ze,Zf,Zg,Zh,Zi,Zj,Zk,Zl,Zm,Zn,Zo,Zp,Zq,Zr,Zs,Zt,Zu,Zv,Zw,Zx,Zy,Zz,YA,YB,YC,YD,YE,YF,YG,YH,YI,YJ,YK,YL,YM,YN,YO,YP,YQ,YR,Env.set,cond_true,cond_false,String.reduceBEq,YS,YT,YU,YV,YW,YX,YY,YZ,Ya,Yb,Yc,Yd,Ye,Yf] | simp only [Yg,Yh,true_and,Yi,Yj,Yk,Yl,Ym,Yn,Yo,Yp,Yq,Yr,Yt,Yu,Yv,Yw,Yx,Yy,Yz,XA,XB,XC,XD,XE,beq_self_eq_true,reduceIte,reduceCtorEq,↓reduceIte,XF,XG,XH, rh.due, rh.wishes, show isSame (.ref a) .none = some false from rfl]))
    refine s_law_matesG rfl rfl rfl ww4 wok' hM hinv ?_
    cases e : bothTo (W.set g l) M0 M0.length with
    | false =>
      (repeat (first | dsimp only [XI, XJ] | dsimp only [ZA,ZB,ZC,ZD,ZE,ZF,ZG,ZH,ZI,ZJ,ZK,ZL,ZM,ZN,ZO,ZP,ZQ,ZR,ZS,ZT,ZU,ZV,ZW,ZX,ZY,ZZ,Za,Zb,Zc,Zd,Ze,Zf,Zg,Zh,Zi,Zj,Zk,Zl,Zm,Zn,Zo,Zp,Zq,Zr,Zs,Zt,Zu,Zv,Zw,Zx,Zy,Zz,YA,YB,YC,YD,YE,YF,YG,YH,YI,YJ,YK,YL,YM,YN,YO,YP,YQ,YR,Env.set,cond_true,cond_false,String.reduceBEq,YS,YT,YU,YV,YW,YX,YY,YZ,Ya,Yb,Yc,Yd,Ye,Yf] | simp only [Yg,Yh,true_and,Yi,Yj,Yk,Yl,Ym,Yn,Yo,Yp,Yq,Yr,Yt,Yu,Yv,Yw,Yx,Yy,Yz,XA,XB,XC,XD,XE,beq_self_eq_true,reduceIte,reduceCtorEq,↓reduceIte,XF,XG,XH]))
      refine anew H4 _ _ (List.prefix_refl _) rh (by simp [nextM, stayB, e]) fun ρ' H' q => ?_
      exact hn' _ _ (by (repeat (first | dsimp only [XI, XJ] | dsimp only [ZA,ZB,ZC,ZD,ZE,ZF,ZG,ZH,ZI,ZJ,ZK,ZL,ZM,ZN,ZO,ZP,ZQ,ZR,ZS,ZT,ZU,ZV,ZW,ZX,ZY,ZZ,Za,Zb,Zc,Zd,Ze,Zf,Zg,Zh,Zi,Zj,Zk,Zl,Zm,Zn,Zo,Zp,Zq,Zr,Zs,Zt,Zu,Zv,Zw,Zx,Zy,Zz,YA,YB,YC,YD,YE,YF,YG,YH,YI,YJ,YK,YL,YM,YN,YO,YP,YQ,YR,Env.set,cond_true,cond_false,String.reduceBEq,YS,YT,YU,YV,YW,YX,YY,YZ,Ya,Yb,Yc,Yd,Ye,Yf] | simp only [Yg,Yh,true_and,Yi,Yj,Yk,Yl,Ym,Yn,Yo,Yp,Yq,Yr,Yt,Yu,Yv,Yw,Yx,Yy,Yz,XA,XB,XC,XD,XE,beq_self_eq_true,reduceIte,reduceCtorEq,↓reduceIte,XF,XG,XH])); exact q)
    | true =>
      (repeat (first | dsimp only [XI, XJ] | dsimp only [ZA,ZB,ZC,ZD,ZE,ZF,ZG,ZH,ZI,ZJ,ZK,ZL,ZM,ZN,ZO,ZP,ZQ,ZR,ZS,ZT,ZU,ZV,ZW,ZX,ZY,ZZ,Za,Zb,Zc,Zd,Ze,Zf,Zg,Zh,Zi,Zj,Zk,Zl,Zm,Zn,Zo,Zp,Zq,Zr,Zs,Zt,Zu,Zv,Zw,Zx,Zy,Zz,YA,YB,YC,YD,YE,YF,YG,YH,YI,YJ,YK,YL,YM,YN,YO,YP,YQ,YR,Env.set,cond_true,cond_false,String.reduceBEq,YS,YT,YU,YV,YW,YX,YY,YZ,Ya,Yb,Yc,Yd,Ye,Yf] | simp only [Yg,Yh,true_and,Yi,Yj,Yk,Yl,Ym,Yn,Yo,Yp,Yq,Yr,Yt,Yu,Yv,Yw,Yx,Yy,Yz,XA,XB,XC,XD,XE,beq_self_eq_true,reduceIte,reduceCtorEq,↓reduceIte,XF,XG,XH, rh.due, rh.wishes]))
      refine s_law_restless5 rfl rfl rfl ww4 wok' hM (hinv.ok e) fun H5 p hp5 hpl hpr => ?_
      have hem : PR (H5 ++ [O.list []]) H5.length [] := ⟨[], get_new _ _, .nil⟩
      have heq := (hpr.pre (pre_new H5 (.list []))).eq hem
      have hp6 : H4 <+: H5 ++ [O.list []] := hp5.trans (pre_new _ _)
      (repeat (first | dsimp only [XI, XJ] | dsimp only [ZA,ZB,ZC,ZD,ZE,ZF,ZG,ZH,ZI,ZJ,ZK,ZL,ZM,ZN,ZO,ZP,ZQ,ZR,ZS,ZT,ZU,ZV,ZW,ZX,ZY,ZZ,Za,Zb,Zc,Zd,Ze,Zf,Zg,Zh,Zi,Zj,Zk,Zl,Zm,Zn,Zo,Zp,Zq,Zr,Zs,Zt,Zu,Zv,Zw,Zx,Zy,Zz,YA,YB,YC,YD,YE,YF,YG,YH,YI,YJ,YK,YL,YM,YN,YO,YP,YQ,YR,Env.set,cond_true,cond_false,String.reduceBEq,YS,YT,YU,YV,YW,YX,YY,YZ,Ya,Yb,Yc,Yd,Ye,Yf] | simp only [Yg,Yh,true_and,Yi,Yj,Yk,Yl,Ym,Yn,Yo,Yp,Yq,Yr,Yt,Yu,Yv,Yw,Yx,Yy,Yz,XA,XB,XC,XD,XE,beq_self_eq_true,reduceIte,reduceCtorEq,↓reduceIte,XF,XG,XH, heq]))
      generalize H5 ++ [O.list []] = H6 at hp6 ⊢
      by_cases q0 : restP (W.set g l) M0 = []
      · (repeat (first | dsimp only [XI, XJ] | dsimp only [ZA,ZB,ZC,ZD,ZE,ZF,ZG,ZH,ZI,ZJ,ZK,ZL,ZM,ZN,ZO,ZP,ZQ,ZR,ZS,ZT,ZU,ZV,ZW,ZX,ZY,ZZ,Za,Zb,Zc,Zd,Ze,Zf,Zg,Zh,Zi,Zj,Zk,Zl,Zm,Zn,Zo,Zp,Zq,Zr,Zs,Zt,Zu,Zv,Zw,Zx,Zy,Zz,YA,YB,YC,YD,YE,YF,YG,YH,YI,YJ,YK,YL,YM,YN,YO,YP,YQ,YR,Env.set,cond_true,cond_false,String.reduceBEq,YS,YT,YU,YV,YW,YX,YY,YZ,Ya,Yb,Yc,Yd,Ye,Yf] | simp only [Yg,Yh,true_and,Yi,Yj,Yk,Yl,Ym,Yn,Yo,Yp,Yq,Yr,Yt,Yu,Yv,Yw,Yx,Yy,Yz,XA,XB,XC,XD,XE,beq_self_eq_true,reduceIte,reduceCtorEq,↓reduceIte,XF,XG,XH, q0, decide_true]))
        refine hn' _ _ ?_
        (repeat (first | dsimp only [XI, XJ] | dsimp only [ZA,ZB,ZC,ZD,ZE,ZF,ZG,ZH,ZI,ZJ,ZK,ZL,ZM,ZN,ZO,ZP,ZQ,ZR,ZS,ZT,ZU,ZV,ZW,ZX,ZY,ZZ,Za,Zb,Zc,Zd,Ze,Zf,Zg,Zh,Zi,Zj,Zk,Zl,Zm,Zn,Zo,Zp,Zq,Zr,Zs,Zt,Zu,Zv,Zw,Zx,Zy,Zz,YA,YB,YC,YD,YE,YF,YG,YH,YI,YJ,YK,YL,YM,YN,YO,YP,YQ,YR,Env.set,cond_true,cond_false,String.reduceBEq,YS,YT,YU,YV,YW,YX,YY,YZ,Ya,Yb,Yc,Yd,Ye,Yf] | simp only [Yg,Yh,true_and,Yi,Yj,Yk,Yl,Ym,Yn,Yo,Yp,Yq,Yr,Yt,Yu,Yv,Yw,Yx,Yy,Yz,XA,XB,XC,XD,XE,beq_self_eq_true,reduceIte,reduceCtorEq,↓reduceIte,XF,XG,XH]))
        refine fin _ H6 (.ref a) hp6 rh ?_
        simp only [nextM, stayB, e, q0, List.length_nil, beq_self_eq_true, Bool.and_self, if_true]
        exact du4.pre hp6
      · (repeat (first | dsimp only [XI, XJ] | dsimp only [ZA,ZB,ZC,ZD,ZE,ZF,ZG,ZH,ZI,ZJ,ZK,ZL,ZM,ZN,ZO,ZP,ZQ,ZR,ZS,ZT,ZU,ZV,ZW,ZX,ZY,ZZ,Za,Zb,Zc,Zd,Ze,Zf,Zg,Zh,Zi,Zj,Zk,Zl,Zm,Zn,Zo,Zp,Zq,Zr,Zs,Zt,Zu,Zv,Zw,Zx,Zy,Zz,YA,YB,YC,YD,YE,YF,YG,YH,YI,YJ,YK,YL,YM,YN,YO,YP,YQ,YR,Env.set,cond_true,cond_false,String.reduceBEq,YS,YT,YU,YV,YW,YX,YY,YZ,Ya,Yb,Yc,Yd,Ye,Yf] | simp only [Yg,Yh,true_and,Yi,Yj,Yk,Yl,Ym,Yn,Yo,Yp,Yq,Yr,Yt,Yu,Yv,Yw,Yx,Yy,Yz,XA,XB,XC,XD,XE,beq_self_eq_true,reduceIte,reduceCtorEq,↓reduceIte,XF,XG,XH, decide_eq_false q0]))
        refine anew H6 _ _ hp6 rh ?_ fun ρ' H' q => ?_
        · have : ((restP (W.set g l) M0).length == 0) = false := beq_eq_false_iff_ne.mpr fun e => q0 (List.length_eq_zero_iff.mp e)
          simp [nextM, stayB, e, this]
        · exact hn' _ _ (by (repeat (first | dsimp only [XI, XJ] | dsimp only [ZA,ZB,ZC,ZD,ZE,ZF,ZG,ZH,ZI,ZJ,ZK,ZL,ZM,ZN,ZO,ZP,ZQ,ZR,ZS,ZT,ZU,ZV,ZW,ZX,ZY,ZZ,Za,Zb,Zc,Zd,Ze,Zf,Zg,Zh,Zi,Zj,Zk,Zl,Zm,Zn,Zo,Zp,Zq,Zr,Zs,Zt,Zu,Zv,Zw,Zx,Zy,Zz,YA,YB,YC,YD,YE,YF,YG,YH,YI,YJ,YK,YL,YM,YN,YO,YP,YQ,YR,Env.set,cond_true,cond_false,String.reduceBEq,YS,YT,YU,YV,YW,YX,YY,YZ,Ya,Yb,Yc,Yd,Ye,Yf] | simp only [Yg,Yh,true_and,Yi,Yj,Yk,Yl,Ym,Yn,Yo,Yp,Yq,Yr,Yt,Yu,Yv,Yw,Yx,Yy,Yz,XA,XB,XC,XD,XE,beq_self_eq_true,reduceIte,reduceCtorEq,↓reduceIte,XF,XG,XH])); exact q)

noncomputable def deedSs : List S := [memoS,
    .assign "_law_guest" (.op (.bin .mod) [.op (.bin .fdiv) [.var "_law_cell", .int 5], .var "_law_many"]),
    .assign "_law_row" (.call "_law_row_by" [.op (.bin .fdiv) [.op (.bin .fdiv) [.var "_law_cell", .int 30], .int 2], .var "_law_guest", .var "_law_many", .op (.cmp .eq) [.op (.bin .mod) [.op (.bin .fdiv) [.var "_law_cell", .int 30], .int 2], .int 0]]),
    .ite (.op (.cmp .eq) [.op (.bin .mod) [.var "_law_cell", .int 5], .int 4]) badSs goodSs,
    .ite (.not_ (.call "_law_held" [.var "_law_inn", .var "_law_wishes", .var "_law_due"]))
      [.ret (.bool false)]
      []]

theorem w_deed {c : Cs} (ok : c.Ok) {m i : Nat} {cell : Int} {ρ : Env} {H : Hp} {K : SPost} {X : SXP} (hm1 : 1 ≤ m) (hm : m ≤ 6) (hi : i < 100) (hI : I10 c m i ρ H) (ec : ρ "_law_cell" = some (.int cell)) (hn : ∀ ρ' H', I10 c m (i + 1) ρ' H' → K none ρ' H') : wSs C10 deedSs ρ H K X := by
  have z5 : ((5 : Int) = 0 ∨ 2 ^ 30 ≤ (5 : Int).natAbs) = False := by decide
  have z5' : ((5 : Int) = 0) = False := by decide
  have z30 : ((30 : Int) = 0 ∨ 2 ^ 30 ≤ (30 : Int).natAbs) = False := by decide
  have z2 : ((2 : Int) = 0 ∨ 2 ^ 30 ≤ (2 : Int).natAbs) = False := by decide
  have z2' : ((2 : Int) = 0) = False := by decide
  have z2'' : (False ∨ 2 ^ 30 ≤ (2 : Int).natAbs) = False := by decide
  have z5'' : (False ∨ 2 ^ 30 ≤ (5 : Int).natAbs) = False := by decide
  have zm : ((m : Int) = 0) = False := by simp; omega
  unfold deedSs
  refine wSs_step fun K' hn' hr' => ?_
  refine w_memo ok hi hI fun H1 mv due W o hs M => ?_
  refine hn' _ _ ?_
  clear hn' hr' K' hI
  refine wSs_step fun K' hn' hr' => ?_
  obtain ⟨g, hg, eg⟩ := fmod_nat (cell.fdiv 5) (m := m) (by omega)
  (repeat (first | dsimp only [XI, XJ] | dsimp only [ZA,ZB,ZC,ZD,ZE,ZF,ZG,ZH,ZI,ZJ,ZK,ZL,ZM,ZN,ZO,ZP,ZQ,ZR,ZS,ZT,ZU,ZV,ZW,ZX,ZY,ZZ,Za,Zb,Zc,Zd,Ze,Zf,Zg,Zh,Zi,Zj,Zk,Zl,Zm,Zn,Zo,Zp,Zq,Zr,Zs,Zt,Zu,Zv,Zw,Zx,Zy,Zz,YA,YB,YC,YD,YE,YF,YG,YH,YI,YJ,YK,YL,YM,YN,YO,YP,YQ,YR,Env.set,cond_true,cond_false,String.reduceBEq,YS,YT,YU,YV,YW,YX,YY,YZ,Ya,Yb,Yc,Yd,Ye,Yf] | simp only [Yg,Yh,true_and,Yi,Yj,Yk,Yl,Ym,Yn,Yo,Yp,Yq,Yr,Yt,Yu,Yv,Yw,Yx,Yy,Yz,XA,XB,XC,XD,XE,beq_self_eq_true,reduceIte,reduceCtorEq,↓reduceIte,XF,XG,XH, ec, M.rho.many, z5, zm, eg]))
  refine hn' _ _ ?_
  clear hn' hr' K'
  refine wSs_step fun K' hn' hr' => ?_
  (repeat (first | dsimp only [XI, XJ] | dsimp only [ZA,ZB,ZC,ZD,ZE,ZF,ZG,ZH,ZI,ZJ,ZK,ZL,ZM,ZN,ZO,ZP,ZQ,ZR,ZS,ZT,ZU,ZV,ZW,ZX,ZY,ZZ,Za,Zb,Zc,Zd,Ze,Zf,Zg,Zh,Zi,Zj,Zk,Zl,Zm,Zn,Zo,Zp,Zq,Zr,Zs,Zt,Zu,Zv,Zw,Zx,Zy,Zz,YA,YB,YC,YD,YE,YF,YG,YH,YI,YJ,YK,YL,YM,YN,YO,YP,YQ,YR,Env.set,cond_true,cond_false,String.reduceBEq,YS,YT,YU,YV,YW,YX,YY,YZ,Ya,Yb,Yc,Yd,Ye,Yf] | simp only [Yg,Yh,true_and,Yi,Yj,Yk,Yl,Ym,Yn,Yo,Yp,Yq,Yr,Yt,Yu,Yv,Yw,Yx,Yy,Yz,XA,XB,XC,XD,XE,beq_self_eq_true,reduceIte,reduceCtorEq,↓reduceIte,XF,XG,XH, ec, M.rho.many, z30, z2, z2', z2'']))
  refine s_row_by2 rfl hm fun H2 r l hp2 hrl hl rok => ?_
  refine hn' _ _ ?_
  clear hn' hr' K'
  have M2 : Mid c m (i + 1) ((ρ.set "_law_guest" (.int (g : Int))).set "_law_row" (.ref r)) H2 mv due W o hs := ((M.pre hp2).set (by decide) _).set (by decide) _
  have eg2 : ((ρ.set "_law_guest" (.int (g : Int))).set "_law_row" (.ref r)) "_law_guest" = some (.int (g : Int)) := rfl
  have er2 : ((ρ.set "_law_guest" (.int (g : Int))).set "_law_row" (.ref r)) "_law_row" = some (.ref r) := rfl
  have ec2 : ((ρ.set "_law_guest" (.int (g : Int))).set "_law_row" (.ref r)) "_law_cell" = some (.int cell) := set_other (set_other ec (by decide)) (by decide)
  generalize (ρ.set "_law_guest" (.int (g : Int))).set "_law_row" (.ref r) = ρ2 at M2 eg2 er2 ec2 ⊢
  clear M ec
  have held : ∀ ρ3 H3 mv3 due3 W3 o3, Mid c m (i + 1) ρ3 H3 mv3 due3 W3 o3 hs → wSs C10 [.ite (.not_ (.call "_law_held" [.var "_law_inn", .var "_law_wishes", .var "_law_due"]))
      [.ret (.bool false)]
      []] ρ3 H3 K X := by
    intro ρ3 H3 mv3 due3 W3 o3 M3
    (repeat (first | dsimp only [XI, XJ] | dsimp only [ZA,ZB,ZC,ZD,ZE,ZF,ZG,ZH,ZI,ZJ,ZK,ZL,ZM,ZN,ZO,ZP,ZQ,ZR,ZS,ZT,ZU,ZV,ZW,ZX,ZY,ZZ,Za,Zb,Zc,Zd,Ze,Zf,Zg,Zh,Zi,Zj,Zk,Zl,Zm,Zn,Zo,Zp,Zq,Zr,Zs,Zt,Zu,Zv,Zw,Zx,Zy,Zz,YA,YB,YC,YD,YE,YF,YG,YH,YI,YJ,YK,YL,YM,YN,YO,YP,YQ,YR,Env.set,cond_true,cond_false,String.reduceBEq,YS,YT,YU,YV,YW,YX,YY,YZ,Ya,Yb,Yc,Yd,Ye,Yf] | simp only [Yg,Yh,true_and,Yi,Yj,Yk,Yl,Ym,Yn,Yo,Yp,Yq,Yr,Yt,Yu,Yv,Yw,Yx,Yy,Yz,XA,XB,XC,XD,XE,beq_self_eq_true,reduceIte,reduceCtorEq,↓reduceIte,XF,XG,XH, M3.rho.inn, M3.rho.wishes, M3.rho.due]))
    refine s_held rfl rfl rfl rfl rfl rfl rfl rfl M3.dyn.inn M3.dyn.wi M3.dyn.ww M3.dyn.m1 M3.dyn.m2 M3.wok M3.gm fun H4 hp4 => ?_
    (repeat (first | dsimp only [XI, XJ] | dsimp only [ZA,ZB,ZC,ZD,ZE,ZF,ZG,ZH,ZI,ZJ,ZK,ZL,ZM,ZN,ZO,ZP,ZQ,ZR,ZS,ZT,ZU,ZV,ZW,ZX,ZY,ZZ,Za,Zb,Zc,Zd,Ze,Zf,Zg,Zh,Zi,Zj,Zk,Zl,Zm,Zn,Zo,Zp,Zq,Zr,Zs,Zt,Zu,Zv,Zw,Zx,Zy,Zz,YA,YB,YC,YD,YE,YF,YG,YH,YI,YJ,YK,YL,YM,YN,YO,YP,YQ,YR,Env.set,cond_true,cond_false,String.reduceBEq,YS,YT,YU,YV,YW,YX,YY,YZ,Ya,Yb,Yc,Yd,Ye,Yf] | simp only [Yg,Yh,true_and,Yi,Yj,Yk,Yl,Ym,Yn,Yo,Yp,Yq,Yr,Yt,Yu,Yv,Yw,Yx,Yy,Yz,XA,XB,XC,XD,XE,beq_self_eq_true,reduceIte,reduceCtorEq,↓reduceIte,XF,XG,XH]))
    exact hn _ _ ((M3.pre hp4).end ok)
  refine wSs_step fun K' hn' hr' => ?_
  rw [s_ite]
  (repeat (first | dsimp only [XI, XJ] | dsimp only [ZA,ZB,ZC,ZD,ZE,ZF,ZG,ZH,ZI,ZJ,ZK,ZL,ZM,ZN,ZO,ZP,ZQ,ZR,ZS,ZT,ZU,ZV,ZW,ZX,ZY,ZZ,Za,Zb,Zc,Zd,Ze,Zf,Zg,Zh,Zi,Zj,Zk,Zl,Zm,Zn,Zo,Zp,Zq,Zr,Zs,Zt,Zu,Zv,Zw,Zx,Zy,Zz,YA,YB,YC,YD,YE,YF,YG,YH,YI,YJ,YK,YL,YM,YN,YO,YP,YQ,YR,Env.set,cond_true,cond_false,String.reduceBEq,YS,YT,YU,YV,YW,YX,YY,YZ,Ya,Yb,Yc,Yd,Ye,Yf] | simp only [Yg,Yh,true_and,Yi,Yj,Yk,Yl,Ym,Yn,Yo,Yp,Yq,Yr,Yt,Yu,Yv,Yw,Yx,Yy,Yz,XA,XB,XC,XD,XE,beq_self_eq_true,reduceIte,reduceCtorEq,↓reduceIte,XF,XG,XH, ec2, z5']))
  cases e : (cell.fmod 5 == 4) with
  | true =>
    rw [wIf_t]
    exact w_bad M2 hg hl rok eg2 er2 ec2 fun ρ' H' q => hn' _ _ (held _ _ _ _ _ _ q)
  | false =>
    rw [wIf_f]
    exact w_good ok M2 hg hl rok eg2 er2 fun ρ' H' mv' due' W' o' q => hn' _ _ (held _ _ _ _ _ _ q)
end Mine

namespace Mine
open PySem

noncomputable def mvD : Option Mt → PyData
  | none => .none
  | some M => .list (M.map od)
theorem MV.readN {H : Hp} {v : V} {o : Option Mt} (h : MV H v o) (n : Nat) : readD (n + 1) H v = some (mvD o) := by
  cases o with
  | none => cases h; exact rd_n
  | some M => obtain ⟨a, rfl, q⟩ := h; exact q.readN n
theorem mvD_lay (o : Option Mt) : (mvD o).canLay0 = true := by
  cases o with
  | none => rfl
  | some M => exact canLay_od M
theorem mvD_eq (o : Option Mt) : PyData.eqv (mvD o) (mvD o) = true := by
  cases o with
  | none => rfl
  | some M => show PyData.eqvAll (M.map od) (M.map od) = true; rw [eqv_od]; simp
theorem HE.eq {S : List Nat} {H : Hp} {v : V} (h : HE S H v) : ∃ t x y, v = .ref t ∧ H[t]? = some (.tuple [.ref x, .ref y]) ∧ eqD H (.ref x) (.ref y) = some true := by
  obtain ⟨t, x, y, mt, tb, du, cp, M, W, e, h1, h2, h3, h4, h5, h6, h7, h8⟩ := h
  refine ⟨t, x, y, e, h1, ?_⟩
  have r1 : readD 8 H (.ref x) = some (.list [mvD M, .list (W.map fun l => .list (l.map .int))]) := by
    rw [rd_r, h2]
    simp only [List.mapM_cons, List.mapM_nil, h4.readN 6, h6.readN 5]
    rfl
  have r2 : readD 8 H (.ref y) = some (.list [mvD M, .list (W.map fun l => .list (l.map .int))]) := by
    rw [rd_r, h3]
    simp only [List.mapM_cons, List.mapM_nil, h5.readN 6, h7.readN 5]
    rfl
  have cl : PyData.canLay0 (.list [mvD M, .list (W.map fun l => .list (l.map .int))]) = true := by
    rw [cl_l, ca_c, ca_c, mvD_lay, cl_l, canLay_rows]; rfl
  rw [eqD_of r1 r2 cl cl, dq_ll, da_cc, da_cc, mvD_eq, dq_ll, eqvAll_rows, da_nn]
  simp

theorem t_two {x y : String} {v w : V} {a : Nat} {ρ : Env} {H : Hp} (h : H[a]? = some (.tuple [v, w])) : bindT (.two x y) (.ref a) ρ H = some ((ρ.set x v).set y w) := by
  unfold bindT; simp only [h]
theorem asBool_rep (n : Nat) : (List.replicate n (V.bool true)).mapM asBool = some (List.replicate n true) := by
  induction n with
  | zero => rfl
  | succ n ih => rw [List.replicate_succ, List.mapM_cons, ih]; rfl

theorem WOk.mem_len {W : List (List Int)} (ok : WOk W) {l : List Int} (h : l ∈ W) : l.length ≤ 6 := by
  obtain ⟨i, hi, e⟩ := List.mem_iff_getElem.mp h
  have := (ok.rows i hi).len
  unfold row at this
  rw [List.getD_eq_getElem?_getD, List.getElem?_eq_getElem hi, Option.getD_some, e] at this
  exact this
theorem MV.far {H H' : Hp} {v : V} {o : Option Mt} {c : Nat} (h : MV H v o) (hv : ∀ a, v = .ref a → c ≤ a) (hk : ∀ {a : Nat} {o : O}, c ≤ a → H[a]? = some o → H'[a]? = some o) : MV H' v o := by
  cases o with
  | none => exact h
  | some M => obtain ⟨a, rfl, q⟩ := h; exact ⟨a, rfl, hk (hv a rfl) q⟩
theorem I10.set {c : Cs} {m i : Nat} {ρ : Env} {H : Hp} (h : I10 c m i ρ H) {y : String} (hy : rnames.all (fun n => !(n == y)) = true) (v : V) : I10 c m i (ρ.set y v) H := by
  obtain ⟨hs, mv, due, W, o, hh, hlen, D, St, wok, wlen, gm, e⟩ := h
  exact ⟨hs, mv, due, W, o, hh, hlen, D, St, wok, wlen, gm, e.set hy v⟩
theorem I10.deeds {c : Cs} {m i : Nat} {ρ : Env} {H : Hp} (h : I10 c m i ρ H) : LI H c.dd c.l := by
  obtain ⟨hs, mv, due, W, o, hh, hlen, D, St, wok, wlen, gm, e⟩ := h
  have mg : (H.set c.hh (.fdict []))[c.hh]? = some (.fdict []) := get_set_eq hh _
  have := St.deeds
  unfold LI at this ⊢
  rw [get_set_ne (fun q => by rw [q, mg] at this; cases this)] at this
  exact this

noncomputable def tailSs : List S := [.ite (.not_ (.op .all [.compS (.op (.cmp .eq) [.var "_law_told", .var "_law_ahead"]) (.two "_law_told" "_law_ahead") (.var "_law_held_here") []]))
    [.ret (.bool false)]
    [],
  .ret (.and_ [.op (.cmp .eq) [.meth "twos" (.var "_law_beside") [], .var "_law_start"], .op (.cmp .eq) [.meth "table" (.var "_law_beside") [], .var "_law_old"]])]

theorem w_tail {c : Cs} (ok : c.Ok) {m i : Nat} {ρ : Env} {H : Hp} {K : SPost} {X : SXP} (hi : i < 100) (hI : I10 c m i ρ H) (hr : ∀ ρ' H', K (some (.bool true)) ρ' H') : wSs C10 tailSs ρ H K X := by
  obtain ⟨hs, mv, due, W, o, hh, hlen, D, St, wok, wlen, gm, e⟩ := hI
  have mg : (H.set c.hh (.fdict []))[c.hh]? = some (.fdict []) := get_set_eq hh _
  have nvm : NotV (H.set c.hh (.fdict [])) c.hh := NotV.of mg fun _ q => by cases q
  have kum : Kp c.S (H.set c.hh (.fdict [])) H := fun a o hc e => by
    rw [get_set_ne (fun q => hc (by rw [q]; simp [Cs.S]))] at e; exact e
  have S0 := St.kp ok kum (D.nv wok.ne nvm)
  have n1 : ("Inn" ++ "." ++ "twos" : String) = "Inn.twos" := by decide
  have n2 : ("Inn" ++ "." ++ "table" : String) = "Inn.table" := by decide
  unfold tailSs
  refine wSs_step fun K' hn' hr' => ?_
  (repeat (first | dsimp only [XI, XJ] | dsimp only [ZA,ZB,ZC,ZD,ZE,ZF,ZG,ZH,ZI,ZJ,ZK,ZL,ZM,ZN,ZO,ZP,ZQ,ZR,ZS,ZT,ZU,ZV,ZW,ZX,ZY,ZZ,Za,Zb,Zc,Zd,Ze,Zf,Zg,Zh,Zi,Zj,Zk,Zl,Zm,Zn,Zo,Zp,Zq,Zr,Zs,Zt,Zu,Zv,Zw,Zx,Zy,Zz,YA,YB,YC,YD,YE,YF,YG,YH,YI,YJ,YK,YL,YM,YN,YO,YP,YQ,YR,Env.set,cond_true,cond_false,String.reduceBEq,YS,YT,YU,YV,YW,YX,YY,YZ,Ya,Yb,Yc,Yd,Ye,Yf] | simp only [Yg,Yh,true_and,Yi,Yj,Yk,Yl,Ym,Yn,Yo,Yp,Yq,Yr,Yt,Yu,Yv,Yw,Yx,Yy,Yz,XA,XB,XC,XD,XE,beq_self_eq_true,reduceIte,reduceCtorEq,↓reduceIte,XF,XG,XH, e.held, seqOf_list hh]))
  refine wLoop_idx (fun j acc H' => H' = H ∧ acc = List.replicate j (.bool true)) ⟨rfl, rfl⟩ (fun j v acc H' hv hI => ⟨by rw [hI.1], fun k' k1 k2 => ?_⟩) fun acc H' hI => ⟨by rw [hI.1], ?_⟩
  · obtain ⟨rfl, rfl⟩ := hI
    obtain ⟨t, x, y, rfl, ht, he⟩ := (S0.hist v (List.mem_of_getElem? hv)).eq
    (repeat (first | dsimp only [XI, XJ] | dsimp only [ZA,ZB,ZC,ZD,ZE,ZF,ZG,ZH,ZI,ZJ,ZK,ZL,ZM,ZN,ZO,ZP,ZQ,ZR,ZS,ZT,ZU,ZV,ZW,ZX,ZY,ZZ,Za,Zb,Zc,Zd,Ze,Zf,Zg,Zh,Zi,Zj,Zk,Zl,Zm,Zn,Zo,Zp,Zq,Zr,Zs,Zt,Zu,Zv,Zw,Zx,Zy,Zz,YA,YB,YC,YD,YE,YF,YG,YH,YI,YJ,YK,YL,YM,YN,YO,YP,YQ,YR,Env.set,cond_true,cond_false,String.reduceBEq,YS,YT,YU,YV,YW,YX,YY,YZ,Ya,Yb,Yc,Yd,Ye,Yf] | simp only [Yg,Yh,true_and,Yi,Yj,Yk,Yl,Ym,Yn,Yo,Yp,Yq,Yr,Yt,Yu,Yv,Yw,Yx,Yy,Yz,XA,XB,XC,XD,XE,beq_self_eq_true,reduceIte,reduceCtorEq,↓reduceIte,XF,XG,XH, t_two ht, he]))
    refine k1 _ _ ⟨rfl, ?_⟩
    rw [List.replicate_succ', ]
  · obtain ⟨rfl, rfl⟩ := hI
    have p1 : H' <+: H' ++ [O.list (List.replicate hs.length (.bool true))] := pre_new _ _
    have g1 : (H' ++ [O.list (List.replicate hs.length (.bool true))])[H'.length]? = some (.list (List.replicate hs.length (.bool true))) := get_new _ _
    have l1 : listOf? (H' ++ [O.list (List.replicate hs.length (.bool true))]) H'.length = some (List.replicate hs.length (.bool true)) := by unfold listOf?; rw [g1]
    have al : (List.replicate hs.length true).all id = true := by simp
    (repeat (first | dsimp only [XI, XJ] | dsimp only [ZA,ZB,ZC,ZD,ZE,ZF,ZG,ZH,ZI,ZJ,ZK,ZL,ZM,ZN,ZO,ZP,ZQ,ZR,ZS,ZT,ZU,ZV,ZW,ZX,ZY,ZZ,Za,Zb,Zc,Zd,Ze,Zf,Zg,Zh,Zi,Zj,Zk,Zl,Zm,Zn,Zo,Zp,Zq,Zr,Zs,Zt,Zu,Zv,Zw,Zx,Zy,Zz,YA,YB,YC,YD,YE,YF,YG,YH,YI,YJ,YK,YL,YM,YN,YO,YP,YQ,YR,Env.set,cond_true,cond_false,String.reduceBEq,YS,YT,YU,YV,YW,YX,YY,YZ,Ya,Yb,Yc,Yd,Ye,Yf] | simp only [Yg,Yh,true_and,Yi,Yj,Yk,Yl,Ym,Yn,Yo,Yp,Yq,Yr,Yt,Yu,Yv,Yw,Yx,Yy,Yz,XA,XB,XC,XD,XE,beq_self_eq_true,reduceIte,reduceCtorEq,↓reduceIte,XF,XG,XH, l1, asBool_rep, al]))
    refine hn' _ _ ?_
    clear hn' hr' K' l1 g1
    generalize H' ++ [O.list (List.replicate hs.length (.bool true))] = H1 at p1 ⊢
    have S1 := S0.pre p1
    (repeat (first | dsimp only [XI, XJ] | dsimp only [ZA,ZB,ZC,ZD,ZE,ZF,ZG,ZH,ZI,ZJ,ZK,ZL,ZM,ZN,ZO,ZP,ZQ,ZR,ZS,ZT,ZU,ZV,ZW,ZX,ZY,ZZ,Za,Zb,Zc,Zd,Ze,Zf,Zg,Zh,Zi,Zj,Zk,Zl,Zm,Zn,Zo,Zp,Zq,Zr,Zs,Zt,Zu,Zv,Zw,Zx,Zy,Zz,YA,YB,YC,YD,YE,YF,YG,YH,YI,YJ,YK,YL,YM,YN,YO,YP,YQ,YR,Env.set,cond_true,cond_false,String.reduceBEq,YS,YT,YU,YV,YW,YX,YY,YZ,Ya,Yb,Yc,Yd,Ye,Yf] | simp only [Yg,Yh,true_and,Yi,Yj,Yk,Yl,Ym,Yn,Yo,Yp,Yq,Yr,Yt,Yu,Yv,Yw,Yx,Yy,Yz,XA,XB,XC,XD,XE,beq_self_eq_true,reduceIte,reduceCtorEq,↓reduceIte,XF,XG,XH, e.beside, e_meth, S1.inn.inst, n1]))
    refine s_twos rfl S1.inn S1.m1 fun H2 v hp2 hv _ => ?_
    have S2 := S1.pre hp2
    (repeat (first | dsimp only [XI, XJ] | dsimp only [ZA,ZB,ZC,ZD,ZE,ZF,ZG,ZH,ZI,ZJ,ZK,ZL,ZM,ZN,ZO,ZP,ZQ,ZR,ZS,ZT,ZU,ZV,ZW,ZX,ZY,ZZ,Za,Zb,Zc,Zd,Ze,Zf,Zg,Zh,Zi,Zj,Zk,Zl,Zm,Zn,Zo,Zp,Zq,Zr,Zs,Zt,Zu,Zv,Zw,Zx,Zy,Zz,YA,YB,YC,YD,YE,YF,YG,YH,YI,YJ,YK,YL,YM,YN,YO,YP,YQ,YR,Env.set,cond_true,cond_false,String.reduceBEq,YS,YT,YU,YV,YW,YX,YY,YZ,Ya,Yb,Yc,Yd,Ye,Yf] | simp only [Yg,Yh,true_and,Yi,Yj,Yk,Yl,Ym,Yn,Yo,Yp,Yq,Yr,Yt,Yu,Yv,Yw,Yx,Yy,Yz,XA,XB,XC,XD,XE,beq_self_eq_true,reduceIte,reduceCtorEq,↓reduceIte,XF,XG,XH, e.start, hv.eq S2.m2, e.beside, e_meth, S2.inn.inst, n2]))
    refine s_table rfl S2.inn S2.wi fun H3 r hp3 _ hT => ?_
    (repeat (first | dsimp only [XI, XJ] | dsimp only [ZA,ZB,ZC,ZD,ZE,ZF,ZG,ZH,ZI,ZJ,ZK,ZL,ZM,ZN,ZO,ZP,ZQ,ZR,ZS,ZT,ZU,ZV,ZW,ZX,ZY,ZZ,Za,Zb,Zc,Zd,Ze,Zf,Zg,Zh,Zi,Zj,Zk,Zl,Zm,Zn,Zo,Zp,Zq,Zr,Zs,Zt,Zu,Zv,Zw,Zx,Zy,Zz,YA,YB,YC,YD,YE,YF,YG,YH,YI,YJ,YK,YL,YM,YN,YO,YP,YQ,YR,Env.set,cond_true,cond_false,String.reduceBEq,YS,YT,YU,YV,YW,YX,YY,YZ,Ya,Yb,Yc,Yd,Ye,Yf] | simp only [Yg,Yh,true_and,Yi,Yj,Yk,Yl,Ym,Yn,Yo,Yp,Yq,Yr,Yt,Yu,Yv,Yw,Yx,Yy,Yz,XA,XB,XC,XD,XE,beq_self_eq_true,reduceIte,reduceCtorEq,↓reduceIte,XF,XG,XH, e.old, hT.wh.eq (S2.wo.pre hp3), decide_true]))
    exact hr _ _

set_option maxRecDepth 10000 in
theorem main10 (is : List Int) : callN prog10 false 200 "law" [.ref 0] [.frozen (is.map .int)] (fun v _ => v = .bool true) (fun _ _ => False) := by
  have hs : ∀ {H : Hp}, [O.frozen (is.map .int)] <+: H → H[0]? = some (.frozen (is.map .int)) := fun hp => pre_get hp rfl
  have hq : ∀ {H : Hp}, [O.frozen (is.map .int)] <+: H → seqOf H 0 = some (is.map .int) := fun hp => by unfold seqOf; rw [hs hp]
  have p0 : [O.frozen (is.map .int)] <+: [O.frozen (is.map .int)] := List.prefix_refl _
  (refine callN_in (show prog10.fn "law" = some f_law_10 from rfl) rfl ?_; unfold f_law_10)
  rw [show E.compS (.op .list [.var "_law_row"]) (.one "_law_row") (.var "_law_wishes") [] = copyE "_law_wishes" "_law_row" from rfl]
  refine wSs_step fun K hn hr => ?_
  (repeat (first | dsimp only [XI, XJ] | dsimp only [ZA,ZB,ZC,ZD,ZE,ZF,ZG,ZH,ZI,ZJ,ZK,ZL,ZM,ZN,ZO,ZP,ZQ,ZR,ZS,ZT,ZU,ZV,ZW,ZX,ZY,ZZ,Za,Zb,Zc,Zd,Ze,Zf,Zg,Zh,Zi,Zj,Zk,Zl,Zm,Zn,Zo,Zp,Zq,Zr,Zs,Zt,Zu,Zv,Zw,Zx,Zy,Zz,YA,YB,YC,YD,YE,YF,YG,YH,YI,YJ,YK,YL,YM,YN,YO,YP,YQ,YR,Env.set,cond_true,cond_false,String.reduceBEq,YS,YT,YU,YV,YW,YX,YY,YZ,Ya,Yb,Yc,Yd,Ye,Yf] | simp only [Yg,Yh,true_and,Yi,Yj,Yk,Yl,Ym,Yn,Yo,Yp,Yq,Yr,Yt,Yu,Yv,Yw,Yx,Yy,Yz,XA,XB,XC,XD,XE,beq_self_eq_true,reduceIte,reduceCtorEq,↓reduceIte,XF,XG,XH]))
  refine s_cell_at (k := 0) rfl (hq p0) ?_
  obtain ⟨m, hm, em⟩ := fmod_nat (is.getD 0 0) (m := 6) (by omega)
  have em' : (is.getD 0 0).fmod 6 = (m : Int) := em
  have em2 : (1 : Int) + (m : Int) = ((m + 1 : Nat) : Int) := by omega
  have z6 : ((6 : Int) = 0) = False := by simp
  have z3 : ((3 : Int) = 0) = False := by simp
  have z6' : ((6 : Int) = 0 ∨ 2 ^ 30 ≤ (6 : Int).natAbs) = False := by simp
  have z3' : ((3 : Int) = 0 ∨ 2 ^ 30 ≤ (3 : Int).natAbs) = False := by simp
  (repeat (first | dsimp only [XI, XJ] | dsimp only [ZA,ZB,ZC,ZD,ZE,ZF,ZG,ZH,ZI,ZJ,ZK,ZL,ZM,ZN,ZO,ZP,ZQ,ZR,ZS,ZT,ZU,ZV,ZW,ZX,ZY,ZZ,Za,Zb,Zc,Zd,Ze,Zf,Zg,Zh,Zi,Zj,Zk,Zl,Zm,Zn,Zo,Zp,Zq,Zr,Zs,Zt,Zu,Zv,Zw,Zx,Zy,Zz,YA,YB,YC,YD,YE,YF,YG,YH,YI,YJ,YK,YL,YM,YN,YO,YP,YQ,YR,Env.set,cond_true,cond_false,String.reduceBEq,YS,YT,YU,YV,YW,YX,YY,YZ,Ya,Yb,Yc,Yd,Ye,Yf] | simp only [Yg,Yh,true_and,Yi,Yj,Yk,Yl,Ym,Yn,Yo,Yp,Yq,Yr,Yt,Yu,Yv,Yw,Yx,Yy,Yz,XA,XB,XC,XD,XE,beq_self_eq_true,reduceIte,reduceCtorEq,↓reduceIte,XF,XG,XH, em', em2, z6]))
  refine hn _ _ ?_
  clear hn hr K
  refine wSs_step fun K hn hr => ?_
  have rest : ∀ (ρ : Env) (m : Nat), 1 ≤ m → m ≤ 6 → ρ "_law_script" = some (.ref 0) → ρ "_law_many" = some (.int (m : Int)) → K none ρ [O.frozen (is.map .int)] := by
    intro ρ m m1 m6 e1 e2
    refine hn _ _ ?_
    clear hn hr K
    refine wSs_step fun K hn hr => ?_
    (repeat (first | dsimp only [XI, XJ] | dsimp only [ZA,ZB,ZC,ZD,ZE,ZF,ZG,ZH,ZI,ZJ,ZK,ZL,ZM,ZN,ZO,ZP,ZQ,ZR,ZS,ZT,ZU,ZV,ZW,ZX,ZY,ZZ,Za,Zb,Zc,Zd,Ze,Zf,Zg,Zh,Zi,Zj,Zk,Zl,Zm,Zn,Zo,Zp,Zq,Zr,Zs,Zt,Zu,Zv,Zw,Zx,Zy,Zz,YA,YB,YC,YD,YE,YF,YG,YH,YI,YJ,YK,YL,YM,YN,YO,YP,YQ,YR,Env.set,cond_true,cond_false,String.reduceBEq,YS,YT,YU,YV,YW,YX,YY,YZ,Ya,Yb,Yc,Yd,Ye,Yf] | simp only [Yg,Yh,true_and,Yi,Yj,Yk,Yl,Ym,Yn,Yo,Yp,Yq,Yr,Yt,Yu,Yv,Yw,Yx,Yy,Yz,XA,XB,XC,XD,XE,beq_self_eq_true,reduceIte,reduceCtorEq,↓reduceIte,XF,XG,XH, e1, e2]))
    refine s_wishes_by rfl rfl rfl rfl (by omega) (by omega) fun H1 w W hp1 hW ok hWl => ?_
    refine hn _ _ ?_
    clear hn hr K
    have hw1 : w < H1.length := by obtain ⟨_, q, _⟩ := hW; exact (List.getElem?_eq_some_iff.mp q).1
    -- handed
    refine wSs_step fun K hn hr => ?_
    (repeat (first | dsimp only [XI, XJ] | dsimp only [ZA,ZB,ZC,ZD,ZE,ZF,ZG,ZH,ZI,ZJ,ZK,ZL,ZM,ZN,ZO,ZP,ZQ,ZR,ZS,ZT,ZU,ZV,ZW,ZX,ZY,ZZ,Za,Zb,Zc,Zd,Ze,Zf,Zg,Zh,Zi,Zj,Zk,Zl,Zm,Zn,Zo,Zp,Zq,Zr,Zs,Zt,Zu,Zv,Zw,Zx,Zy,Zz,YA,YB,YC,YD,YE,YF,YG,YH,YI,YJ,YK,YL,YM,YN,YO,YP,YQ,YR,Env.set,cond_true,cond_false,String.reduceBEq,YS,YT,YU,YV,YW,YX,YY,YZ,Ya,Yb,Yc,Yd,Ye,Yf] | simp only [Yg,Yh,true_and,Yi,Yj,Yk,Yl,Ym,Yn,Yo,Yp,Yq,Yr,Yt,Yu,Yv,Yw,Yx,Yy,Yz,XA,XB,XC,XD,XE,beq_self_eq_true,reduceIte,reduceCtorEq,↓reduceIte,XF,XG,XH]))
    refine w_copyF (w := w) rfl hW fun H2 hd hp2 hd2 hH => ?_
    refine hn _ _ ?_
    clear hn hr K
    -- inn
    refine wSs_step fun K hn hr => ?_
    rw [s_assign]
    refine w_newInn (P := prog10) (b := false) (N := 187) (w := hd) (H1 := H2) (W := W) rfl rfl rfl rfl rfl rfl rfl rfl rfl rfl rfl rfl rfl (fun Q q => by (repeat (first | dsimp only [XI, XJ] | dsimp only [ZA,ZB,ZC,ZD,ZE,ZF,ZG,ZH,ZI,ZJ,ZK,ZL,ZM,ZN,ZO,ZP,ZQ,ZR,ZS,ZT,ZU,ZV,ZW,ZX,ZY,ZZ,Za,Zb,Zc,Zd,Ze,Zf,Zg,Zh,Zi,Zj,Zk,Zl,Zm,Zn,Zo,Zp,Zq,Zr,Zs,Zt,Zu,Zv,Zw,Zx,Zy,Zz,YA,YB,YC,YD,YE,YF,YG,YH,YI,YJ,YK,YL,YM,YN,YO,YP,YQ,YR,Env.set,cond_true,cond_false,String.reduceBEq,YS,YT,YU,YV,YW,YX,YY,YZ,Ya,Yb,Yc,Yd,Ye,Yf] | simp only [Yg,Yh,true_and,Yi,Yj,Yk,Yl,Ym,Yn,Yo,Yp,Yq,Yr,Yt,Yu,Yv,Yw,Yx,Yy,Yz,XA,XB,XC,XD,XE,beq_self_eq_true,reduceIte,reduceCtorEq,↓reduceIte,XF,XG,XH])); exact q) hH.wh ok fun H3 x d iw mv hp3 hx hd' hiw hid hI hWi hmv hmf => ?_
    refine hn _ _ ?_
    clear hn hr K
    -- beside
    refine wSs_step fun K hn hr => ?_
    rw [s_assign]
    have hW3 := hW.pre (hp2.trans hp3)
    suffices beside : ∀ H5 x2 d2 iw2 mv2, H3 <+: H5 → H3.length ≤ x2 → H3.length ≤ d2 → H3.length ≤ iw2 → INN H5 x2 d2 iw2 mv2 → WHf H3.length H5 iw2 W → MV H5 mv2 (firstC W) → (∀ a, mv2 = .ref a → H3.length ≤ a) → K none (((((ρ.set "_law_wishes" (.ref w)).set "_law_handed" (.ref hd)).set "_law_inn" (.ref x)).set "_law_beside" (.ref x2))) H5 by
      rw [e_new, es_cons]
      refine w_copyF (w := w) rfl hW3 fun H4 cp hp4 hcl hC => ?_
      have := w_newInn (P := prog10) (b := false) (N := 187) (C := C10) (e := .var "y") (ρ := fun _ => some (.ref cp)) (w := cp) (H := H4) (H1 := H4) (W := W) (X := fun _ _ => False) (Q := fun v H' => K none ((((ρ.set "_law_wishes" (.ref w)).set "_law_handed" (.ref hd)).set "_law_inn" (.ref x)).set "_law_beside" v) H') rfl rfl rfl rfl rfl rfl rfl rfl rfl rfl rfl rfl rfl (fun Q q => q) hC.wh ok fun H5 x2 d2 iw2 mv2 hp5 g1 g2 g3 _ g4 g5 g6 g7 => beside H5 x2 d2 iw2 mv2 (hp4.trans hp5) (by have := hp4.length_le; omega) (by have := hp4.length_le; omega) (by have := hp4.length_le; omega) g4 (g5.le hp4.length_le) g6 (fun a q => by have := g7 a q; have := hp4.length_le; omega)
      exact this
    intro H5 x2 d2 iw2 mv2 hp5 hx2 hd2' hiw2 hI2 hWi2 hmv2 hmf2
    refine hn _ _ ?_
    clear hn hr K
    -- handed[0].append(0)
    obtain ⟨rs, b, l0, t1, t2, t3, t4, t5, t6⟩ := hH.row0 ok.ne
    have hb2 : b < H2.length := (List.getElem?_eq_some_iff.mp t3).1
    have hp25 := hp3.trans hp5
    have t3' := t3.pre hp25
    have l06 := ok.mem_len t6
    refine wSs_step fun K hn hr => ?_
    have i0 : itemV (.ref hd) (.int 0) H5 = some (.ref b) := item_seq (i := 0) (seqOf_list (pre_get hp25 t1)) rfl
    (repeat (first | dsimp only [XI, XJ] | dsimp only [ZA,ZB,ZC,ZD,ZE,ZF,ZG,ZH,ZI,ZJ,ZK,ZL,ZM,ZN,ZO,ZP,ZQ,ZR,ZS,ZT,ZU,ZV,ZW,ZX,ZY,ZZ,Za,Zb,Zc,Zd,Ze,Zf,Zg,Zh,Zi,Zj,Zk,Zl,Zm,Zn,Zo,Zp,Zq,Zr,Zs,Zt,Zu,Zv,Zw,Zx,Zy,Zz,YA,YB,YC,YD,YE,YF,YG,YH,YI,YJ,YK,YL,YM,YN,YO,YP,YQ,YR,Env.set,cond_true,cond_false,String.reduceBEq,YS,YT,YU,YV,YW,YX,YY,YZ,Ya,Yb,Yc,Yd,Ye,Yf] | simp only [Yg,Yh,true_and,Yi,Yj,Yk,Yl,Ym,Yn,Yo,Yp,Yq,Yr,Yt,Yu,Yv,Yw,Yx,Yy,Yz,XA,XB,XC,XD,XE,beq_self_eq_true,reduceIte,reduceCtorEq,↓reduceIte,XF,XG,XH, i0, (recvL t3').1, append_at (v := .int 0) t3' (by rw [List.length_map]; unfold lim; omega)]))
    refine hn _ _ ?_
    clear hn hr K
    have p16 : H1 <+: H5.set b (.list (l0.map .int ++ [.int 0])) := pre_set (hp2.trans hp25) t2 _
    have f6 : ∀ {a : Nat} {o : O}, H2.length ≤ a → H5[a]? = some o → (H5.set b (.list (l0.map .int ++ [.int 0])))[a]? = some o := fun ha e => by rw [get_set_ne (by omega)]; exact e
    have a3 := hp3.length_le
    have a5 := hp5.length_le
    have a2 := hp2.length_le
    have n6 : (H5.set b (.list (l0.map .int ++ [.int 0]))).length = H5.length := List.length_set ..
    have I6 : INN (H5.set b (.list (l0.map .int ++ [.int 0]))) x d iw mv := ⟨f6 hx (hI.pre hp5).obj, f6 hd' (hI.pre hp5).names⟩
    have W6 := ((hWi.pre hp5).far hiw hb2 (.list (l0.map .int ++ [.int 0]))).wh
    have M6 : MV (H5.set b (.list (l0.map .int ++ [.int 0]))) mv (firstC W) := (hmv.pre hp5).far hmf f6
    have J6 : INN (H5.set b (.list (l0.map .int ++ [.int 0]))) x2 d2 iw2 mv2 := ⟨f6 (by omega) hI2.obj, f6 (by omega) hI2.names⟩
    have V6 := (hWi2.far hiw2 (show b < H3.length by omega) (.list (l0.map .int ++ [.int 0]))).wh
    have N6 : MV (H5.set b (.list (l0.map .int ++ [.int 0]))) mv2 (firstC W) := hmv2.far (fun a q => by have := hmf2 a q; omega) f6
    have gl3 : ∀ {a : Nat} {o : O}, H3[a]? = some o → a < H3.length := fun q => (List.getElem?_eq_some_iff.mp q).1
    have x3 := gl3 hI.obj
    have d3 := gl3 hI.names
    have iw3 : iw < H3.length := by obtain ⟨_, q, _⟩ := hWi; exact gl3 q
    have gl5 : ∀ {a : Nat} {o : O}, H5[a]? = some o → a < H5.length := fun q => (List.getElem?_eq_some_iff.mp q).1
    have x5 := gl5 hI2.obj
    have d5 := gl5 hI2.names
    have iw5 : iw2 < H5.length := by obtain ⟨_, q, _⟩ := hWi2; exact gl5 q
    have p06 := hp1.trans p16
    generalize H5.set b (.list (l0.map .int ++ [.int 0])) = H6 at p16 p06 n6 I6 W6 M6 J6 V6 N6 ⊢
    have w6 := hW.pre p16
    clear f6 i0 t3' t1 t2 t3 t5 gl3 gl5 hI hI2 hWi hWi2 hmv hmv2 hmf hmf2 hH hW3 hW
    -- due
    refine wSs_step fun K hn hr => ?_
    (repeat (first | dsimp only [XI, XJ] | dsimp only [ZA,ZB,ZC,ZD,ZE,ZF,ZG,ZH,ZI,ZJ,ZK,ZL,ZM,ZN,ZO,ZP,ZQ,ZR,ZS,ZT,ZU,ZV,ZW,ZX,ZY,ZZ,Za,Zb,Zc,Zd,Ze,Zf,Zg,Zh,Zi,Zj,Zk,Zl,Zm,Zn,Zo,Zp,Zq,Zr,Zs,Zt,Zu,Zv,Zw,Zx,Zy,Zz,YA,YB,YC,YD,YE,YF,YG,YH,YI,YJ,YK,YL,YM,YN,YO,YP,YQ,YR,Env.set,cond_true,cond_false,String.reduceBEq,YS,YT,YU,YV,YW,YX,YY,YZ,Ya,Yb,Yc,Yd,Ye,Yf] | simp only [Yg,Yh,true_and,Yi,Yj,Yk,Yl,Ym,Yn,Yo,Yp,Yq,Yr,Yt,Yu,Yv,Yw,Yx,Yy,Yz,XA,XB,XC,XD,XE,beq_self_eq_true,reduceIte,reduceCtorEq,↓reduceIte,XF,XG,XH]))
    refine s_law_first10 rfl rfl rfl rfl rfl rfl rfl rfl rfl rfl rfl w6 ok fun H7 due hp7 hdue _ => ?_
    refine hn _ _ ?_
    clear hn hr K
    refine wSs_step fun K hn hr => ?_
    (repeat (first | dsimp only [XI, XJ] | dsimp only [ZA,ZB,ZC,ZD,ZE,ZF,ZG,ZH,ZI,ZJ,ZK,ZL,ZM,ZN,ZO,ZP,ZQ,ZR,ZS,ZT,ZU,ZV,ZW,ZX,ZY,ZZ,Za,Zb,Zc,Zd,Ze,Zf,Zg,Zh,Zi,Zj,Zk,Zl,Zm,Zn,Zo,Zp,Zq,Zr,Zs,Zt,Zu,Zv,Zw,Zx,Zy,Zz,YA,YB,YC,YD,YE,YF,YG,YH,YI,YJ,YK,YL,YM,YN,YO,YP,YQ,YR,Env.set,cond_true,cond_false,String.reduceBEq,YS,YT,YU,YV,YW,YX,YY,YZ,Ya,Yb,Yc,Yd,Ye,Yf] | simp only [Yg,Yh,true_and,Yi,Yj,Yk,Yl,Ym,Yn,Yo,Yp,Yq,Yr,Yt,Yu,Yv,Yw,Yx,Yy,Yz,XA,XB,XC,XD,XE,beq_self_eq_true,reduceIte,reduceCtorEq,↓reduceIte,XF,XG,XH]))
    refine s_law_first10 rfl rfl rfl rfl rfl rfl rfl rfl rfl rfl rfl (w6.pre hp7) ok fun H8 st hp8 hst _ => ?_
    refine hn _ _ ?_
    clear hn hr K
    refine wSs_step fun K hn hr => ?_
    (repeat (first | dsimp only [XI, XJ] | dsimp only [ZA,ZB,ZC,ZD,ZE,ZF,ZG,ZH,ZI,ZJ,ZK,ZL,ZM,ZN,ZO,ZP,ZQ,ZR,ZS,ZT,ZU,ZV,ZW,ZX,ZY,ZZ,Za,Zb,Zc,Zd,Ze,Zf,Zg,Zh,Zi,Zj,Zk,Zl,Zm,Zn,Zo,Zp,Zq,Zr,Zs,Zt,Zu,Zv,Zw,Zx,Zy,Zz,YA,YB,YC,YD,YE,YF,YG,YH,YI,YJ,YK,YL,YM,YN,YO,YP,YQ,YR,Env.set,cond_true,cond_false,String.reduceBEq,YS,YT,YU,YV,YW,YX,YY,YZ,Ya,Yb,Yc,Yd,Ye,Yf] | simp only [Yg,Yh,true_and,Yi,Yj,Yk,Yl,Ym,Yn,Yo,Yp,Yq,Yr,Yt,Yu,Yv,Yw,Yx,Yy,Yz,XA,XB,XC,XD,XE,beq_self_eq_true,reduceIte,reduceCtorEq,↓reduceIte,XF,XG,XH]))
    refine w_copyF (w := w) rfl (w6.pre (hp7.trans hp8)) fun H9 old hp9 hold hO => ?_
    refine hn _ _ ?_
    clear hn hr K
    have p69 := hp7.trans (hp8.trans hp9)
    have old9 : old < H9.length := by obtain ⟨_, q, _⟩ := hO; exact (List.getElem?_eq_some_iff.mp q).1
    -- held
    refine wSs_step fun K hn hr => ?_
    (repeat (first | dsimp only [XI, XJ] | dsimp only [ZA,ZB,ZC,ZD,ZE,ZF,ZG,ZH,ZI,ZJ,ZK,ZL,ZM,ZN,ZO,ZP,ZQ,ZR,ZS,ZT,ZU,ZV,ZW,ZX,ZY,ZZ,Za,Zb,Zc,Zd,Ze,Zf,Zg,Zh,Zi,Zj,Zk,Zl,Zm,Zn,Zo,Zp,Zq,Zr,Zs,Zt,Zu,Zv,Zw,Zx,Zy,Zz,YA,YB,YC,YD,YE,YF,YG,YH,YI,YJ,YK,YL,YM,YN,YO,YP,YQ,YR,Env.set,cond_true,cond_false,String.reduceBEq,YS,YT,YU,YV,YW,YX,YY,YZ,Ya,Yb,Yc,Yd,Ye,Yf] | simp only [Yg,Yh,true_and,Yi,Yj,Yk,Yl,Ym,Yn,Yo,Yp,Yq,Yr,Yt,Yu,Yv,Yw,Yx,Yy,Yz,XA,XB,XC,XD,XE,beq_self_eq_true,reduceIte,reduceCtorEq,↓reduceIte,XF,XG,XH]))
    refine s_held rfl rfl rfl rfl rfl rfl rfl rfl (I6.pre p69) (W6.pre p69) (w6.pre p69) (M6.pre p69) (hdue.pre (hp8.trans hp9)) ok (GM.first W) fun H10 hp10 => ?_
    (repeat (first | dsimp only [XI, XJ] | dsimp only [ZA,ZB,ZC,ZD,ZE,ZF,ZG,ZH,ZI,ZJ,ZK,ZL,ZM,ZN,ZO,ZP,ZQ,ZR,ZS,ZT,ZU,ZV,ZW,ZX,ZY,ZZ,Za,Zb,Zc,Zd,Ze,Zf,Zg,Zh,Zi,Zj,Zk,Zl,Zm,Zn,Zo,Zp,Zq,Zr,Zs,Zt,Zu,Zv,Zw,Zx,Zy,Zz,YA,YB,YC,YD,YE,YF,YG,YH,YI,YJ,YK,YL,YM,YN,YO,YP,YQ,YR,Env.set,cond_true,cond_false,String.reduceBEq,YS,YT,YU,YV,YW,YX,YY,YZ,Ya,Yb,Yc,Yd,Ye,Yf] | simp only [Yg,Yh,true_and,Yi,Yj,Yk,Yl,Ym,Yn,Yo,Yp,Yq,Yr,Yt,Yu,Yv,Yw,Yx,Yy,Yz,XA,XB,XC,XD,XE,beq_self_eq_true,reduceIte,reduceCtorEq,↓reduceIte,XF,XG,XH]))
    refine hn _ _ ?_
    clear hn hr K
    have p6 := p69.trans hp10
    refine wSs_step fun K hn hr => ?_
    (repeat (first | dsimp only [XI, XJ] | dsimp only [ZA,ZB,ZC,ZD,ZE,ZF,ZG,ZH,ZI,ZJ,ZK,ZL,ZM,ZN,ZO,ZP,ZQ,ZR,ZS,ZT,ZU,ZV,ZW,ZX,ZY,ZZ,Za,Zb,Zc,Zd,Ze,Zf,Zg,Zh,Zi,Zj,Zk,Zl,Zm,Zn,Zo,Zp,Zq,Zr,Zs,Zt,Zu,Zv,Zw,Zx,Zy,Zz,YA,YB,YC,YD,YE,YF,YG,YH,YI,YJ,YK,YL,YM,YN,YO,YP,YQ,YR,Env.set,cond_true,cond_false,String.reduceBEq,YS,YT,YU,YV,YW,YX,YY,YZ,Ya,Yb,Yc,Yd,Ye,Yf] | simp only [Yg,Yh,true_and,Yi,Yj,Yk,Yl,Ym,Yn,Yo,Yp,Yq,Yr,Yt,Yu,Yv,Yw,Yx,Yy,Yz,XA,XB,XC,XD,XE,beq_self_eq_true,reduceIte,reduceCtorEq,↓reduceIte,XF,XG,XH]))
    refine hn _ _ ?_
    clear hn hr K
    have n7 := hp7.length_le
    have n8 := hp8.length_le
    have n9 := hp9.length_le
    have n10 := hp10.length_le
    have q11 : H10 <+: H10 ++ [O.list []] := pre_new _ _
    have hh11 : (H10 ++ [O.list []])[H10.length]? = some (.list []) := get_new _ _
    have n11 : (H10 ++ [O.list []]).length = H10.length + 1 := by simp
    generalize H10 ++ [O.list []] = H11 at q11 hh11 n11 ⊢
    show wSs C10 (.forS "_law_cell" (.call "_law_deeds" [.var "_law_script", .var "_law_many"]) deedSs :: tailSs) _ _ _ _
    refine wSs_step fun K hn hr => ?_
    (repeat (first | dsimp only [XI, XJ] | dsimp only [ZA,ZB,ZC,ZD,ZE,ZF,ZG,ZH,ZI,ZJ,ZK,ZL,ZM,ZN,ZO,ZP,ZQ,ZR,ZS,ZT,ZU,ZV,ZW,ZX,ZY,ZZ,Za,Zb,Zc,Zd,Ze,Zf,Zg,Zh,Zi,Zj,Zk,Zl,Zm,Zn,Zo,Zp,Zq,Zr,Zs,Zt,Zu,Zv,Zw,Zx,Zy,Zz,YA,YB,YC,YD,YE,YF,YG,YH,YI,YJ,YK,YL,YM,YN,YO,YP,YQ,YR,Env.set,cond_true,cond_false,String.reduceBEq,YS,YT,YU,YV,YW,YX,YY,YZ,Ya,Yb,Yc,Yd,Ye,Yf] | simp only [Yg,Yh,true_and,Yi,Yj,Yk,Yl,Ym,Yn,Yo,Yp,Yq,Yr,Yt,Yu,Yv,Yw,Yx,Yy,Yz,XA,XB,XC,XD,XE,beq_self_eq_true,reduceIte,reduceCtorEq,↓reduceIte,XF,XG,XH, e1, e2]))
    refine s_deeds rfl rfl (hs (p06.trans (p6.trans q11))) fun H12 dd l hp12 hdl hL hl20 => ?_
    (repeat (first | dsimp only [XI, XJ] | dsimp only [ZA,ZB,ZC,ZD,ZE,ZF,ZG,ZH,ZI,ZJ,ZK,ZL,ZM,ZN,ZO,ZP,ZQ,ZR,ZS,ZT,ZU,ZV,ZW,ZX,ZY,ZZ,Za,Zb,Zc,Zd,Ze,Zf,Zg,Zh,Zi,Zj,Zk,Zl,Zm,Zn,Zo,Zp,Zq,Zr,Zs,Zt,Zu,Zv,Zw,Zx,Zy,Zz,YA,YB,YC,YD,YE,YF,YG,YH,YI,YJ,YK,YL,YM,YN,YO,YP,YQ,YR,Env.set,cond_true,cond_false,String.reduceBEq,YS,YT,YU,YV,YW,YX,YY,YZ,Ya,Yb,Yc,Yd,Ye,Yf] | simp only [Yg,Yh,true_and,Yi,Yj,Yk,Yl,Ym,Yn,Yo,Yp,Yq,Yr,Yt,Yu,Yv,Yw,Yx,Yy,Yz,XA,XB,XC,XD,XE,beq_self_eq_true,reduceIte,reduceCtorEq,↓reduceIte,XF,XG,XH, hL.seq]))
    have cok : (Cs.mk w x d iw x2 d2 iw2 old dd H10.length mv2 st W (firstC W) l).Ok := by
      refine ⟨fun a ha q => ?_, fun a ha => ?_, ?_⟩
      · simp only [List.mem_cons, List.not_mem_nil, or_false] at ha
        simp only [Cs.S, List.mem_cons, List.not_mem_nil, or_false] at q
        rcases ha with rfl | rfl | rfl | rfl <;> rcases q with q | q | q | q <;> omega
      · simp only [List.mem_cons, List.not_mem_nil, or_false] at ha
        rcases ha with rfl | rfl | rfl | rfl <;> simp only <;> omega
      · simp only; omega
    have hp11 := q11.trans hp12
    have pm : H10 <+: H12.set H10.length (.fdict []) := pre_set hp11 (Nat.le_refl _) _
    have p9 := hp10.trans pm
    have p6m := p69.trans p9
    refine wFor_idx (fun i ρ H => I10 ⟨w, x, d, iw, x2, d2, iw2, old, dd, H10.length, mv2, st, W, firstC W, l⟩ m i ρ H) ?_ (fun i v ρ H hv hI => ⟨?_, fun k' h1 h2 => ?_⟩) fun ρ H hI => ⟨?_, ?_⟩
    · refine ⟨[], mv, due, W, firstC W, pre_get hp12 hh11, Nat.le_refl _, ⟨I6.pre p6m, W6.pre p6m, w6.pre p6m, M6.pre p6m, hdue.pre (hp8.trans (hp9.trans p9))⟩, ⟨J6.pre p6m, V6.pre p6m, hO.wh.pre p9, N6.pre p6m, hst.pre (hp9.trans p9), ?_, fun v q => by cases q⟩, ok, hWl, GM.first W, ⟨?_, ?_, ?_, ?_, ?_, ?_, ?_, ?_⟩⟩
      · show LI (H12.set H10.length (.fdict [])) dd l
        unfold LI; rw [get_set_ne (by omega)]; exact hL
      all_goals first | rfl | ((repeat (first | dsimp only [XI, XJ] | dsimp only [ZA,ZB,ZC,ZD,ZE,ZF,ZG,ZH,ZI,ZJ,ZK,ZL,ZM,ZN,ZO,ZP,ZQ,ZR,ZS,ZT,ZU,ZV,ZW,ZX,ZY,ZZ,Za,Zb,Zc,Zd,Ze,Zf,Zg,Zh,Zi,Zj,Zk,Zl,Zm,Zn,Zo,Zp,Zq,Zr,Zs,Zt,Zu,Zv,Zw,Zx,Zy,Zz,YA,YB,YC,YD,YE,YF,YG,YH,YI,YJ,YK,YL,YM,YN,YO,YP,YQ,YR,Env.set,cond_true,cond_false,String.reduceBEq,YS,YT,YU,YV,YW,YX,YY,YZ,Ya,Yb,Yc,Yd,Ye,Yf] | simp only [Yg,Yh,true_and,Yi,Yj,Yk,Yl,Ym,Yn,Yo,Yp,Yq,Yr,Yt,Yu,Yv,Yw,Yx,Yy,Yz,XA,XB,XC,XD,XE,beq_self_eq_true,reduceIte,reduceCtorEq,↓reduceIte,XF,XG,XH, e2])))
    · rw [show H[dd]? = _ from hI.deeds]; exact hL.symm
    · rw [List.getElem?_map] at hv
      obtain ⟨cell, hc, rfl⟩ := Option.map_eq_some_iff.mp hv
      have := (List.getElem?_eq_some_iff.mp hc).1
      exact w_deed cok m1 m6 (by omega) (hI.set (by decide) _) rfl fun ρ' H' q => h1 _ _ q
    · rw [show H[dd]? = _ from hI.deeds]; exact hL.symm
    · refine hn _ _ ?_
      exact w_tail cok (by rw [List.length_map]; omega) hI fun ρ' H' => rfl
  (repeat (first | dsimp only [XI, XJ] | dsimp only [ZA,ZB,ZC,ZD,ZE,ZF,ZG,ZH,ZI,ZJ,ZK,ZL,ZM,ZN,ZO,ZP,ZQ,ZR,ZS,ZT,ZU,ZV,ZW,ZX,ZY,ZZ,Za,Zb,Zc,Zd,Ze,Zf,Zg,Zh,Zi,Zj,Zk,Zl,Zm,Zn,Zo,Zp,Zq,Zr,Zs,Zt,Zu,Zv,Zw,Zx,Zy,Zz,YA,YB,YC,YD,YE,YF,YG,YH,YI,YJ,YK,YL,YM,YN,YO,YP,YQ,YR,Env.set,cond_true,cond_false,String.reduceBEq,YS,YT,YU,YV,YW,YX,YY,YZ,Ya,Yb,Yc,Yd,Ye,Yf] | simp only [Yg,Yh,true_and,Yi,Yj,Yk,Yl,Ym,Yn,Yo,Yp,Yq,Yr,Yt,Yu,Yv,Yw,Yx,Yy,Yz,XA,XB,XC,XD,XE,beq_self_eq_true,reduceIte,reduceCtorEq,↓reduceIte,XF,XG,XH]))
  refine ⟨fun q => ?_, fun q => ?_⟩
  · refine s_cell_at (k := 0) rfl (hq p0) ?_
    (repeat (first | dsimp only [XI, XJ] | dsimp only [ZA,ZB,ZC,ZD,ZE,ZF,ZG,ZH,ZI,ZJ,ZK,ZL,ZM,ZN,ZO,ZP,ZQ,ZR,ZS,ZT,ZU,ZV,ZW,ZX,ZY,ZZ,Za,Zb,Zc,Zd,Ze,Zf,Zg,Zh,Zi,Zj,Zk,Zl,Zm,Zn,Zo,Zp,Zq,Zr,Zs,Zt,Zu,Zv,Zw,Zx,Zy,Zz,YA,YB,YC,YD,YE,YF,YG,YH,YI,YJ,YK,YL,YM,YN,YO,YP,YQ,YR,Env.set,cond_true,cond_false,String.reduceBEq,YS,YT,YU,YV,YW,YX,YY,YZ,Ya,Yb,Yc,Yd,Ye,Yf] | simp only [Yg,Yh,true_and,Yi,Yj,Yk,Yl,Ym,Yn,Yo,Yp,Yq,Yr,Yt,Yu,Yv,Yw,Yx,Yy,Yz,XA,XB,XC,XD,XE,beq_self_eq_true,reduceIte,reduceCtorEq,↓reduceIte,XF,XG,XH, z3, z6']))
    refine ⟨fun q2 => ?_, fun q2 => ?_⟩
    · exact rest _ 4 (by omega) (by omega) rfl rfl
    · exact rest _ (m + 1) (by omega) (by omega) rfl rfl
  · exact rest _ (m + 1) (by omega) (by omega) rfl rfl
end Mine

open PySem PySem.W PyProof.Rows
namespace Mine
noncomputable def fs10 : Tab := ⟨["is_guest", "is_row", "need_wishes", "need_guest", "both_wish", "sooner", "found_restless", "settled", "all_twos", "all_calm", "first_calm", "stay", "_law_cell_at", "_law_row_by", "_law_wishes_by", "_law_whole", "_law_suits", "_law_rather", "_law_restless", "_law_mates", "_law_first", "_law_refused", "_law_held", "_law_deeds", "law"], ["BadWishes", "BadGuest"], [], [("Inn", "__init__"), ("Inn", "turn"), ("Inn", "twos"), ("Inn", "table")]⟩
end Mine

set_option maxRecDepth 100000 in
set_option maxHeartbeats 8000000 in
theorem PySem.Challenge.cw_uf030033_10_holds : PySem.Challenge.rw_uf030033_10.Holds := by
  w_on
  refine holds_law (by decide +kernel) fun said => ?_
  o_head Hook.none
  case hw => w_witness2
  intro w s₀ s₁ mg mb G Y fa o pm cd doc dV kV ho hd hcd hD hmg hg args vals as hpre hlay hrd hwl hlo
  refine Ground.open G ?_
  intro T B D TE TW
  clear hd hcd hD
  wrow_args hpre hlay hrd hwl hlo
  refine wpAny_mono (Mine.law_call (fs := Mine.fs10) (P := Mine.prog10) T hmg (by assumption) (by assumption) (by omega) (by decide +kernel) (by decide +kernel) (fun x v h => ?_) (by decide) (fun c hc => ?_) (fun _ h => nomatch h) (Mine.inn_of_top TE.topC (by decide +kernel)) (Mine.meths_of_top TE.topC (by decide +kernel)) fun is _ => Mine.main10 is) (fun v s' q => ?_) fun _ _ e => e
  · unfold Mine.prog10 at h
    dsimp only at h
    split at h
    · cases h; exact Mine.glob_int T (by kernel_rfl)
    · cases h
  · simp only [Mine.fs10, List.mem_cons, List.not_mem_nil, or_false] at hc
    rcases hc with rfl | rfl
    · kernel_rfl
    · kernel_rfl
  · obtain ⟨rfl, k1, k2, k3⟩ := q
    refine GoodW.toG ⟨.inl ⟨.bool true, .bool true, [], rfl, raisesW_false ?_, .bool true, ?_, unshared_nil⟩, k1, k2, k3.trans hg⟩
    · wrow_none_raised
    · wrow_post


