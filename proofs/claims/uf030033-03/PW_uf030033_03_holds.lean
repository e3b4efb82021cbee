import PyProof.Rows.All
import PyProof.P3Statements
import PyProof.StrCalls2
import PyProof.Cells
import PyProof.Ns1
import PyProof.DictStraight
import PyProof.Rules3
import PyProof.ListOps
import PyProof.SliceList
import PyProof.SliceMore
import PyProof.PureInt
import PyProof.NoPylong
import PyProof.Rows.RuleB_floordiv
import PyProof.Rows.RuleB_mod
import PyProof.Rows.ListMul
import PyProof.IsiPairs
import PyProof.IsiHeapPairs
import PyProof.IsiNone
import PyProof.Methods
import PyProof.LetGo
import PyProof.ListIndexNeg
import PyProof.Rows.Tup
import PyProof.Rows.TupSub
import PyProof.Rows.StrRules
import PyProof.EqLayable
import PyProof.P3In
import PyProof.Rows.InDataRows
import PyProof.ListCopy
import PyProof.TupleOfSeq
import PyProof.TupleCall
import PyProof.WalkInts
import PyProof.CompFree
import PyProof.CallRoads
import PyProof.CallType
import PyProof.DefCall
import PyProof.SliceSyntax
import PyProof.WalksMore
import PyProof.ForRange
import PyProof.Rows.OwnQ
import PyProof.Rows.PlainObj
import PyProof.EqKinds
import PyProof.NeKinds
import PyProof.FactsAll.list_2
import PyProof.ListRange
import PyProof.Conv_int_bool
import PyProof.Rows.Range3
import PyProof.StrBlockH
import PyProof.CallStr
import PyProof.Conv_int
import PyProof.Rows.StrItems
import KE.IntTextText
import PyProof.FactsAll.str_5
import PyProof.DictRoads
import PyProof.Rows.DictMade
import PyProof.SeqI3
import PyProof.ConsumeWalk
import PyProof.RangeFor
import PyProof.TupleIter
import PyProof.PlainList
import PyProof.CompUse
import PyProof.Rows.Chain
import PyProof.Rows.Nodes
import PyProof.RulesRaise
import KE.FramesApart
import PyProof.PassesOwn
import PyProof.Rows.CatchBare
import PyProof.ExcBaseAll.ValueError
import PyProof.RulesTry
import PyProof.ExcAttrAll.ValueError
import PyProof.IsiTuple
import PyProof.Rows.CatchOwn
import PyProof.Rows.Top
import PyProof.Rows.TopObj
import Wide.All
import Open.Line
import Wide.FinOn
import PySem.Challenge.RW_uf030033_03
set_option Elab.async false
set_option linter.all false
set_option bootstrap.genMatcherCode false
namespace Mine
open PySem

inductive V where
  | none | bool (b : Bool) | int (i : Int) | str (s : Str) | ref (a : Nat)
  deriving DecidableEq, Inhabited

inductive O where
  | list (xs : List V) | frozen (xs : List V) | tuple (xs : List V)
  | dict (es : List (Int × V)) | inst (c : String) (d : Nat) | fdict (fs : List (String × V)) | exc (c : String)
  deriving Inhabited

noncomputable abbrev Hp := List O
noncomputable abbrev Env := String → Option V
noncomputable def Env.set (ρ : Env) (x : String) (v : V) : Env := fun y => bif y == x then some v else ρ y
set_option genSizeOf false
set_option genInjectivity false
inductive Cmp where
  | eq | ne | lt | le | gt | ge | is_ | isNot | in_ | notIn
inductive Bin where
  | add | sub | mul | mod | fdiv
inductive Prim where
  | bin (o : Bin) | neg | cmp (o : Cmp)
  | len | isinst (ts : List String) | list | tuple | str | int | min1 | min2 | max2 | any | all | sum
  | item | slice (lo hi : Bool) | rev
  | mkList | mkTuple | mkDict
  | append | pop | index | join | split | startswith
  | attr (n : String) | listRange

inductive Tgt where
  | one (x : String) | two (x y : String)

inductive E where
  | none | bool (b : Bool) | int (i : Int) | str (s : String)
  | var (x : String) | glob (x : String)
  | op (p : Prim) (args : List E)
  | mcall (p : Prim) (o : E) (args : List E)
  | and_ (es : List E) | or_ (es : List E) | not_ (e : E)
  | ife (c a b : E)
  | chain (a : E) (o : Cmp) (b : E) (o' : Cmp) (c : E)
  | call (f : String) (args : List E)
  | meth (m : String) (o : E) (args : List E)
  | new (c : String) (args : List E)
  | newX (c : String) (args : List E)
  | compR (elt : E) (x : String) (args : List E) (conds : List E)
  | compS (elt : E) (x : Tgt) (src : E) (conds : List E)

mutual
inductive S where
  | assign (x : String) (e : E)
  | setItem (o i v : E)
  | setAttr (o : E) (n : String) (v : E)
  | expr (e : E)
  | ret (e : E)
  | retN
  | ite (c : E) (a b : List S)
  | forR (x : String) (args : List E) (body : List S)
  | forS (x : String) (src : E) (body : List S)
  | while_ (c : E) (body : List S)
  | raise (c : String) (msg : String)
  | try_ (body : List S) (hs : List Hd)
  | stuck
  | based (f : String) (args : List String) (kd : String)
inductive Hd where
  | mk (c : String) (as : Option String) (body : List S)
  | nx (c : String) (body : List S)
end

set_option genSizeOf true
set_option genInjectivity true
structure Fn where
  params : List String
  body : List S

structure Tab where
  fns : List String
  excs : List String
  cls : List String
  meths : List (String × String)


noncomputable def lim : Nat := 100000

noncomputable def seqOf (H : Hp) (a : Nat) : Option (List V) := match H[a]? with
  | some (.list xs) | some (.frozen xs) | some (.tuple xs) => some xs
  | _ => none

noncomputable def listOf? (H : Hp) (a : Nat) : Option (List V) := match H[a]? with
  | some (.list xs) => some xs
  | _ => none

theorem listOf_some {H : Hp} {a : Nat} {xs : List V} (h : listOf? H a = some xs) : H[a]? = some (.list xs) := by
  unfold listOf? at h
  split at h
  · rename_i e; cases h; exact e
  · cases h
theorem listOf_eq {H : Hp} {a : Nat} {xs : List V} (h : H[a]? = some (.list xs)) : listOf? H a = some xs := by unfold listOf?; rw [h]

noncomputable def readD : Nat → Hp → V → Option PyData
  | _, _, .none => some .none
  | _, _, .bool b => some (.bool b)
  | _, _, .int i => some (.int i)
  | _, _, .str s => some (.str s)
  | 0, _, .ref _ => none
  | n + 1, H, .ref a => match H[a]? with
    | some (.list xs) => (xs.mapM (readD n H)).map .list
    | some (.frozen xs) => (xs.mapM (readD n H)).map .list
    | some (.tuple xs) => (xs.mapM (readD n H)).map .tuple
    | _ => none

noncomputable def asInt : V → Option Int
  | .int i => some i
  | _ => none
noncomputable def asBool : V → Option Bool
  | .bool b => some b
  | _ => none
noncomputable def eqD (H : Hp) (a b : V) : Option Bool := match readD 8 H a, readD 8 H b with
  | some x, some y => if x.canLay0 && y.canLay0 then some (PyData.eqv x y) else none
  | _, _ => none

noncomputable def inD (H : Hp) (x : V) (xs : List V) : Option Bool := match readD 8 H x, xs.mapM (readD 8 H) with
  | some d, some ds => if d.canLay0 && PyData.canLayAll0 ds then some (ds.any fun y => PyData.eqv y d) else none
  | _, _ => none

noncomputable def memO (H : Hp) (x : V) : O → Option Bool
  | .list xs => inD H x xs
  | .frozen xs => inD H x xs
  | .tuple xs => inD H x xs
  | .dict es => match x with
    | .int k => some (es.any fun e => e.1 == k)
    | _ => none
  | _ => none
noncomputable def mem (H : Hp) (x c : V) : Option Bool := match c with
  | .ref a => H[a]?.bind (memO H x)
  | _ => none
theorem mem_ref {H : Hp} {x : V} {a : Nat} {o : O} (h : H[a]? = some o) : mem H x (.ref a) = memO H x o := by
  show H[a]?.bind (memO H x) = _
  rw [h]; rfl

noncomputable def lessV (H : Hp) (a b : V) : Option Bool := match a, b with
  | .int i, .int j => some (decide (i < j))
  | _, _ => none

noncomputable def isSame (a b : V) : Option Bool := match b with
  | .none => some (decide (a = .none))
  | .bool true => some (decide (a = .bool true))
  | _ => none

noncomputable def cmpV (o : Cmp) (a b : V) (H : Hp) : Option Bool := match o with
  | .eq => eqD H a b
  | .ne => (eqD H a b).map (!·)
  | .lt => lessV H a b
  | .le => match a, b with | .int i, .int j => some (decide (i ≤ j)) | _, _ => none
  | .gt => match a, b with | .int i, .int j => some (decide (j < i)) | _, _ => none
  | .ge => match a, b with | .int i, .int j => some (decide (j ≤ i)) | _, _ => none
  | .is_ => isSame a b
  | .isNot => (isSame a b).map (!·)
  | .in_ => mem H a b
  | .notIn => (mem H a b).map (!·)

noncomputable def putNew (H : Hp) (o : O) : Option (V × Hp) := some (.ref H.length, H ++ [o])

noncomputable def addV (a b : V) (H : Hp) : Option (V × Hp) := match a, b with
  | .int i, .int j => some (.int (i + j), H)
  | .str x, .str y => if x.cps.size + y.cps.size ≤ lim then some (.str (x ++ y), H) else none
  | .ref a, .ref b => (listOf? H a).bind fun xs => (listOf? H b).bind fun ys => if xs.length + ys.length ≤ lim then putNew H (.list (xs ++ ys)) else none
  | _, _ => none

noncomputable def mulV (a b : V) (H : Hp) : Option (V × Hp) := match a, b with
  | .int i, .int j => if i.natAbs < 2 ^ 30 && j.natAbs < 2 ^ 30 then some (.int (i * j), H) else none
  | .ref a, .int n => (listOf? H a).bind fun xs => match xs with
    | [x] => if n.natAbs ≤ lim then putNew H (.list (List.replicate n.toNat x)) else none
    | _ => none
  | _, _ => none

noncomputable def binV (o : Bin) (a b : V) (H : Hp) : Option (V × Hp) := match o with
  | .add => addV a b H
  | .sub => match a, b with | .int i, .int j => some (.int (i - j), H) | _, _ => none
  | .mul => mulV a b H
  | .mod => match a, b with | .int i, .int j => if j = 0 then none else some (.int (i.fmod j), H) | _, _ => none
  | .fdiv => match a, b with | .int i, .int j => if j = 0 ∨ 2 ^ 30 ≤ j.natAbs then none else some (.int (i.fdiv j), H) | _, _ => none

noncomputable def lenV (v : V) (H : Hp) : Option Int := match v with
  | .str s => if s.cps.size ≤ lim then some s.cps.size else none
  | .ref a => (seqOf H a).map fun xs => (xs.length : Int)
  | _ => none

noncomputable def supers : String → List String
  | "BadWishes" => ["BadWishes", "BedError", "ValueError"]
  | "BadGuest" => ["BadGuest", "BedError", "ValueError"]
  | "BadMates" => ["BadMates", "BedError", "ValueError"]
  | "BadParties" => ["BadParties", "BedError", "ValueError"]
  | "NoNote" => ["NoNote", "BedError", "ValueError"]
  | _ => []

noncomputable def typesOf (v : V) (H : Hp) : List String := match v with
  | .none => []
  | .bool _ => ["bool", "int"]
  | .int _ => ["int"]
  | .str _ => ["str"]
  | .ref a => match H[a]? with
    | some (.list _) | some (.frozen _) => ["list"]
    | some (.tuple _) => ["tuple"]
    | some (.exc c) => supers c
    | _ => []

noncomputable def isObj (v : V) (H : Hp) : Bool := match v with
  | .ref a => (match H[a]? with | some (.inst _ _) => true | some (.fdict _) => true | _ => false)
  | _ => false
noncomputable def isInst (v : V) (ts : List String) (H : Hp) : Option Bool := if isObj v H = true then none else some (ts.any fun t => (typesOf v H).contains t)

noncomputable def normIdx (i : Int) (n : Nat) : Option Nat :=
  let j := if i < 0 then i + n else i
  if 0 ≤ j ∧ j < n then some j.toNat else none

noncomputable def itemV (v i : V) (H : Hp) : Option V := match i with
  | .int i => match v with
    | .ref a => (seqOf H a).bind fun xs => (normIdx i xs.length).bind fun k => xs[k]?
    | _ => none
  | _ => none

noncomputable def clampIdx (n : Nat) (i : Int) : Nat := (max 0 (min (if i < 0 then i + n else i) n)).toNat

noncomputable def cut {α : Type} (xs : List α) (lo hi : Option Int) : List α :=
  (xs.drop (lo.elim 0 (clampIdx xs.length))).take (hi.elim xs.length (clampIdx xs.length) - lo.elim 0 (clampIdx xs.length))

noncomputable def lsOf : O → Option (List V)
  | .list xs => some xs
  | .frozen xs => some xs
  | _ => none
noncomputable def sliceV (v : V) (lo hi : Option Int) (H : Hp) : Option (V × Hp) := match v with
  | .ref a => (H[a]?.bind lsOf).bind fun xs => putNew H (.list (cut xs lo hi))
  | _ => none

noncomputable def rangeI (a b c : Int) : List Int := (List.range (if a < b then (b - a - 1) / c + 1 else 0).toNat).map fun k : Nat => a + (k : Int) * c

noncomputable def rangeOf (vs : List V) : Option (List Int) := match vs with
  | [.int b] => if b.natAbs ≤ lim then some (rangeI 0 b 1) else none
  | [.int a, .int b] => if 0 ≤ a ∧ a.natAbs ≤ lim ∧ b.natAbs ≤ lim then some (rangeI a b 1) else none
  | [.int a, .int b, .int c] => if 0 ≤ a ∧ a.natAbs ≤ lim ∧ b.natAbs ≤ lim ∧ 0 < c ∧ c.natAbs ≤ lim then some (rangeI a b c) else none
  | _ => none

noncomputable def setAtV (xs : List V) (i : Int) (v : V) : Option (List V) := if 0 ≤ i ∧ i < xs.length then some (xs.set i.toNat v) else none

noncomputable def dictPut (es : List (Int × V)) (k : Int) (v : V) : List (Int × V) :=
  if es.any (fun e => e.1 == k) then es.map fun e => if e.1 == k then (k, v) else e else es ++ [(k, v)]

noncomputable def setV (o i v : V) (H : Hp) : Option Hp := match o, i with
  | .ref a, .int i => match H[a]? with
    | some (.list xs) => (setAtV xs i v).map fun ys => H.set a (.list ys)
    | some (.dict es) => if es.length < lim then some (H.set a (.dict (dictPut es i v))) else none
    | _ => none
  | _, _ => none

noncomputable def appendV (vs : List V) (H : Hp) : Option (V × Hp) := match vs with
  | [.ref a, v] => (listOf? H a).bind fun xs => if xs.length < lim then some (.none, H.set a (.list (xs ++ [v]))) else none
  | _ => none
noncomputable def popV (vs : List V) (H : Hp) : Option (V × Hp) := match vs with
  | [.ref a, .int i] => (listOf? H a).bind fun xs => (normIdx i xs.length).bind fun k => xs[k]?.map fun v => (v, H.set a (.list (xs.eraseIdx k)))
  | _ => none
noncomputable def indexV (vs : List V) (H : Hp) : Option (V × Hp) := match vs with
  | [.ref a, .int k] => (listOf? H a).bind fun xs => (xs.mapM asInt).bind fun is => if k ∈ is then some (.int (is.idxOf k : Nat), H) else none
  | _ => none


noncomputable def methV (p : Prim) (vs : List V) (H : Hp) : Option (V × Hp) := match p with
  | .append => appendV vs H
  | .pop => popV vs H
  | .index => indexV vs H
  | _ => none

noncomputable def attrV (n : String) (v : V) (H : Hp) : Option V := match v with
  | .ref a => match H[a]? with
    | some (.inst _ d) => (match H[d]? with
      | some (.fdict fs) => fs.lookup n
      | _ => none)
    | _ => none
  | _ => none

noncomputable def strV (v : V) : Option V := match v with
  | .int i => if i.natAbs < 1000 then some (.str (Str.ofString (toString i))) else none
  | _ => none

noncomputable def intV (v : V) : Option V := match v with
  | .bool b => some (.int (if b then 1 else 0))
  | _ => none

noncomputable def minL : List Int → Option Int
  | [] => none
  | a :: r => some (r.foldl (fun x y => if y < x then y else x) a)

noncomputable def on1 {α : Type} (vs : List V) (g : V → Option α) : Option α := match vs with
  | [v] => g v
  | _ => none
noncomputable def on1r {α : Type} (vs : List V) (g : Nat → Option α) : Option α := match vs with
  | [.ref a] => g a
  | _ => none
noncomputable def prim (p : Prim) (vs : List V) (H : Hp) : Option (V × Hp) := match p with
  | .bin o => match vs with | [a, b] => binV o a b H | _ => none
  | .neg => match vs with | [.int i] => some (.int (-i), H) | _ => none
  | .cmp o => match vs with | [a, b] => (cmpV o a b H).map fun b => (.bool b, H) | _ => none
  | .len => on1 vs fun v => (lenV v H).map fun n => (.int n, H)
  | .isinst ts => on1 vs fun v => (isInst v ts H).map fun b => (.bool b, H)
  | .list => on1r vs fun a => (seqOf H a).bind fun xs => putNew H (.list xs)
  | .tuple => on1r vs fun a => (listOf? H a).bind fun xs => putNew H (.tuple xs)
  | .str => on1 vs fun v => (strV v).map fun x => (x, H)
  | .int => on1 vs fun v => (intV v).map fun x => (x, H)
  | .min1 => on1r vs fun a => (listOf? H a).bind fun xs => (xs.mapM asInt).bind fun is => (minL is).map fun i => (.int i, H)
  | .min2 => match vs with | [.int i, .int j] => some (.int (if j < i then j else i), H) | _ => none
  | .max2 => match vs with | [.int i, .int j] => some (.int (if i < j then j else i), H) | _ => none
  | .any => on1r vs fun a => (listOf? H a).bind fun xs => (xs.mapM asBool).map fun bs => (.bool (bs.any id), H)
  | .all => on1r vs fun a => (listOf? H a).bind fun xs => (xs.mapM asBool).map fun bs => (.bool (bs.all id), H)
  | .sum => on1r vs fun a => (listOf? H a).bind fun xs => (xs.mapM asInt).bind fun is => if is.all (fun i => decide (i.natAbs ≤ lim)) then some (.int is.sum, H) else none
  | .item => match vs with | [v, i] => (itemV v i H).map fun x => (x, H) | _ => none
  | .slice lo hi => match lo, hi, vs with
    | false, false, [v] => sliceV v none none H
    | true, false, [v, .int i] => sliceV v (some i) none H
    | false, true, [v, .int j] => sliceV v none (some j) H
    | true, true, [v, .int i, .int j] => sliceV v (some i) (some j) H
    | _, _, _ => none
  | .rev => on1r vs fun a => (listOf? H a).bind fun xs => putNew H (.list xs.reverse)
  | .mkList => if vs.length ≤ lim then putNew H (.list vs) else none
  | .mkTuple => if vs.length ≤ lim then putNew H (.tuple vs) else none
  | .mkDict => match vs with | [] => putNew H (.dict []) | _ => none
  | .attr n => on1 vs fun v => (attrV n v H).map fun x => (x, H)
  | .listRange => (rangeOf vs).bind fun is => if is.length ≤ lim then putNew H (.list (is.map .int)) else none
  | .append => methV .append vs H
  | .pop => methV .pop vs H
  | .index => methV .index vs H
  | .join => methV .join vs H
  | .split => methV .split vs H
  | .startswith => methV .startswith vs H

noncomputable def oE {α : Type} (o : Option α) (f : α → Prop) : Prop := match o with
  | some a => f a
  | none => False
theorem oE_some {α : Type} {a : α} {f : α → Prop} : oE (some a) f = f a := rfl
theorem oE_ex {α : Type} {o : Option α} {f : α → Prop} (h : oE o f) : ∃ a, o = some a ∧ f a := match o, h with
  | some a, h => ⟨a, rfl, h⟩
noncomputable def kS (r : Option V) (a : Prop) (b : V → Prop) : Prop := match r with
  | none => a
  | some v => b v
theorem kS_none {a : Prop} {b : V → Prop} : kS none a b = a := rfl
theorem kS_some {v : V} {a : Prop} {b : V → Prop} : kS (some v) a b = b v := rfl
noncomputable def oSeq (v : V) (H : Hp) : Option (Nat × List V) := match v with
  | .ref a => (seqOf H a).map fun xs => (a, xs)
  | _ => none
theorem os_ref {a : Nat} {H : Hp} : oSeq (.ref a) H = (seqOf H a).map fun xs => (a, xs) := rfl
noncomputable def oInst (v : V) (H : Hp) : Option (Nat × String) := match v with
  | .ref a => H[a]?.bind fun o => match o with
    | .inst c d => H[d]?.bind fun o' => match o' with
      | .fdict _ => some (a, c)
      | _ => none
    | _ => none
  | _ => none


noncomputable abbrev Post := V → Hp → Prop
noncomputable abbrev XP := String → Hp → Prop
noncomputable abbrev SPost := Option V → Env → Hp → Prop
noncomputable abbrev SXP := XP

noncomputable def noX : XP := fun _ _ => False

structure Ctx where
  ok : Bool
  call : String → List V → Hp → Post → XP → Prop
  glob : String → Option V

noncomputable def wP (p : Prim) (vs : List V) (H : Hp) (Q : Post) : Prop := oE (prim p vs H) fun r => Q r.1 r.2

noncomputable def recvOk (p : Prim) (v : V) (H : Hp) : Bool := match p with
  | .append | .pop | .index => (match v with
    | .ref a => (match H[a]? with | some (.list _) => true | _ => false)
    | _ => false)
  | .join | .split | .startswith => (match v with | .str _ => true | _ => false)
  | _ => false

noncomputable def wB (v : V) (k : Bool → Prop) : Prop := match v with
  | .bool b => k b
  | _ => False

noncomputable def wIf (b : Bool) (p q : Prop) : Prop := (b = true → p) ∧ (b = false → q)

noncomputable def wLoop (G : Hp → Prop) (step : V → Hp → (Option V → Hp → Prop) → Prop) : List V → List V → Hp → (List V → Hp → Prop) → Prop
  | [], acc, H, k => G H ∧ k acc H
  | v :: vs, acc, H, k => G H ∧ step v H (fun o H' => wLoop G step vs (o.elim acc fun u => acc ++ [u]) H' k)

noncomputable def wFor (G : Hp → Prop) (step : V → Env → Hp → SPost → Prop) : List V → Env → Hp → SPost → Prop
  | [], ρ, H, k => G H ∧ k none ρ H
  | v :: vs, ρ, H, k => G H ∧ step v ρ H (fun r ρ' H' => kS r (wFor G step vs ρ' H' k) fun v => k (some v) ρ' H')

noncomputable def wWhile (test : Env → Hp → (Bool → Hp → Prop) → Prop) (body : Env → Hp → SPost → Prop) : Nat → Env → Hp → SPost → Prop
  | 0, _, _, _ => False
  | n + 1, ρ, H, k => test ρ H fun b H1 => wIf b (body ρ H1 fun r ρ' H' => kS r (wWhile test body n ρ' H' k) fun v => k (some v) ρ' H') (k none ρ H1)

noncomputable def bindT (t : Tgt) (v : V) (ρ : Env) (H : Hp) : Option Env := match t with
  | .one x => some (ρ.set x v)
  | .two x y => match v with
    | .ref a => (match H[a]? with
      | some (.tuple [u, w]) => some ((ρ.set x u).set y w)
      | _ => none)
    | _ => none

mutual
noncomputable def wE (C : Ctx) : E → Env → Hp → Post → XP → Prop
  | .none, _, H, Q, _ => Q .none H
  | .bool b, _, H, Q, _ => Q (.bool b) H
  | .int i, _, H, Q, _ => Q (.int i) H
  | .str s, _, H, Q, _ => Q (.str (Str.ofString s)) H
  | .var x, ρ, H, Q, _ => oE (ρ x) fun v => Q v H
  | .glob x, _, H, Q, _ => oE (C.glob x) fun v => Q v H
  | .op p args, ρ, H, Q, X => wEs C args ρ H (fun vs H1 => wP p vs H1 Q) X
  | .mcall p o args, ρ, H, Q, X => wE C o ρ H (fun v H1 => recvOk p v H1 = true ∧ wEs C args ρ H1 (fun vs H2 => wP p (v :: vs) H2 Q) X) X
  | .and_ es, ρ, H, Q, X => wAnd C es ρ H (fun b H1 => Q (.bool b) H1) X
  | .or_ es, ρ, H, Q, X => wOr C es ρ H (fun b H1 => Q (.bool b) H1) X
  | .not_ e, ρ, H, Q, X => wE C e ρ H (fun v H1 => wB v fun b => Q (.bool (!b)) H1) X
  | .ife c a b, ρ, H, Q, X => wE C c ρ H (fun v H1 => wB v fun t => wIf t (wE C a ρ H1 Q X) (wE C b ρ H1 Q X)) X
  | .chain a o b o' c, ρ, H, Q, X => wE C a ρ H (fun va H1 => wE C b ρ H1 (fun vb H2 => wP (.cmp o) [va, vb] H2 fun r H3 => wB r fun t => wIf t
      (wE C c ρ H3 (fun vc H4 => wP (.cmp o') [vb, vc] H4 Q) X)
      (Q (.bool false) H3)) X) X
  | .call f args, ρ, H, Q, X => wEs C args ρ H (fun vs H1 => C.call f vs H1 Q X) X
  | .meth m o args, ρ, H, Q, X => wE C o ρ H (fun v H1 => oE (oInst v H1) fun p => wEs C args ρ H1 (fun vs H2 => C.call (p.2 ++ "." ++ m) (.ref p.1 :: vs) H2 Q X) X) X
  | .new c args, ρ, H, Q, X => wEs C args ρ H (fun vs H1 => C.call (c ++ "." ++ "__init__") (.ref (H1.length + 1) :: vs) (H1 ++ [.fdict [], .inst c H1.length]) (fun r H2 => r = .none ∧ Q (.ref (H1.length + 1)) H2) X) X
  | .newX c args, ρ, H, _, X => wEs C args ρ H (fun vs H1 => C.call (c ++ ".__init__") vs H1 (fun _ _ => False) X) X
  | .compR elt x args conds, ρ, H, Q, X => wEs C args ρ H (fun vs H1 => oE (rangeOf vs) fun is => wLoop (fun _ => True) (fun v H2 k => wAnd C conds (ρ.set x v) H2 (fun b H3 => wIf b
          (wE C elt (ρ.set x v) H3 (fun u H4 => k (some u) H4) noX)
          (k none H3)) noX) (is.map .int) [] H1 (fun acc H5 => Q (.ref H5.length) (H5 ++ [.list acc]))) X
  | .compS elt t src conds, ρ, H, Q, X => wE C src ρ H (fun vs H1 => oE (oSeq vs H1) fun p => wLoop (fun H' => H'[p.1]? = H1[p.1]?) (fun v H2 k => oE (bindT t v ρ H2) fun ρ' => wAnd C conds ρ' H2 (fun b H3 => wIf b
              (wE C elt ρ' H3 (fun u H4 => k (some u) H4) noX)
              (k none H3)) noX) p.2 [] H1 (fun acc H5 => Q (.ref H5.length) (H5 ++ [.list acc]))) X
noncomputable def wEs (C : Ctx) : List E → Env → Hp → (List V → Hp → Prop) → XP → Prop
  | [], _, H, Q, _ => Q [] H
  | e :: es, ρ, H, Q, X => wE C e ρ H (fun v H1 => wEs C es ρ H1 (fun vs H2 => Q (v :: vs) H2) X) X
noncomputable def wAnd (C : Ctx) : List E → Env → Hp → (Bool → Hp → Prop) → XP → Prop
  | [], _, H, Q, _ => Q true H
  | e :: es, ρ, H, Q, X => wE C e ρ H (fun v H1 => wB v fun b => wIf b
      (wAnd C es ρ H1 Q X)
      (Q false H1)) X
noncomputable def wOr (C : Ctx) : List E → Env → Hp → (Bool → Hp → Prop) → XP → Prop
  | [], _, H, Q, _ => Q false H
  | e :: es, ρ, H, Q, X => wE C e ρ H (fun v H1 => wB v fun b => wIf b
      (Q true H1)
      (wOr C es ρ H1 Q X)) X
end

section
variable {C : Ctx} {ρ : Env} {H : Hp} {Q : Post} {X : XP}
theorem e_none : wE C .none ρ H Q X = Q .none H := rfl
theorem e_bool {b : Bool} : wE C (.bool b) ρ H Q X = Q (.bool b) H := rfl
theorem e_int {i : Int} : wE C (.int i) ρ H Q X = Q (.int i) H := rfl
theorem e_str {s : String} : wE C (.str s) ρ H Q X = Q (.str (Str.ofString s)) H := rfl
theorem e_var {x : String} : wE C (.var x) ρ H Q X = oE (ρ x) fun v => Q v H := rfl
theorem e_glob {x : String} : wE C (.glob x) ρ H Q X = oE (C.glob x) fun v => Q v H := rfl
theorem e_op {p : Prim} {args : List E} : wE C (.op p args) ρ H Q X = wEs C args ρ H (fun vs H1 => wP p vs H1 Q) X := rfl
theorem e_mcall {p : Prim} {o : E} {args : List E} : wE C (.mcall p o args) ρ H Q X = wE C o ρ H (fun v H1 => recvOk p v H1 = true ∧ wEs C args ρ H1 (fun vs H2 => wP p (v :: vs) H2 Q) X) X := rfl
theorem e_and {es : List E} : wE C (.and_ es) ρ H Q X = wAnd C es ρ H (fun b H1 => Q (.bool b) H1) X := rfl
theorem e_or {es : List E} : wE C (.or_ es) ρ H Q X = wOr C es ρ H (fun b H1 => Q (.bool b) H1) X := rfl
theorem e_not {e : E} : wE C (.not_ e) ρ H Q X = wE C e ρ H (fun v H1 => wB v fun b => Q (.bool (!b)) H1) X := rfl
theorem e_ife {c a b : E} : wE C (.ife c a b) ρ H Q X = wE C c ρ H (fun v H1 => wB v fun t => wIf t (wE C a ρ H1 Q X) (wE C b ρ H1 Q X)) X := rfl
theorem e_chain {a b c : E} {o o' : Cmp} : wE C (.chain a o b o' c) ρ H Q X = wE C a ρ H (fun va H1 => wE C b ρ H1 (fun vb H2 => wP (.cmp o) [va, vb] H2 fun r H3 => wB r fun t => wIf t
      (wE C c ρ H3 (fun vc H4 => wP (.cmp o') [vb, vc] H4 Q) X)
      (Q (.bool false) H3)) X) X := rfl
theorem e_call {f : String} {args : List E} : wE C (.call f args) ρ H Q X = wEs C args ρ H (fun vs H1 => C.call f vs H1 Q X) X := rfl
theorem e_newX {c : String} {args : List E} : wE C (.newX c args) ρ H Q X = wEs C args ρ H (fun vs H1 => C.call (c ++ ".__init__") vs H1 (fun _ _ => False) X) X := rfl
theorem e_new {c : String} {args : List E} : wE C (.new c args) ρ H Q X = wEs C args ρ H (fun vs H1 => C.call (c ++ "." ++ "__init__") (.ref (H1.length + 1) :: vs) (H1 ++ [.fdict [], .inst c H1.length]) (fun r H2 => r = .none ∧ Q (.ref (H1.length + 1)) H2) X) X := rfl
theorem e_meth {m : String} {o : E} {args : List E} : wE C (.meth m o args) ρ H Q X = wE C o ρ H (fun v H1 => oE (oInst v H1) fun p => wEs C args ρ H1 (fun vs H2 => C.call (p.2 ++ "." ++ m) (.ref p.1 :: vs) H2 Q X) X) X := rfl
theorem e_compR {elt : E} {x : String} {args conds : List E} : wE C (.compR elt x args conds) ρ H Q X = wEs C args ρ H (fun vs H1 => oE (rangeOf vs) fun is => wLoop (fun _ => True) (fun v H2 k => wAnd C conds (ρ.set x v) H2 (fun b H3 => wIf b
          (wE C elt (ρ.set x v) H3 (fun u H4 => k (some u) H4) noX)
          (k none H3)) noX) (is.map .int) [] H1 (fun acc H5 => Q (.ref H5.length) (H5 ++ [.list acc]))) X := rfl
theorem e_compS {elt : E} {t : Tgt} {src : E} {conds : List E} : wE C (.compS elt t src conds) ρ H Q X = wE C src ρ H (fun vs H1 => oE (oSeq vs H1) fun p => wLoop (fun H' => H'[p.1]? = H1[p.1]?) (fun v H2 k => oE (bindT t v ρ H2) fun ρ' => wAnd C conds ρ' H2 (fun b H3 => wIf b
              (wE C elt ρ' H3 (fun u H4 => k (some u) H4) noX)
              (k none H3)) noX) p.2 [] H1 (fun acc H5 => Q (.ref H5.length) (H5 ++ [.list acc]))) X := rfl
theorem es_nil {Q : List V → Hp → Prop} : wEs C [] ρ H Q X = Q [] H := rfl
theorem es_cons {e : E} {es : List E} {Q : List V → Hp → Prop} : wEs C (e :: es) ρ H Q X = wE C e ρ H (fun v H1 => wEs C es ρ H1 (fun vs H2 => Q (v :: vs) H2) X) X := rfl
theorem and_nil {Q : Bool → Hp → Prop} : wAnd C [] ρ H Q X = Q true H := rfl
theorem and_cons {e : E} {es : List E} {Q : Bool → Hp → Prop} : wAnd C (e :: es) ρ H Q X = wE C e ρ H (fun v H1 => wB v fun b => wIf b (wAnd C es ρ H1 Q X) (Q false H1)) X := rfl
theorem or_nil {Q : Bool → Hp → Prop} : wOr C [] ρ H Q X = Q false H := rfl
theorem or_cons {e : E} {es : List E} {Q : Bool → Hp → Prop} : wOr C (e :: es) ρ H Q X = wE C e ρ H (fun v H1 => wB v fun b => wIf b (Q true H1) (wOr C es ρ H1 Q X)) X := rfl
theorem b_bool {b : Bool} {k : Bool → Prop} : wB (.bool b) k = k b := rfl
theorem p_bin {o : Bin} {a b : V} : prim (.bin o) [a, b] H = binV o a b H := rfl
theorem p_negI {i : Int} : prim .neg [.int i] H = some (.int (-i), H) := rfl
theorem p_cmpP {o : Cmp} {a b : V} : prim (.cmp o) [a, b] H = (cmpV o a b H).map fun b => (.bool b, H) := rfl
theorem p_len {v : V} : prim .len [v] H = (lenV v H).map fun n => (.int n, H) := rfl
theorem p_inst {ts : List String} {v : V} : prim (.isinst ts) [v] H = (isInst v ts H).map fun b => (.bool b, H) := rfl
theorem p_listP {a : Nat} : prim .list [.ref a] H = (seqOf H a).bind fun xs => putNew H (.list xs) := rfl
theorem p_tupleP {a : Nat} : prim .tuple [.ref a] H = (listOf? H a).bind fun xs => putNew H (.tuple xs) := rfl
theorem p_intP {v : V} : prim .int [v] H = (intV v).map fun x => (x, H) := rfl
theorem p_itemP {v i : V} : prim .item [v, i] H = (itemV v i H).map fun x => (x, H) := rfl
theorem p_slTo {v : V} {j : Int} : prim (.slice false true) [v, .int j] H = sliceV v none (some j) H := rfl
theorem p_slFrom {v : V} {i : Int} : prim (.slice true false) [v, .int i] H = sliceV v (some i) none H := rfl
theorem p_mkL {vs : List V} : prim .mkList vs H = if vs.length ≤ lim then putNew H (.list vs) else none := rfl
theorem p_mkT {vs : List V} : prim .mkTuple vs H = if vs.length ≤ lim then putNew H (.tuple vs) else none := rfl
theorem p_mkD : prim .mkDict [] H = putNew H (.dict []) := rfl
theorem p_attrP {n : String} {v : V} : prim (.attr n) [v] H = (attrV n v H).map fun x => (x, H) := rfl
theorem p_lr {vs : List V} : prim .listRange vs H = (rangeOf vs).bind fun is => if is.length ≤ lim then putNew H (.list (is.map .int)) else none := rfl
theorem p_app {vs : List V} : prim .append vs H = methV .append vs H := rfl
theorem p_popP {vs : List V} : prim .pop vs H = methV .pop vs H := rfl
theorem p_idx {vs : List V} : prim .index vs H = methV .index vs H := rfl
theorem m_app {a : Nat} {v : V} : methV .append [.ref a, v] H = (listOf? H a).bind fun xs => if xs.length < lim then some (.none, H.set a (.list (xs ++ [v]))) else none := rfl
theorem m_pop {a : Nat} {i : Int} : methV .pop [.ref a, .int i] H = (listOf? H a).bind fun xs => (normIdx i xs.length).bind fun k => xs[k]?.map fun v => (v, H.set a (.list (xs.eraseIdx k))) := rfl
theorem m_idx {a : Nat} {k : Int} : methV .index [.ref a, .int k] H = (listOf? H a).bind fun xs => (xs.mapM asInt).bind fun is => if k ∈ is then some (.int (is.idxOf k : Nat), H) else none := rfl
theorem sl_ref {a : Nat} {lo hi : Option Int} {xs : List V} (h : H[a]? = some (.list xs)) : sliceV (.ref a) lo hi H = some (.ref H.length, H ++ [.list (cut xs lo hi)]) := by
  show (H[a]?.bind lsOf).bind _ = _
  rw [h]; rfl
theorem add_at {a b : Nat} {xs ys : List V} (h : H[a]? = some (.list xs)) (h' : H[b]? = some (.list ys)) (hl : xs.length + ys.length ≤ lim) : addV (.ref a) (.ref b) H = some (.ref H.length, H ++ [.list (xs ++ ys)]) := by
  show (listOf? H a).bind _ = _
  rw [listOf_eq h]
  show (listOf? H b).bind _ = _
  rw [listOf_eq h']
  exact if_pos hl
theorem mul_at {a : Nat} {x : V} {n : Nat} (h : H[a]? = some (.list [x])) (hl : n ≤ lim) : mulV (.ref a) (.int (n : Int)) H = some (.ref H.length, H ++ [.list (List.replicate n x)]) := by
  show (listOf? H a).bind _ = _
  rw [listOf_eq h]
  exact if_pos hl
theorem bin_add {a b : V} : binV .add a b H = addV a b H := rfl
theorem bin_sub {i j : Int} : binV .sub (.int i) (.int j) H = some (.int (i - j), H) := rfl
theorem bin_mul {a b : V} : binV .mul a b H = mulV a b H := rfl
theorem bin_mod {i j : Int} : binV .mod (.int i) (.int j) H = if j = 0 then none else some (.int (i.fmod j), H) := rfl
theorem bin_fdiv {i j : Int} : binV .fdiv (.int i) (.int j) H = if j = 0 ∨ 2 ^ 30 ≤ j.natAbs then none else some (.int (i.fdiv j), H) := rfl
theorem cmp_eq {a b : V} : cmpV .eq a b H = eqD H a b := rfl
theorem cmp_ne {a b : V} : cmpV .ne a b H = (eqD H a b).map (!·) := rfl
theorem cmp_lt {a b : V} : cmpV .lt a b H = lessV H a b := rfl
theorem cmp_le {i j : Int} : cmpV .le (.int i) (.int j) H = some (decide (i ≤ j)) := rfl
theorem cmp_gt {i j : Int} : cmpV .gt (.int i) (.int j) H = some (decide (j < i)) := rfl
theorem cmp_is {a b : V} : cmpV .is_ a b H = isSame a b := rfl
theorem cmp_isnt {a b : V} : cmpV .isNot a b H = (isSame a b).map (!·) := rfl
theorem cmp_in {a b : V} : cmpV .in_ a b H = mem H a b := rfl
theorem cmp_out {a b : V} : cmpV .notIn a b H = (mem H a b).map (!·) := rfl
theorem t_one {x : String} {v : V} : bindT (.one x) v ρ H = some (ρ.set x v) := rfl
end

noncomputable def setF (fs : List (String × V)) (n : String) (v : V) : List (String × V) :=
  if fs.any (fun f => f.1 == n) then fs.map fun f => if f.1 == n then (n, v) else f else fs ++ [(n, v)]

noncomputable def attrNames : List String := ["wishes", "mates"]
noncomputable def methNames : List String := ["__init__", "turn", "twos", "table"]
noncomputable def setAttrV (o : V) (n : String) (v : V) (H : Hp) : Option Hp := match o with
  | .ref a => (match H[a]? with
    | some (.inst _ d) => (match H[d]? with
      | some (.fdict fs) => some (H.set d (.fdict (setF fs n v)))
      | _ => none)
    | _ => none)
  | _ => none

noncomputable def hE (n : Option String) (c : String) : E → Option V
  | .none => some .none
  | .bool b => some (.bool b)
  | .int i => some (.int i)
  | .op (.isinst ts) [.var x] => if n = some x then some (.bool (ts.any fun t => (supers c).contains t)) else none
  | _ => none
theorem hE_isi {n c : String} {ts : List String} : hE (some n) c (.op (.isinst ts) [.var n]) = some (.bool (ts.any fun t => (supers c).contains t)) := if_pos rfl
noncomputable def noEnv : Env := fun _ => none

noncomputable def wHb (n : Option String) (c : String) (H : Hp) (k : SPost) (X : XP) : List S → Prop
  | [.ret e] => oE (hE n c e) fun v => k (some v) noEnv H
  | _ => False
theorem hb_ret {n : Option String} {c : String} {H : Hp} {k : SPost} {X : XP} {e : E} : wHb n c H k X [.ret e] = oE (hE n c e) fun v => k (some v) noEnv H := rfl

noncomputable def wHs (c : String) (H : Hp) (k : SPost) (X : XP) : List Hd → Prop
  | [] => False
  | .nx c' body :: hs => if c' = c then wHb none c H k X body else ((supers c).contains "BedError" = true ∧ (supers c).contains c' = false) ∧ wHs c H k X hs
  | .mk c' none body :: _ => if c' = c then wHb none c H k X body else False
  | _ => False
noncomputable def basedB (c : String) (i : Int) : Bool := decide ((["BadGuest", "BadMates", "BadParties"] ++ ["BadWishes", "NoNote"]).map (fun t => (supers c).contains t) = [0, 1, 2, 3, 4].map fun p : Int => p == i)

mutual
noncomputable def wS (C : Ctx) : S → Env → Hp → SPost → SXP → Prop
  | .assign x e, ρ, H, k, X => wE C e ρ H (fun v H1 => k none (ρ.set x v) H1) X
  | .setItem o i v, ρ, H, k, X => wE C v ρ H (fun vv H1 => wE C o ρ H1 (fun vo H2 => wE C i ρ H2 (fun vi H3 => oE (setV vo vi vv H3) fun H4 => k none ρ H4) X) X) X
  | .setAttr o n v, ρ, H, k, X => wE C v ρ H (fun vv H1 => wE C o ρ H1 (fun vo H2 => oE (setAttrV vo n vv H2) fun H3 => k none ρ H3) X) X
  | .expr e, ρ, H, k, X => wE C e ρ H (fun _ H1 => k none ρ H1) X
  | .ret e, ρ, H, k, X => wE C e ρ H (fun v H1 => k (some v) ρ H1) X
  | .retN, ρ, H, k, _ => k (some .none) ρ H
  | .ite c a b, ρ, H, k, X => wE C c ρ H (fun v H1 => wB v fun t => wIf t
      (wSs C a ρ H1 k X)
      (wSs C b ρ H1 k X)) X
  | .forR x args body, ρ, H, k, X => wEs C args ρ H (fun vs H1 => oE (rangeOf vs) fun is => wFor (fun _ => True) (fun v ρ' H' k' => wSs C body (ρ'.set x v) H' k' X) (is.map .int) ρ H1 k) X
  | .forS x src body, ρ, H, k, X => wE C src ρ H (fun v H1 => oE (oSeq v H1) fun p => wFor (fun H' => H'[p.1]? = H1[p.1]?) (fun v ρ' H' k' => wSs C body (ρ'.set x v) H' k' X) p.2 ρ H1 k) X
  | .while_ c body, ρ, H, k, X => ∃ n, wWhile (fun ρ' H' k' => wE C c ρ' H' (fun v H1 => wB v fun b => k' b H1) X) (fun ρ' H' k' => wSs C body ρ' H' k' X) n ρ H k
  | .raise c _, _, H, _, X => X c H
  | .stuck, _, _, _, _ => False
  | .based f args kd, ρ, H, k, _ => wEs C (args.map .var) ρ H (fun vs H1 => C.call f vs H1 (fun _ H2 => k none ρ H2) (fun c H2 => ((supers c).contains "BedError" = true ∧ c ≠ "NoNote") ∧ oE ((ρ kd).bind asInt) fun i => k (some (.bool (basedB c i))) noEnv H2)) noX
  | .try_ body hs, ρ, H, k, X => wSs C body ρ H k (fun c H' => wHs c H' k X hs)
noncomputable def wSs (C : Ctx) : List S → Env → Hp → SPost → SXP → Prop
  | [], ρ, H, k, _ => k none ρ H
  | s :: ss, ρ, H, k, X => wS C s ρ H (fun r ρ1 H1 => kS r (wSs C ss ρ1 H1 k X) fun v => k (some v) ρ1 H1) X
end

section
variable {C : Ctx} {ρ : Env} {H : Hp} {k : SPost} {X : SXP}
theorem s_assign {x : String} {e : E} : wS C (.assign x e) ρ H k X = wE C e ρ H (fun v H1 => k none (ρ.set x v) H1) X := rfl
theorem s_setItem {o i v : E} : wS C (.setItem o i v) ρ H k X = wE C v ρ H (fun vv H1 => wE C o ρ H1 (fun vo H2 => wE C i ρ H2 (fun vi H3 => oE (setV vo vi vv H3) fun H4 => k none ρ H4) X) X) X := rfl
theorem s_expr {e : E} : wS C (.expr e) ρ H k X = wE C e ρ H (fun _ H1 => k none ρ H1) X := rfl
theorem s_ret {e : E} : wS C (.ret e) ρ H k X = wE C e ρ H (fun v H1 => k (some v) ρ H1) X := rfl
theorem s_retN : wS C .retN ρ H k X = k (some .none) ρ H := rfl
theorem s_ite {c : E} {a b : List S} : wS C (.ite c a b) ρ H k X = wE C c ρ H (fun v H1 => wB v fun t => wIf t (wSs C a ρ H1 k X) (wSs C b ρ H1 k X)) X := rfl
theorem s_forR {x : String} {args : List E} {body : List S} : wS C (.forR x args body) ρ H k X = wEs C args ρ H (fun vs H1 => oE (rangeOf vs) fun is => wFor (fun _ => True) (fun v ρ' H' k' => wSs C body (ρ'.set x v) H' k' X) (is.map .int) ρ H1 k) X := rfl
theorem s_forS {x : String} {src : E} {body : List S} : wS C (.forS x src body) ρ H k X = wE C src ρ H (fun v H1 => oE (oSeq v H1) fun p => wFor (fun H' => H'[p.1]? = H1[p.1]?) (fun v ρ' H' k' => wSs C body (ρ'.set x v) H' k' X) p.2 ρ H1 k) X := rfl
theorem s_while {c : E} {body : List S} : wS C (.while_ c body) ρ H k X = ∃ n, wWhile (fun ρ' H' k' => wE C c ρ' H' (fun v H1 => wB v fun b => k' b H1) X) (fun ρ' H' k' => wSs C body ρ' H' k' X) n ρ H k := rfl
theorem s_setAttr {o v : E} {n : String} : wS C (.setAttr o n v) ρ H k X = wE C v ρ H (fun vv H1 => wE C o ρ H1 (fun vo H2 => oE (setAttrV vo n vv H2) fun H3 => k none ρ H3) X) X := rfl
theorem s_based {f kd : String} {args : List String} : wS C (.based f args kd) ρ H k X = wEs C (args.map .var) ρ H (fun vs H1 => C.call f vs H1 (fun _ H2 => k none ρ H2) (fun c H2 => ((supers c).contains "BedError" = true ∧ c ≠ "NoNote") ∧ oE ((ρ kd).bind asInt) fun i => k (some (.bool (basedB c i))) noEnv H2)) noX := rfl
theorem s_raise {c m : String} : wS C (.raise c m) ρ H k X = X c H := rfl
theorem hs_same {c : String} {body : List S} {hs : List Hd} : wHs c H k X (.mk c none body :: hs) = wHb none c H k X body := if_pos rfl
theorem hs_nx {c : String} {body : List S} {hs : List Hd} : wHs c H k X (.nx c body :: hs) = wHb none c H k X body := if_pos rfl
theorem hs_go {c c' : String} {body : List S} {hs : List Hd} (h : c' ≠ c) : wHs c H k X (.nx c' body :: hs) = (((supers c).contains "BedError" = true ∧ (supers c).contains c' = false) ∧ wHs c H k X hs) := if_neg h
theorem hs_no {c c' : String} {body : List S} {hs : List Hd} (h : c' ≠ c) : wHs c H k X (.mk c' none body :: hs) = False := if_neg h
theorem s_try {body : List S} {hs : List Hd} : wS C (.try_ body hs) ρ H k X = wSs C body ρ H k (fun c H' => wHs c H' k X hs) := rfl
theorem ss_nil : wSs C [] ρ H k X = k none ρ H := rfl
theorem ss_cons {s : S} {ss : List S} : wSs C (s :: ss) ρ H k X = wS C s ρ H (fun r ρ1 H1 => kS r (wSs C ss ρ1 H1 k X) fun v => k (some v) ρ1 H1) X := rfl
end

noncomputable def bindP : List String → List V → Env
  | x :: xs, v :: vs => (bindP xs vs).set x v
  | _, _ => fun _ => none

theorem bp_cons {x : String} {xs : List String} {v : V} {vs : List V} : bindP (x :: xs) (v :: vs) = (bindP xs vs).set x v := rfl
theorem bp_nil : bindP [] [] = fun _ => none := rfl

structure Prog where
  fn : String → Option Fn
  glob : String → Option V

noncomputable def callN (P : Prog) (ok : Bool) : Nat → String → List V → Hp → Post → XP → Prop
  | 0, _, _, _, _, _ => False
  | n + 1, f, vs, H, Q, X => oE (P.fn f) fun fn => fn.params.length = vs.length ∧ wSs ⟨ok, callN P ok n, P.glob⟩ fn.body (bindP fn.params vs) H (fun r _ H' => Q (r.getD .none) H') X

end Mine

namespace Mine
open PySem

noncomputable def f_is_guest : Fn := ⟨["thing", "many"], [.ret (.and_ [.op (.isinst ["int"]) [.var "thing"], .not_ (.op (.isinst ["bool"]) [.var "thing"]), .chain (.int 0) .le (.var "thing") .lt (.var "many")])]⟩
noncomputable def f_is_row : Fn := ⟨["row", "guest", "many"], [.ite (.not_ (.op (.isinst ["list"]) [.var "row"]))
    [.ret (.bool false)]
    [],
  .forR "at" [.op .len [.var "row"]]
    [.ite (.or_ [.not_ (.call "is_guest" [.op .item [.var "row", .var "at"], .var "many"]), .op (.cmp .eq) [.op .item [.var "row", .var "at"], .var "guest"], .op (.cmp .in_) [.op .item [.var "row", .var "at"], .op (.slice false true) [.var "row", .var "at"]]])
      [.ret (.bool false)]
      []],
  .ret (.bool true)]⟩
noncomputable def f_need_wishes : Fn := ⟨["wishes"], [.ite (.or_ [.not_ (.op (.isinst ["list"]) [.var "wishes"]), .not_ (.chain (.int 1) .le (.op .len [.var "wishes"]) .le (.glob "MOST_GUESTS"))])
    [.raise "BadWishes" "one to six lists are wanted"]
    [],
  .forR "guest" [.op .len [.var "wishes"]]
    [.ite (.not_ (.call "is_row" [.op .item [.var "wishes", .var "guest"], .var "guest", .op .len [.var "wishes"]]))
      [.raise "BadWishes" "a list that a guest can't have"]
      []]]⟩
noncomputable def f_need_guest : Fn := ⟨["wishes", "guest"], [.ite (.not_ (.call "is_guest" [.var "guest", .op .len [.var "wishes"]]))
    [.raise "BadGuest" "no such guest"]
    []]⟩
noncomputable def f_both_wish : Fn := ⟨["wishes", "one", "other"], [.ret (.and_ [.op (.cmp .in_) [.var "other", .op .item [.var "wishes", .var "one"]], .op (.cmp .in_) [.var "one", .op .item [.var "wishes", .var "other"]]])]⟩
noncomputable def f_sooner : Fn := ⟨["wishes", "guest", "one", "other"], [.ite (.or_ [.op (.cmp .eq) [.var "one", .var "other"], .op (.cmp .is_) [.var "one", .none], .not_ (.call "both_wish" [.var "wishes", .var "guest", .var "one"])])
    [.ret (.bool false)]
    [],
  .ite (.or_ [.op (.cmp .is_) [.var "other", .none], .not_ (.call "both_wish" [.var "wishes", .var "guest", .var "other"])])
    [.ret (.bool true)]
    [],
  .ret (.op (.cmp .lt) [.mcall .index (.op .item [.var "wishes", .var "guest"]) [.var "one"], .mcall .index (.op .item [.var "wishes", .var "guest"]) [.var "other"]])]⟩
noncomputable def f__law_cell_at : Fn := ⟨["_law_script", "_law_k"], [.ite (.op (.cmp .lt) [.var "_law_k", .op .len [.var "_law_script"]])
    [.ret (.op .item [.var "_law_script", .var "_law_k"])]
    [],
  .ret (.int 0)]⟩
noncomputable def f__law_row_by : Fn := ⟨["_law_cell", "_law_guest", "_law_many", "_law_full"], [.assign "_law_left" (.compR (.var "_law_one") "_law_one" [.var "_law_many"] [.op (.cmp .ne) [.var "_law_one", .var "_law_guest"]]),
  .assign "_law_row" (.op .mkList []),
  .while_ (.op (.cmp .gt) [.op .len [.var "_law_left"], .int 0])
    [.expr (.mcall .append (.var "_law_row") [.mcall .pop (.var "_law_left") [.op (.bin .mod) [.var "_law_cell", .op .len [.var "_law_left"]]]]),
    .assign "_law_cell" (.op (.bin .fdiv) [.var "_law_cell", .op (.bin .add) [.op .len [.var "_law_left"], .int 1]])],
  .ite (.var "_law_full")
    [.ret (.var "_law_row")]
    [],
  .ret (.op (.slice false true) [.var "_law_row", .op (.bin .mod) [.var "_law_cell", .op (.bin .add) [.op .len [.var "_law_row"], .int 1]]])]⟩
noncomputable def f__law_wishes_by : Fn := ⟨["_law_script", "_law_many"], [.assign "_law_full" (.op (.cmp .gt) [.op (.bin .mod) [.call "_law_cell_at" [.var "_law_script", .int 1], .int 3], .int 0]),
  .ret (.compR (.call "_law_row_by" [.call "_law_cell_at" [.var "_law_script", .op (.bin .add) [.int 3, .var "_law_k"]], .var "_law_k", .var "_law_many", .var "_law_full"]) "_law_k" [.var "_law_many"] [])]⟩
noncomputable def f_calm : Fn := ⟨["wishes", "mates"], [.ret (.op (.cmp .eq) [.op .len [.call "restless" [.var "wishes", .var "mates"]], .int 0])]⟩
noncomputable def f_all_calm : Fn := ⟨["wishes"], [.ret (.compS (.var "mates") (.one "mates") (.call "all_twos" [.var "wishes"]) [.op (.cmp .eq) [.op .len [.call "found_restless" [.var "wishes", .var "mates"]], .int 0]])]⟩
noncomputable def f_suits_t : Fn := ⟨["wishes", "one", "other"], [.expr (.call "need_wishes" [.var "wishes"]), .expr (.call "need_guest" [.var "wishes", .var "one"]), .expr (.call "need_guest" [.var "wishes", .var "other"]), .stuck]⟩
noncomputable def f_rather_t : Fn := ⟨["wishes", "guest", "one", "other"], [.expr (.call "need_wishes" [.var "wishes"]), .expr (.call "need_guest" [.var "wishes", .var "guest"]), .ite (.op (.cmp .isNot) [.var "one", .none])
    [.expr (.call "need_guest" [.var "wishes", .var "one"])]
    [], .ite (.op (.cmp .isNot) [.var "other", .none])
    [.expr (.call "need_guest" [.var "wishes", .var "other"])]
    [], .stuck]⟩
noncomputable def f_need_mates : Fn := ⟨["wishes", "mates"], [.ite (.or_ [.not_ (.op (.isinst ["list"]) [.var "mates"]), .op (.cmp .ne) [.op .len [.var "mates"], .op .len [.var "wishes"]]])
    [.raise "BadMates" "a mate or None for each guest is wanted"]
    [],
  .forS "mate" (.var "mates")
    [.ite (.and_ [.op (.cmp .isNot) [.var "mate", .none], .not_ (.call "is_guest" [.var "mate", .op .len [.var "wishes"]])])
      [.raise "BadMates" "a mate that is no guest"]
      []],
  .forR "guest" [.op .len [.var "mates"]]
    [.assign "mate" (.op .item [.var "mates", .var "guest"]),
    .ite (.and_ [.op (.cmp .isNot) [.var "mate", .none], .or_ [.op (.cmp .ne) [.op .item [.var "mates", .var "mate"], .var "guest"], .not_ (.call "both_wish" [.var "wishes", .var "guest", .var "mate"])]])
      [.raise "BadMates" "two that can't share"]
      []]]⟩
noncomputable def f_found_restless : Fn := ⟨["wishes", "mates"], [.assign "pairs" (.op .mkList []),
  .forR "one" [.op .len [.var "wishes"]]
    [.forR "other" [.op (.bin .add) [.var "one", .int 1], .op .len [.var "wishes"]]
      [.ite (.and_ [.call "sooner" [.var "wishes", .var "one", .var "other", .op .item [.var "mates", .var "one"]], .call "sooner" [.var "wishes", .var "other", .var "one", .op .item [.var "mates", .var "other"]]])
        [.expr (.mcall .append (.var "pairs") [.op .mkTuple [.var "one", .var "other"]])]
        []]],
  .ret (.var "pairs")]⟩
noncomputable def f_restless_t : Fn := ⟨["wishes", "mates"], [.expr (.call "need_wishes" [.var "wishes"]), .expr (.call "need_mates" [.var "wishes", .var "mates"]), .stuck]⟩
noncomputable def f_settled : Fn := ⟨["wishes", "guest", "mates", "met", "found"], [.while_ (.and_ [.op (.cmp .lt) [.var "guest", .op .len [.var "wishes"]], .op .item [.var "met", .var "guest"]])
    [.assign "guest" (.op (.bin .add) [.var "guest", .int 1])],
  .ite (.op (.cmp .eq) [.var "guest", .op .len [.var "wishes"]])
    [.expr (.mcall .append (.var "found") [.op .list [.var "mates"]]),
    .retN]
    [],
  .setItem (.var "met") (.var "guest") (.bool true),
  .expr (.call "settled" [.var "wishes", .op (.bin .add) [.var "guest", .int 1], .var "mates", .var "met", .var "found"]),
  .forR "other" [.op (.bin .add) [.var "guest", .int 1], .op .len [.var "wishes"]]
    [.ite (.and_ [.not_ (.op .item [.var "met", .var "other"]), .call "both_wish" [.var "wishes", .var "guest", .var "other"]])
      [.setItem (.var "met") (.var "other") (.bool true),
      .setItem (.var "mates") (.var "guest") (.var "other"),
      .setItem (.var "mates") (.var "other") (.var "guest"),
      .expr (.call "settled" [.var "wishes", .op (.bin .add) [.var "guest", .int 1], .var "mates", .var "met", .var "found"]),
      .setItem (.var "mates") (.var "guest") .none,
      .setItem (.var "mates") (.var "other") .none,
      .setItem (.var "met") (.var "other") (.bool false)]
      []],
  .setItem (.var "met") (.var "guest") (.bool false)]⟩
noncomputable def f_all_twos : Fn := ⟨["wishes"], [.expr (.call "need_wishes" [.var "wishes"]),
  .assign "found" (.op .mkList []),
  .assign "many" (.op .len [.var "wishes"]),
  .expr (.call "settled" [.var "wishes", .int 0, .op (.bin .mul) [.op .mkList [.none], .var "many"], .op (.bin .mul) [.op .mkList [.bool false], .var "many"], .var "found"]),
  .ret (.var "found")]⟩
noncomputable def f_first_calm : Fn := ⟨["wishes"], [.assign "found" (.call "all_calm" [.var "wishes"]),
  .ite (.op (.cmp .eq) [.op .len [.var "found"], .int 0])
    [.ret .none]
    [],
  .ret (.op .item [.var "found", .int 0])]⟩
noncomputable def f_need_parties : Fn := ⟨["after"], [.ite (.or_ [.not_ (.op (.isinst ["list"]) [.var "after"]), .not_ (.chain (.int 1) .le (.op .len [.var "after"]) .le (.glob "MOST_GUESTS"))])
    [.raise "BadParties" "the next one of each guest is wanted"]
    [],
  .forR "at" [.op .len [.var "after"]]
    [.ite (.or_ [.not_ (.call "is_guest" [.op .item [.var "after", .var "at"], .op .len [.var "after"]]), .op (.cmp .in_) [.op .item [.var "after", .var "at"], .op (.slice false true) [.var "after", .var "at"]]])
      [.raise "BadParties" "each guest is next once"]
      []]]⟩
noncomputable def f_rings_t : Fn := ⟨["after"], [.expr (.call "need_parties" [.var "after"]), .stuck]⟩
noncomputable def f_holds_t : Fn := ⟨["wishes", "after"], [.expr (.call "need_wishes" [.var "wishes"]), .expr (.call "need_parties" [.var "after"]), .ite (.op (.cmp .ne) [.op .len [.var "after"], .op .len [.var "wishes"]])
    [.raise "BadParties" "as many guests are wanted"]
    [], .stuck]⟩
noncomputable def f_paired_t : Fn := ⟨["after", "ahead"], [.expr (.call "need_parties" [.var "after"]), .stuck, .stuck, .stuck]⟩
noncomputable def f__law_guest_asked : Fn := ⟨["_law_which", "_law_wishes", "_law_inn", "_law_bad", "_law_good"], [.ite (.op (.cmp .eq) [.var "_law_which", .int 0])
    [.ret (.call "suits" [.var "_law_wishes", .var "_law_bad", .var "_law_good"])]
    [],
  .ite (.op (.cmp .eq) [.var "_law_which", .int 1])
    [.ret (.call "suits" [.var "_law_wishes", .var "_law_good", .var "_law_bad"])]
    [],
  .ite (.op (.cmp .eq) [.var "_law_which", .int 2])
    [.ret (.call "rather" [.var "_law_wishes", .var "_law_bad", .var "_law_good", .var "_law_good"])]
    [],
  .ite (.op (.cmp .eq) [.var "_law_which", .int 3])
    [.ret (.call "rather" [.var "_law_wishes", .var "_law_good", .var "_law_bad", .none])]
    [],
  .ite (.op (.cmp .eq) [.var "_law_which", .int 4])
    [.ret (.call "rather" [.var "_law_wishes", .var "_law_good", .none, .var "_law_bad"])]
    [],
  .ret (.meth "turn" (.var "_law_inn") [.var "_law_bad", .none])]⟩
noncomputable def f__law_asked_03 : Fn := ⟨["_law_kind", "_law_which", "_law_wishes", "_law_inn", "_law_bad", "_law_good"], [.ite (.op (.cmp .eq) [.var "_law_kind", .int 0])
    [.ret (.call "_law_guest_asked" [.op (.bin .mod) [.var "_law_which", .int 6], .var "_law_wishes", .var "_law_inn", .var "_law_bad", .var "_law_good"])]
    [],
  .ite (.and_ [.op (.cmp .eq) [.var "_law_kind", .int 1], .op (.cmp .eq) [.op (.bin .mod) [.var "_law_which", .int 2], .int 0]])
    [.ret (.call "restless" [.var "_law_wishes", .var "_law_bad"])]
    [],
  .ite (.op (.cmp .eq) [.var "_law_kind", .int 1])
    [.ret (.call "calm" [.var "_law_wishes", .var "_law_bad"])]
    [],
  .ite (.and_ [.op (.cmp .eq) [.var "_law_kind", .int 2], .op (.cmp .eq) [.op (.bin .mod) [.var "_law_which", .int 3], .int 0]])
    [.ret (.call "rings" [.var "_law_bad"])]
    [],
  .ite (.and_ [.op (.cmp .eq) [.var "_law_kind", .int 2], .op (.cmp .eq) [.op (.bin .mod) [.var "_law_which", .int 3], .int 1]])
    [.ret (.call "holds" [.var "_law_wishes", .var "_law_bad"])]
    [],
  .ite (.op (.cmp .eq) [.var "_law_kind", .int 2])
    [.ret (.call "paired" [.var "_law_bad", .op (.cmp .eq) [.op (.bin .mod) [.var "_law_which", .int 2], .int 1]])]
    [],
  .ret (.meth "turn" (.var "_law_inn") [.var "_law_good", .var "_law_bad"])]⟩
noncomputable def f__law_told : Fn := ⟨["_law_kind", "_law_which", "_law_wishes", "_law_inn", "_law_bad", "_law_good"], [.try_ [.expr (.call "_law_asked" [.var "_law_kind", .var "_law_which", .var "_law_wishes", .var "_law_inn", .var "_law_bad", .var "_law_good"])]
    [.nx "BadGuest" [.ret (.int 0)], .nx "BadMates" [.ret (.int 1)], .nx "BadParties" [.ret (.int 2)], .mk "BadWishes" none [.ret (.int 3)]],
  .ret (.int 4)]⟩
noncomputable def f__law_based : Fn := ⟨["_law_kind", "_law_which", "_law_wishes", "_law_inn", "_law_bad", "_law_good"], [.based "_law_asked" ["_law_kind", "_law_which", "_law_wishes", "_law_inn", "_law_bad", "_law_good"] "_law_kind",
  .ret (.bool false)]⟩
noncomputable def f__law_bad_mates : Fn := ⟨["_law_wishes", "_law_guest", "_law_way"], [.assign "_law_many" (.op .len [.var "_law_wishes"]),
  .assign "_law_mates" (.op (.bin .mul) [.op .mkList [.none], .var "_law_many"]),
  .ite (.op (.cmp .lt) [.var "_law_way", .int 5])
    [.ret (.op .item [.op .mkList [.op (.slice true false) [.var "_law_mates", .int 1], .op (.bin .add) [.var "_law_mates", .op .mkList [.none]], .op .tuple [.var "_law_mates"], .none, .str "mates"], .var "_law_way"])]
    [],
  .ite (.op (.cmp .eq) [.var "_law_way", .int 13])
    [.ret (.int 5)]
    [],
  .assign "_law_others" (.compR (.var "_law_one") "_law_one" [.var "_law_many"] [.or_ [.op (.cmp .notIn) [.var "_law_one", .op .item [.var "_law_wishes", .var "_law_guest"]], .op (.cmp .notIn) [.var "_law_guest", .op .item [.var "_law_wishes", .var "_law_one"]]]]),
  .setItem (.var "_law_mates") (.var "_law_guest") (.op .item [.op .mkList [.var "_law_guest", .op (.bin .mod) [.op (.bin .add) [.var "_law_guest", .int 1], .var "_law_many"], .var "_law_many", .op (.cmp .eq) [.var "_law_guest", .int 0], .op .item [.var "_law_others", .int 0], .op .neg [.int 1], .str "0", .op .mkList [.int 0]], .op (.bin .sub) [.var "_law_way", .int 5]]),
  .ite (.and_ [.op (.cmp .eq) [.var "_law_way", .int 9], .op (.cmp .ne) [.op .item [.var "_law_others", .int 0], .var "_law_guest"]])
    [.setItem (.var "_law_mates") (.op .item [.var "_law_others", .int 0]) (.var "_law_guest")]
    [],
  .ite (.and_ [.op (.cmp .eq) [.var "_law_way", .int 6], .op (.cmp .gt) [.var "_law_many", .int 2]])
    [.setItem (.var "_law_mates") (.op (.bin .mod) [.op (.bin .add) [.var "_law_guest", .int 1], .var "_law_many"]) (.op (.bin .mod) [.op (.bin .add) [.var "_law_guest", .int 2], .var "_law_many"]),
    .setItem (.var "_law_mates") (.op (.bin .mod) [.op (.bin .add) [.var "_law_guest", .int 2], .var "_law_many"]) (.var "_law_guest")]
    [],
  .ret (.var "_law_mates")]⟩
noncomputable def f__law_bad_after : Fn := ⟨["_law_many", "_law_place", "_law_way"], [.assign "_law_after" (.compR (.op (.bin .mod) [.op (.bin .add) [.var "_law_k", .int 1], .var "_law_many"]) "_law_k" [.var "_law_many"] []),
  .assign "_law_twice" (.op (.bin .add) [.op (.bin .add) [.op (.slice false true) [.var "_law_after", .var "_law_place"], .op .mkList [.op .item [.var "_law_after", .op (.bin .sub) [.var "_law_place", .int 1]]]], .op (.slice true false) [.var "_law_after", .var "_law_place"]]),
  .ite (.op (.cmp .lt) [.var "_law_way", .int 6])
    [.ret (.op .item [.op .mkList [.op .mkList [], .op .listRange [.int 7], .op .tuple [.var "_law_after"], .none, .str "after", .var "_law_twice"], .var "_law_way"])]
    [],
  .ite (.op (.cmp .eq) [.var "_law_way", .int 12])
    [.ret (.int 5)]
    [],
  .ret (.op (.bin .add) [.op (.bin .add) [.op (.slice false true) [.var "_law_after", .var "_law_place"], .op .mkList [.op .item [.op .mkList [.var "_law_many", .op .neg [.int 1], .op (.cmp .eq) [.var "_law_place", .int 0], .str "0", .none, .op .mkList [.int 0]], .op (.bin .sub) [.var "_law_way", .int 6]]]], .op (.slice true false) [.var "_law_after", .op (.bin .add) [.var "_law_place", .int 1]]])]⟩
noncomputable def f__law_bad_row : Fn := ⟨["_law_many", "_law_guest", "_law_way"], [.ret (.op .item [.op .mkList [.op .mkList [.var "_law_guest"], .op .mkList [.var "_law_many"], .op .mkList [.op .neg [.int 1]], .op .mkList [.bool true], .op .mkList [.str "0"], .none, .op .mkTuple [.int 0], .op .mkList [.var "_law_many", .var "_law_guest"], .str "0", .int 5, .op .mkList [.op .mkList [.int 1]], .op .mkList [.op .mkDict []]], .op (.bin .mod) [.var "_law_way", .int 12]])]⟩
noncomputable def f_law_03 : Fn := ⟨["_law_script"], [.assign "_law_many" (.op (.bin .add) [.int 1, .op (.bin .mod) [.call "_law_cell_at" [.var "_law_script", .int 0], .int 6]]),
  .assign "_law_wishes" (.call "_law_wishes_by" [.var "_law_script", .var "_law_many"]),
  .assign "_law_guest" (.op (.bin .mod) [.op (.bin .fdiv) [.call "_law_cell_at" [.var "_law_script", .int 0], .int 6], .var "_law_many"]),
  .assign "_law_kind" (.op (.bin .mod) [.call "_law_cell_at" [.var "_law_script", .int 2], .int 4]),
  .assign "_law_which" (.op (.bin .mod) [.op (.bin .fdiv) [.call "_law_cell_at" [.var "_law_script", .int 2], .int 4], .int 6]),
  .assign "_law_way" (.op (.bin .mod) [.op (.bin .fdiv) [.call "_law_cell_at" [.var "_law_script", .int 2], .int 24], .int 30]),
  .assign "_law_bad" (.op .item [.op .mkList [.op .neg [.int 1], .var "_law_many", .bool true, .str "0", .op .mkList [.int 0], .int 6, .bool false, .op .neg [.var "_law_many"], .int 1000000, .str "a"], .op (.bin .mod) [.var "_law_way", .int 10]]),
  .ite (.and_ [.op (.cmp .eq) [.var "_law_kind", .int 0], .op (.cmp .eq) [.op (.bin .mod) [.var "_law_way", .int 11], .int 10], .op (.cmp .notIn) [.var "_law_which", .op .mkTuple [.int 3, .int 4]]])
    [.assign "_law_bad" .none]
    [],
  .ite (.op (.cmp .eq) [.var "_law_kind", .int 1])
    [.assign "_law_bad" (.call "_law_bad_mates" [.var "_law_wishes", .var "_law_guest", .op .item [.op .mkList [.int 6, .int 10, .int 11, .int 9, .int 5, .int 8, .int 7, .int 12, .int 3, .int 13, .int 2, .int 1, .int 0, .int 4], .op (.bin .mod) [.var "_law_way", .int 14]]])]
    [],
  .ite (.op (.cmp .eq) [.var "_law_kind", .int 2])
    [.assign "_law_bad" (.call "_law_bad_after" [.var "_law_many", .var "_law_guest", .op (.bin .mod) [.var "_law_way", .int 13]]),
    .ite (.and_ [.op (.cmp .eq) [.op (.bin .mod) [.var "_law_which", .int 3], .int 1], .op (.cmp .eq) [.op (.bin .mod) [.var "_law_way", .int 4], .int 3]])
      [.assign "_law_bad" (.op .listRange [.op (.bin .sub) [.op (.bin .add) [.var "_law_many", .int 1], .op (.bin .mul) [.int 2, .op .int [.op (.cmp .eq) [.var "_law_many", .int 6]]]]])]
      []]
    [],
  .ite (.op (.cmp .eq) [.var "_law_kind", .int 3])
    [.assign "_law_bad" (.call "_law_bad_row" [.var "_law_many", .var "_law_guest", .var "_law_way"])]
    [],
  .assign "_law_inn" (.new "Inn" [.compS (.op .list [.var "_law_row"]) (.one "_law_row") (.var "_law_wishes") []]),
  .assign "_law_before" (.meth "twos" (.var "_law_inn") []),
  .assign "_law_handed" (.compS (.op .list [.var "_law_row"]) (.one "_law_row") (.var "_law_wishes") []),
  .ite (.op (.cmp .eq) [.op (.bin .mod) [.op (.bin .fdiv) [.call "_law_cell_at" [.var "_law_script", .int 1], .int 3], .int 2], .int 1])
    [.ite (.not_ (.call "_law_based" [.var "_law_kind", .var "_law_which", .var "_law_handed", .var "_law_inn", .var "_law_bad", .var "_law_guest"]))
      [.ret (.bool false)]
      []]
    [.ite (.op (.cmp .ne) [.call "_law_told" [.var "_law_kind", .var "_law_which", .var "_law_handed", .var "_law_inn", .var "_law_bad", .var "_law_guest"], .var "_law_kind"])
      [.ret (.bool false)]
      []],
  .ret (.and_ [.op (.cmp .eq) [.meth "twos" (.var "_law_inn") [], .var "_law_before"], .op (.cmp .eq) [.meth "table" (.var "_law_inn") [], .var "_law_wishes"], .op (.cmp .eq) [.var "_law_handed", .var "_law_wishes"]])]⟩
noncomputable def f_Inn___init__ : Fn := ⟨["self", "wishes"], [.expr (.call "need_wishes" [.var "wishes"]),
  .setAttr (.var "self") "wishes" (.compS (.op .list [.var "row"]) (.one "row") (.var "wishes") []),
  .setAttr (.var "self") "mates" (.call "first_calm" [.op (.attr "wishes") [.var "self"]])]⟩
noncomputable def f_Inn_turn_t : Fn := ⟨["self", "guest", "row"], [.expr (.call "need_guest" [.op (.attr "wishes") [.var "self"], .var "guest"]), .ite (.not_ (.call "is_row" [.var "row", .var "guest", .op .len [.op (.attr "wishes") [.var "self"]]]))
    [.raise "BadWishes" "a list that the guest can't have"]
    [], .stuck, .stuck]⟩
noncomputable def f_Inn_twos : Fn := ⟨["self"], [.ite (.op (.cmp .is_) [.op (.attr "mates") [.var "self"], .none])
    [.ret .none]
    [],
  .ret (.op .list [.op (.attr "mates") [.var "self"]])]⟩
noncomputable def f_Inn_table : Fn := ⟨["self"], [.ret (.compS (.op .list [.var "row"]) (.one "row") (.op (.attr "wishes") [.var "self"]) [])]⟩
noncomputable def prog03 : Prog where
  fn := fun f => match f with
    | "is_guest" => some f_is_guest
    | "is_row" => some f_is_row
    | "need_wishes" => some f_need_wishes
    | "need_guest" => some f_need_guest
    | "both_wish" => some f_both_wish
    | "sooner" => some f_sooner
    | "suits" => some f_suits_t
    | "rather" => some f_rather_t
    | "need_mates" => some f_need_mates
    | "found_restless" => some f_found_restless
    | "restless" => some f_restless_t
    | "calm" => some f_calm
    | "settled" => some f_settled
    | "all_twos" => some f_all_twos
    | "all_calm" => some f_all_calm
    | "first_calm" => some f_first_calm
    | "need_parties" => some f_need_parties
    | "rings" => some f_rings_t
    | "holds" => some f_holds_t
    | "paired" => some f_paired_t
    | "_law_cell_at" => some f__law_cell_at
    | "_law_row_by" => some f__law_row_by
    | "_law_wishes_by" => some f__law_wishes_by
    | "_law_guest_asked" => some f__law_guest_asked
    | "_law_asked" => some f__law_asked_03
    | "_law_told" => some f__law_told
    | "_law_based" => some f__law_based
    | "_law_bad_mates" => some f__law_bad_mates
    | "_law_bad_after" => some f__law_bad_after
    | "_law_bad_row" => some f__law_bad_row
    | "law" => some f_law_03
    | "Inn.__init__" => some f_Inn___init__
    | "Inn.turn" => some f_Inn_turn_t
    | "Inn.twos" => some f_Inn_twos
    | "Inn.table" => some f_Inn_table
    | _ => none
  glob := fun x => match x with
    | "MOST_GUESTS" => some (.int 6)
    | _ => none

end Mine

namespace Mine
open PySem

theorem no_ns {α : Type} {x : α} {p : Prop} (h : (none : Option α) = some x) : p := nomatch h
theorem clash {α : Type} {o : Option α} {x : α} {p : Prop} (h : o = some x) (h' : o = none) : p := no_ns (h'.symm.trans h)

theorem ofString_inj {a b : String} (h : Str.ofString a = Str.ofString b) : a = b := by
  rw [Str.ofString_eq_toList, Str.ofString_eq_toList] at h
  have h1 : a.toList.map Char.toNat = b.toList.map Char.toNat := by
    have := congrArg (fun s : Str => s.cps.toList) h
    simpa using this
  have h2 : a.toList = b.toList := by
    refine List.map_inj_right ?_ |>.mp h1
    intro x y e
    exact Char.ext (UInt32.toNat_inj.mp e)
  exact String.toList_inj.mp h2

theorem ofString_ne {a b : String} (h : a ≠ b) : Str.ofString a ≠ Str.ofString b := fun e => h (ofString_inj e)

inductive All2 {α β : Type} (R : α → β → Prop) : List α → List β → Prop where
  | nil : All2 R [] []
  | cons {a b as bs} : R a b → All2 R as bs → All2 R (a :: as) (b :: bs)

namespace All2
variable {α β : Type} {R S : α → β → Prop}
theorem length {as : List α} {bs : List β} (h : All2 R as bs) : as.length = bs.length := by
  induction h with
  | nil => rfl
  | cons _ _ ih => simp [ih]
theorem mono (hRS : ∀ a b, R a b → S a b) {as : List α} {bs : List β} (h : All2 R as bs) : All2 S as bs := by
  induction h with
  | nil => exact .nil
  | cons h _ ih => exact .cons (hRS _ _ h) ih
theorem append {as as' : List α} {bs bs' : List β} (h : All2 R as bs) (h' : All2 R as' bs') : All2 R (as ++ as') (bs ++ bs') := by
  induction h with
  | nil => exact h'
  | cons h _ ih => exact .cons h ih
theorem get {as : List α} {bs : List β} (h : All2 R as bs) {i : Nat} {a : α} (e : as[i]? = some a) : ∃ b, bs[i]? = some b ∧ R a b := by
  induction h generalizing i with
  | nil => simp at e
  | cons h _ ih =>
    cases i with
    | zero => simp at e; subst e; exact ⟨_, rfl, h⟩
    | succ i => simpa using ih (by simpa using e)
theorem get' {as : List α} {bs : List β} (h : All2 R as bs) {i : Nat} {b : β} (e : bs[i]? = some b) : ∃ a, as[i]? = some a ∧ R a b := by
  induction h generalizing i with
  | nil => simp at e
  | cons h _ ih =>
    cases i with
    | zero => simp at e; subst e; exact ⟨_, rfl, h⟩
    | succ i => simpa using ih (by simpa using e)
theorem set {as : List α} {bs : List β} (h : All2 R as bs) (i : Nat) {a : α} {b : β} (hab : R a b) : All2 R (as.set i a) (bs.set i b) := by
  induction h generalizing i with
  | nil => exact .nil
  | cons h t ih =>
    cases i with
    | zero => exact .cons hab t
    | succ i => exact .cons h (ih i)
theorem take {as : List α} {bs : List β} (h : All2 R as bs) (i : Nat) : All2 R (as.take i) (bs.take i) := by
  induction h generalizing i with
  | nil => simp; exact .nil
  | cons h t ih =>
    cases i with
    | zero => exact .nil
    | succ i => exact .cons h (ih i)
theorem drop {as : List α} {bs : List β} (h : All2 R as bs) (i : Nat) : All2 R (as.drop i) (bs.drop i) := by
  induction h generalizing i with
  | nil => simp; exact .nil
  | cons h t ih =>
    cases i with
    | zero => exact .cons h t
    | succ i => exact ih i
theorem eraseIdx {as : List α} {bs : List β} (h : All2 R as bs) (i : Nat) : All2 R (as.eraseIdx i) (bs.eraseIdx i) := by
  induction h generalizing i with
  | nil => exact .nil
  | cons h t ih =>
    cases i with
    | zero => exact t
    | succ i => exact .cons h (ih i)
theorem reverse {as : List α} {bs : List β} (h : All2 R as bs) : All2 R as.reverse bs.reverse := by
  induction h with
  | nil => exact .nil
  | cons h t ih => rw [List.reverse_cons, List.reverse_cons]; exact ih.append (.cons h .nil)
theorem replicate {a : α} {b : β} (h : R a b) (n : Nat) : All2 R (List.replicate n a) (List.replicate n b) := by
  induction n with
  | zero => exact .nil
  | succ n ih => exact .cons h ih
theorem mem' {as : List α} {bs : List β} (h : All2 R as bs) {b : β} (hb : b ∈ bs) : ∃ a ∈ as, R a b := by
  induction h with
  | nil => simp at hb
  | cons h t ih =>
    rcases List.mem_cons.mp hb with rfl | hb
    · exact ⟨_, List.mem_cons_self, h⟩
    · obtain ⟨a, ha, hr⟩ := ih hb; exact ⟨a, List.mem_cons_of_mem _ ha, hr⟩
end All2

inductive VR (β : List Addr) : V → Value → Prop where
  | none : VR β .none .none
  | bool (b : Bool) : VR β (.bool b) (.bool b)
  | int (i : Int) (t : Tok) : VR β (.int i) (.int i t)
  | str (s : Str) (t : Tok) : VR β (.str s) (.str s t)
  | ref {a : Nat} {r : Addr} : β[a]? = some r → VR β (.ref a) (.ref r)

noncomputable abbrev VRs (β : List Addr) := All2 (VR β)

theorem VR.mono {β β' : List Addr} (hp : β <+: β') {v : V} {u : Value} (h : VR β v u) : VR β' v u := by
  cases h with
  | none => exact .none
  | bool b => exact .bool b
  | int i t => exact .int i t
  | str s t => exact .str s t
  | ref e =>
    obtain ⟨t, rfl⟩ := hp
    refine .ref ?_
    rw [List.getElem?_append_left (List.getElem?_eq_some_iff.mp e).1]; exact e
theorem VRs.mono {β β' : List Addr} (hp : β <+: β') {v : List V} {u : List Value} (h : VRs β v u) : VRs β' v u := All2.mono (fun _ _ => VR.mono hp) h

inductive OR (β : List Addr) : O → Obj → Prop where
  | list {xs : List V} {us : List Value} {n : Nat} : VRs β xs us → xs.length ≤ lim → OR β (.list xs) { cls := .type "list", data := .seq us.toArray n }
  | tuple {xs : List V} {us : List Value} {n : Nat} : VRs β xs us → xs.length ≤ lim → OR β (.tuple xs) { cls := .type "tuple", data := .seq us.toArray n }

theorem OR.mono {β β' : List Addr} (hp : β <+: β') {o : O} {ob : Obj} (h : OR β o ob) : OR β' o ob := by
  cases h with
  | list h l => exact .list (VRs.mono hp h) l
  | tuple h l => exact .tuple (VRs.mono hp h) l

theorem pre_at {α : Type} {l l' : List α} (hp : l <+: l') {i : Nat} {x : α} (h : l[i]? = some x) : l'[i]? = some x := by
  obtain ⟨t, rfl⟩ := hp
  rw [List.getElem?_append_left (List.getElem?_eq_some_iff.mp h).1]; exact h
structure FR (β : List Addr) (fs : List (String × V)) (m : Str → Option Value) : Prop where
  val : ∀ n v, fs.lookup n = some v → ∃ u, m (Str.ofString n) = some u ∧ VR β v u
  only : ∀ y, m y ≠ none → ∃ n ∈ attrNames, y = Str.ofString n
theorem FR.mono {β β' : List Addr} (hp : β <+: β') {fs : List (String × V)} {m : Str → Option Value} (x : FR β fs m) : FR β' fs m :=
  ⟨fun n v h => let ⟨u, a, b⟩ := x.val n v h; ⟨u, a, b.mono hp⟩, x.only⟩
inductive Slot1 (h₀ h : Heap) (β : List Addr) : O → Addr → Prop where
  | frozen {xs : List V} {us : List Value} {r : Addr} {ob : Obj} {n : Nat} : h₀.get? r = some ob → ob.cls = .type "list" → ob.data = .seq us.toArray n → VRs β xs us → xs.length ≤ lim → Slot1 h₀ h β (.frozen xs) r
  | own {o : O} {r : Addr} {ob : Obj} : h₀.get? r = Option.none → h.get? r = some ob → OR β o ob → Slot1 h₀ h β o r
  | dict {es : List (Int × V)} {r : Addr} {ob : Obj} {kvs : List (Int × Value)} : (r == sysModules) = false → h₀.get? r = Option.none → h.get? r = some ob → (∀ prog w, ob.IsDictOf (intKind prog w) kvs) → All2 (fun e kv => e.1 = kv.1 ∧ VR β e.2 kv.2) es kvs → es.length ≤ lim → Slot1 h₀ h β (.dict es) r
  | inst {d : Nat} {r dx C : Addr} {ob : Obj} {mgl : Str → Option Value} : h₀.get? r = Option.none → β[d]? = some dx → dx ≠ r → h.get? r = some ob → ob.cls = .ref C → h₀.Ns mainGlobals mgl → mgl (Str.ofString "Inn") = some (.ref C) → ob.dict = some dx → (∀ cd, ob.data ≠ .cls cd) → Slot1 h₀ h β (.inst "Inn" d) r
  | fdict {fs : List (String × V)} {r : Addr} {m : Str → Option Value} : h₀.get? r = Option.none → h.Ns1 r m → FR β fs m → Slot1 h₀ h β (.fdict fs) r

theorem Slot1.at {h₀ h h' : Heap} {β : List Addr} {o : O} {r : Addr} (x : Slot1 h₀ h β o r) (hk : ∀ ob, h.get? r = some ob → h'.get? r = some ob) : Slot1 h₀ h' β o r := by
  cases x with
  | frozen a b c d e => exact .frozen a b c d e
  | own a b c => exact .own a (hk _ b) c
  | dict a b c d e f => exact .dict a b (hk _ c) d e f
  | inst a b c d e f g i j => exact .inst a b c (hk _ d) e f g i j
  | fdict a b c => exact .fdict a (b.at fun o q => hk o q) c

structure SR (h₀ : Heap) (β : List Addr) (H : Hp) (h : Heap) : Prop where
  kept : ∀ b o, h₀.get? b = some o → h.get? b = some o
  nodup : β.Nodup
  objs : All2 (Slot1 h₀ h β) H β

noncomputable def KS (o o' : Obj) : Prop := o' = o ∨ ((∃ es ep, o.data = .dict es ep) ∧ ∃ sl, o' = { o with slots := sl })
theorem KS.refl (o : Obj) : KS o o := .inl rfl
theorem KS.data {o o' : Obj} (h : KS o o') : o'.data = o.data := by
  rcases h with rfl | ⟨_, sl, rfl⟩ <;> rfl
theorem KS.trans {a b c : Obj} (h : KS a b) (h' : KS b c) : KS a c := by
  rcases h with rfl | ⟨hd, sl, rfl⟩
  · exact h'
  · rcases h' with rfl | ⟨_, sl', rfl⟩
    · exact .inr ⟨hd, sl, rfl⟩
    · exact .inr ⟨hd, sl', rfl⟩
theorem KS.exact {o o' : Obj} (h : KS o o') (hd : ∀ es ep, o.data ≠ .dict es ep) : o' = o := by
  rcases h with rfl | ⟨⟨es, ep, e⟩, _⟩
  · rfl
  · exact absurd e (hd es ep)
noncomputable def KAt (h h' : Heap) (b : Addr) : Prop := ∀ o, h.get? b = some o → ∃ o', h'.get? b = some o' ∧ KS o o'
theorem KAt.of {h h' : Heap} {b : Addr} (k : ∀ o, h.get? b = some o → h'.get? b = some o) : KAt h h' b := fun o e => ⟨o, k o e, KS.refl o⟩
theorem KAt.trans {h h' h'' : Heap} {b : Addr} (x : KAt h h' b) (y : KAt h' h'' b) : KAt h h'' b := fun o e =>
  let ⟨o1, e1, k1⟩ := x o e; let ⟨o2, e2, k2⟩ := y o1 e1; ⟨o2, e2, k1.trans k2⟩
theorem KAt.exact {h h' : Heap} {b : Addr} (x : KAt h h' b) {o : Obj} (e : h.get? b = some o) (hd : ∀ es ep, o.data ≠ .dict es ep) : h'.get? b = some o := by
  obtain ⟨o', e', k⟩ := x o e
  rw [e', k.exact hd]
theorem KAt.live {h h' : Heap} {b : Addr} (x : KAt h h' b) (e : ∃ o, h.get? b = some o) : ∃ o, h'.get? b = some o :=
  let ⟨o, e⟩ := e; let ⟨o', e', _⟩ := x o e; ⟨o', e'⟩

structure Step (β : List Addr) (s : Shared) (β' : List Addr) (s' : Shared) : Prop where
  same : ∃ h tk, s' = { s with heap := h, toks := tk }
  grow : β <+: β'
  keep : ∀ b, b ∉ β → KAt s.heap s'.heap b
  fresh : ∀ b ∈ β', b ∈ β ∨ s.heap.get? b = Option.none

theorem Step.refl (β : List Addr) (s : Shared) : Step β s β s := ⟨⟨s.heap, s.toks, rfl⟩, List.prefix_refl _, fun _ _ => .of fun _ e => e, fun _ hb => .inl hb⟩
theorem Step.toks (β : List Addr) (s : Shared) (t : Nat) : Step β s β { s with toks := t } := ⟨⟨s.heap, t, rfl⟩, List.prefix_refl _, fun _ _ => .of fun _ e => e, fun _ hb => .inl hb⟩
theorem Step.trans {β₁ β₂ β₃ : List Addr} {s₁ s₂ s₃ : Shared} (x : Step β₁ s₁ β₂ s₂) (y : Step β₂ s₂ β₃ s₃) : Step β₁ s₁ β₃ s₃ := by
  obtain ⟨⟨h, t, rfl⟩, g, k, f⟩ := x
  obtain ⟨⟨h', t', rfl⟩, g', k', f'⟩ := y
  refine ⟨⟨h', t', rfl⟩, g.trans g', fun b hb o e => (KAt.trans (k b hb) (k' b fun hm => ?_)) o e, fun b hb => ?_⟩
  · rcases f b hm with q | q
    · exact hb q
    · rw [e] at q; cases q
  · rcases f' b hb with q | q
    · exact f b q
    · by_cases hm : b ∈ β₁
      · exact .inl hm
      · refine .inr ?_
        cases e : s₁.heap.get? b with
        | none => rfl
        | some o => obtain ⟨o', e', _⟩ := k b hm o e; rw [e'] at q; cases q

theorem Step.of_heap {β : List Addr} {s : Shared} {h : Heap} {tk : Nat} (hk : ∀ b o, s.heap.get? b = some o → h.get? b = some o) : Step β s β { s with heap := h, toks := tk } :=
  ⟨⟨h, tk, rfl⟩, List.prefix_refl _, fun b _ => .of fun o e => hk b o e, fun _ hb => .inl hb⟩

theorem SR.keeps {h₀ h h' : Heap} {β : List Addr} {H : Hp} (x : SR h₀ β H h) (hk : ∀ b o, h.get? b = some o → h'.get? b = some o) : SR h₀ β H h' :=
  ⟨fun b o e => hk _ _ (x.kept b o e), x.nodup, x.objs.mono fun _ _ hr => hr.at fun _ e => hk _ _ e⟩

theorem SR.mem {h₀ h : Heap} {β : List Addr} {H : Hp} (x : SR h₀ β H h) {b : Addr} (hb : b ∈ β) : ∃ o, h.get? b = some o := by
  obtain ⟨o, _, hr⟩ := x.objs.mem' hb
  cases hr with
  | frozen a _ _ _ _ => exact ⟨_, x.kept _ _ a⟩
  | own _ b _ => exact ⟨_, b⟩
  | dict _ _ c _ _ _ => exact ⟨_, c⟩
  | inst _ _ _ d _ _ _ _ _ => exact ⟨_, d⟩
  | fdict _ b _ => obtain ⟨o, _, _, e, _⟩ := b; exact ⟨o, e⟩

theorem Slot1.grow {h₀ h : Heap} {β β' : List Addr} (hp : β <+: β') {o : O} {r : Addr} (x : Slot1 h₀ h β o r) : Slot1 h₀ h β' o r := by
  cases x with
  | frozen a b c d e => exact .frozen a b c (VRs.mono hp d) e
  | own a b c => exact .own a b (c.mono hp)
  | dict a b c d e f => exact .dict a b c d (e.mono fun _ _ q => ⟨q.1, q.2.mono hp⟩) f
  | inst a b c d e f g i j => exact .inst a (pre_at hp b) c d e f g i j
  | fdict a b c => exact .fdict a b (c.mono hp)

theorem SR.pushS {h₀ h h' : Heap} {β : List Addr} {H : Hp} (x : SR h₀ β H h) {r : Addr} {o : O} (hr : h.get? r = Option.none) (hk : ∀ b o, h.get? b = some o → h'.get? b = some o)
    (ho : h₀.get? r = Option.none → Slot1 h₀ h' (β ++ [r]) o r) : SR h₀ (β ++ [r]) (H ++ [o]) h' := by
  have hp : β <+: β ++ [r] := List.prefix_append _ _
  have y := x.keeps hk
  have hrb : r ∉ β := fun hm => by obtain ⟨o, e⟩ := x.mem hm; rw [hr] at e; cases e
  refine ⟨y.kept, ?_, (y.objs.mono fun _ _ => Slot1.grow hp).append (.cons (ho ?_) .nil)⟩
  · rw [List.nodup_append]
    refine ⟨x.nodup, by simp, fun a ha b hb => ?_⟩
    simp at hb; subst hb; rintro rfl; exact hrb ha
  · cases e : h₀.get? r with
    | none => rfl
    | some o => rw [x.kept _ _ e] at hr; cases hr
theorem SR.push {h₀ h h' : Heap} {β : List Addr} {H : Hp} (x : SR h₀ β H h) {r : Addr} {o : O} {ob : Obj} (hr : h.get? r = Option.none) (hk : ∀ b o, h.get? b = some o → h'.get? b = some o) (hg : h'.get? r = some ob)
    (ho : OR (β ++ [r]) o ob) : SR h₀ (β ++ [r]) (H ++ [o]) h' := x.pushS hr hk fun hn => .own hn hg ho

theorem SR.len {h₀ h : Heap} {β : List Addr} {H : Hp} (x : SR h₀ β H h) : H.length = β.length := x.objs.length

theorem SR.updS {h₀ h h' : Heap} {β : List Addr} {H : Hp} (x : SR h₀ β H h) {a : Nat} {r : Addr} {o' : O} (hr : β[a]? = some r) (hn : h₀.get? r = Option.none)
    (hk : ∀ b o, b ≠ r → h.get? b = some o → h'.get? b = some o) (ho : Slot1 h₀ h' β o' r) : SR h₀ β (H.set a o') h' := by
  refine ⟨fun b q e => ?_, x.nodup, ?_⟩
  · have : b ≠ r := by rintro rfl; rw [hn] at e; cases e
    exact hk b q this (x.kept b q e)
  · have key : ∀ (H : Hp) (γ : List Addr), All2 (Slot1 h₀ h β) H γ → γ.Nodup → ∀ a, γ[a]? = some r → All2 (Slot1 h₀ h' β) (H.set a o') γ := by
      intro H γ hA
      induction hA with
      | nil => intro _ a e; simp at e
      | @cons o1 r1 os rs h1 t ih =>
        intro hnd a e
        rw [List.nodup_cons] at hnd
        have other : ∀ {o : O} {b : Addr}, b ≠ r → Slot1 h₀ h β o b → Slot1 h₀ h' β o b := fun hb q => q.at fun _ e => hk _ _ hb e
        cases a with
        | zero =>
          simp at e; subst e
          refine .cons ho ?_
          have : ∀ (os : Hp) (rs : List Addr), All2 (Slot1 h₀ h β) os rs → r1 ∉ rs → All2 (Slot1 h₀ h' β) os rs := by
            intro os rs q
            induction q with
            | nil => intro _; exact .nil
            | cons q1 _ ih => intro hm; simp at hm; exact .cons (other (Ne.symm hm.1) q1) (ih hm.2)
          exact this _ _ t hnd.1
        | succ a =>
          have e' : rs[a]? = some r := by simpa using e
          have : r1 ≠ r := by rintro rfl; exact hnd.1 (List.mem_of_getElem? e')
          exact .cons (other this h1) (ih hnd.2 a e')
    exact key H β x.objs x.nodup a hr
theorem SR.upd {h₀ h h' : Heap} {β : List Addr} {H : Hp} (x : SR h₀ β H h) {a : Nat} {r : Addr} {o o' : O} {ob : Obj} (_ha : H[a]? = some o) (hr : β[a]? = some r) (hn : h₀.get? r = Option.none)
    (hk : ∀ b, b ≠ r → h'.get? b = h.get? b) (hg : h'.get? r = some ob) (ho : OR β o' ob) : SR h₀ β (H.set a o') h' := x.updS hr hn (fun b o hb e => (hk b hb).trans e) (.own hn hg ho)

structure ER (env : PySem.Env) (ρ : Env) (β : List Addr) (h : Heap) : Prop where
  kind : env.scope.kind = .function
  glob : env.globals = mainGlobals
  bltn : env.builtins = builtinsNs
  ns : ∃ m, h.Ns env.locals m ∧ ∀ x v, ρ x = some v → env.kindOf (Str.ofString x) = some .local → Str.ofString x ≠ (".0" : Str) → ∃ u, m (Str.ofString x) = some u ∧ VR β v u
  cell : ∀ x c, env.cells.lookup x = some c → ∃ u, h.IsCell c u
  held : ∀ x v, ρ x = some v → env.kindOf (Str.ofString x) = some .cell ∨ env.kindOf (Str.ofString x) = some .free → ∃ c u, env.cells.lookup (Str.ofString x) = some c ∧ h.IsCell c (some u) ∧ VR β v u
  has : ∀ x : Str, env.kindOf x = some .cell ∨ env.kindOf x = some .free → ∃ c, env.cells.lookup x = some c
  apart : ∀ x y c, env.cells.lookup x = some c → env.cells.lookup y = some c → x = y
  locs : env.locals ∉ β
  cells : ∀ x c, env.cells.lookup x = some c → c ∉ β ∧ c ≠ env.locals

theorem Heap_IsCell_at {h h' : Heap} {c : Addr} {v : Option Value} (x : h.IsCell c v) (hk : KAt h h' c) : h'.IsCell c v :=
  let ⟨o, ho, hd⟩ := x; let ⟨o', ho', k⟩ := hk o ho; ⟨o', ho', k.data.trans hd⟩
theorem Heap_Ns_at {h h' : Heap} {c : Addr} {m : Str → Option Value} (x : h.Ns c m) (hk : KAt h h' c) : h'.Ns c m :=
  let ⟨o, es, ep, e, hd, r⟩ := x; let ⟨o', e', k⟩ := hk o e; ⟨o', es, ep, e', k.data.trans hd, r⟩

theorem ER.step {env : PySem.Env} {ρ : Env} {β β' : List Addr} {s s' : Shared} (x : ER env ρ β s.heap) (t : Step β s β' s') : ER env ρ β' s'.heap := by
  obtain ⟨m, hn, hm⟩ := x.ns
  have notin : ∀ b, b ∉ β → (∃ o, s.heap.get? b = some o) → b ∉ β' := fun b hb ⟨o, e⟩ hm => by
    rcases t.fresh b hm with q | q
    · exact hb q
    · rw [e] at q; cases q
  refine ⟨x.kind, x.glob, x.bltn, ⟨m, Heap_Ns_at hn (t.keep _ x.locs), fun y v hv hk hd => ?_⟩, fun y c hc => ?_, fun y v hv hk => ?_, x.has, x.apart, ?_, fun y c hc => ⟨?_, (x.cells y c hc).2⟩⟩
  · obtain ⟨u, hu, hr⟩ := hm y v hv hk hd; exact ⟨u, hu, hr.mono t.grow⟩
  · obtain ⟨u, hu⟩ := x.cell y c hc; exact ⟨u, Heap_IsCell_at hu (t.keep _ (x.cells y c hc).1)⟩
  · obtain ⟨c, u, hc, hu, hr⟩ := x.held y v hv hk; exact ⟨c, u, hc, Heap_IsCell_at hu (t.keep _ (x.cells _ c hc).1), hr.mono t.grow⟩
  · obtain ⟨o, _, _, e, _⟩ := hn; exact notin _ x.locs ⟨o, e⟩
  · obtain ⟨u, o, e, _⟩ := x.cell y c hc; exact notin _ (x.cells y c hc).1 ⟨o, e⟩

end Mine

namespace Mine
open PySem

section
variable {prog : Program} {w : World} {A : Around} {E : Value → Shared → Prop} {s : Shared} {h₀ : Heap} {β : List Addr} {H H' : Hp} {v : V} {Q : Value → Shared → Prop}

noncomputable def Cont (h₀ : Heap) (β : List Addr) (s : Shared) (v : V) (H' : Hp) (Q : Value → Shared → Prop) : Prop :=
  ∀ u s' β', Step β s β' s' → SR h₀ β' H' s'.heap → VR β' v u → Q u s'

theorem Cont.same {u : Value} {t : Nat} (k : Cont h₀ β s v H Q) (sr : SR h₀ β H s.heap) (vr : VR β v u) : Q u { s with toks := t } :=
  k u _ β (Step.toks β s t) sr vr
theorem Cont.here {u : Value} (k : Cont h₀ β s v H Q) (sr : SR h₀ β H s.heap) (vr : VR β v u) : Q u s :=
  k u _ β (Step.refl β s) sr vr

theorem Cont.new {o : O} {ob : Obj} {t : Nat} (k : Cont h₀ β s (.ref H.length) (H ++ [o]) Q) (sr : SR h₀ β H s.heap) (ho : OR β o ob) (hf : ob.isFreed = false) :
    Q (.ref s.heap.objs.size) { s with heap := s.heap.push ob, toks := t } := by
  have hn : s.heap.get? s.heap.objs.size = Option.none := by
    cases e : s.heap.get? s.heap.objs.size with
    | none => rfl
    | some o => exact absurd (Heap.lt_size e) (Nat.lt_irrefl _)
  have hp : β <+: β ++ [s.heap.objs.size] := List.prefix_append _ _
  refine k _ _ (β ++ [s.heap.objs.size]) ⟨⟨_, _, rfl⟩, hp, fun b _ => .of fun o e => Heap.get?_push_of_some _ e, fun b hb => ?_⟩
    (sr.push hn (fun b o e => Heap.get?_push_of_some _ e) (Heap.get?_push_size _ hf) (ho.mono hp)) (.ref ?_)
  · rcases List.mem_append.mp hb with q | q
    · exact .inl q
    · simp at q; subst q; exact .inr hn
  · rw [sr.len]; simp

theorem Cont.new0 {o : O} {ob : Obj} (k : Cont h₀ β s (.ref H.length) (H ++ [o]) Q) (sr : SR h₀ β H s.heap) (ho : OR β o ob) (hf : ob.isFreed = false) :
    Q (.ref s.heap.objs.size) { s with heap := s.heap.push ob } := Cont.new (t := s.toks) k sr ho hf

theorem SR.at (x : SR h₀ β H s.heap) {a : Nat} {o : O} (ha : H[a]? = some o) : ∃ r, β[a]? = some r ∧ Slot1 h₀ s.heap β o r := x.objs.get ha

theorem SR.list (x : SR h₀ β H s.heap) {a : Nat} {r : Addr} {xs : List V} (ha : H[a]? = some (.list xs)) (hr : β[a]? = some r) :
    ∃ us n, h₀.get? r = Option.none ∧ s.heap.get? r = some { cls := .type "list", data := .seq us.toArray n } ∧ VRs β xs us ∧ xs.length ≤ lim := by
  obtain ⟨r', e, sl⟩ := x.at ha
  (first | exact clash hr e | exact clash e hr | (rw [hr] at e; cases e))
  cases sl with
  | own a b c => cases c with | list p q => exact ⟨_, _, a, b, p, q⟩

theorem SR.seq (x : SR h₀ β H s.heap) {a : Nat} {r : Addr} {xs : List V} (ha : seqOf H a = some xs) (hr : β[a]? = some r) :
    ∃ us n ob, s.heap.get? r = some ob ∧ (ob.cls = .type "list" ∨ ob.cls = .type "tuple") ∧ ob.data = .seq us.toArray n ∧ VRs β xs us ∧ xs.length ≤ lim := by
  unfold seqOf at ha
  split at ha
  · rename_i ys e; cases ha
    obtain ⟨us, n, _, b, c, d⟩ := x.list e hr
    exact ⟨us, n, _, b, .inl rfl, rfl, c, d⟩
  · rename_i ys e; cases ha
    obtain ⟨r', e', sl⟩ := x.at e
    (first | exact clash hr e' | exact clash e' hr | (rw [hr] at e'; cases e'))
    cases sl with
    | frozen a b c d l => exact ⟨_, _, _, x.kept _ _ a, .inl b, c, d, l⟩
    | own a b c => cases c
  · rename_i ys e; cases ha
    obtain ⟨r', e', sl⟩ := x.at e
    (first | exact clash hr e' | exact clash e' hr | (rw [hr] at e'; cases e'))
    cases sl with
    | own a b c => cases c with | tuple p q => exact ⟨_, _, _, b, .inr rfl, rfl, p, q⟩
  · cases ha

theorem lim_lt (n : Nat) (h : n ≤ lim) : (n : Int) < 2 ^ 63 := by unfold lim at h; omega
theorem lim_line (n : Nat) (h : n ≤ lim) : n ≤ sizeLine := by unfold lim at h; unfold sizeLine; omega

theorem p_sub {a b : Int} {t u : Tok} (k : Cont h₀ β s (.int (a - b)) H Q) (sr : SR h₀ β H s.heap) : wpAny (model prog w) A (binaryOp .Sub (.int a t) (.int b u)) Q E s :=
  P.sub_int (k.same sr (.int _ _))
theorem p_neg {a : Int} {t : Tok} (k : Cont h₀ β s (.int (-a)) H Q) (sr : SR h₀ β H s.heap) : wpAny (model prog w) A (unaryOp .USub (.int a t)) Q E s :=
  P.neg_int (k.same sr (.int _ _))
theorem p_mod {a b : Int} {t u : Tok} (hb : b ≠ 0) (k : Cont h₀ β s (.int (a.fmod b)) H Q) (sr : SR h₀ β H s.heap) : wpAny (model prog w) A (binaryOp .Mod (.int a t) (.int b u)) Q E s :=
  PyProof.Rows.mod_int' hb (k.same sr (.int _ _))
theorem p_fdiv {a b : Int} {t u : Tok} (hb : b ≠ 0) (hs : b.natAbs < 2 ^ 30) (k : Cont h₀ β s (.int (a.fdiv b)) H Q) (sr : SR h₀ β H s.heap) : wpAny (model prog w) A (binaryOp .FloorDiv (.int a t) (.int b u)) Q E s :=
  PyProof.Rows.floordiv_int hb (k.same sr (.int _ _)) (.inl (PyProof.noPylong_small (by omega)))
theorem p_addI {a b : Int} {t u : Tok} (k : Cont h₀ β s (.int (a + b)) H Q) (sr : SR h₀ β H s.heap) : wpAny (model prog w) A (binaryOp .Add (.int a t) (.int b u)) Q E s :=
  P.add_int (k.same sr (.int _ _))


theorem p_mulI {a b : Int} {t u : Tok} (ha : a.natAbs < 2 ^ 30) (k : Cont h₀ β s (.int (a * b)) H Q) (sr : SR h₀ β H s.heap) : wpAny (model prog w) A (binaryOp .Mult (.int a t) (.int b u)) Q E s :=
  P.mul_int (k.same sr (.int _ _)) (.of_left (by
    unfold Builtin.Int.intBits
    split
    · omega
    · have : a.natAbs.log2 < 30 := by
        rcases Nat.eq_zero_or_pos a.natAbs with h | h
        · rw [h]; decide
        · exact (Nat.log2_lt (Nat.pos_iff_ne_zero.mp h)).mpr ha
      omega))

theorem p_addS {x y : Str} {t u : Tok} (hs : x.cps.size + y.cps.size ≤ lim) (k : Cont h₀ β s (.str (x ++ y)) H Q) (sr : SR h₀ β H s.heap) : wpAny (model prog w) A (binaryOp .Add (.str x t) (.str y u)) Q E s :=
  PyProof.Rows.add_str (fun _ _ => k.same sr (.str _ _)) (lim_line _ hs)

theorem p_addL {a b : Nat} {ra rb : Addr} {xs ys : List V} (ha : H[a]? = some (.list xs)) (hb : H[b]? = some (.list ys)) (hra : β[a]? = some ra) (hrb : β[b]? = some rb) (hs : xs.length + ys.length ≤ lim)
    (k : Cont h₀ β s (.ref H.length) (H ++ [.list (xs ++ ys)]) Q) (sr : SR h₀ β H s.heap) : wpAny (model prog w) A (binaryOp .Add (.ref ra) (.ref rb)) Q E s := by
  obtain ⟨us, n, _, ea, va, _⟩ := sr.list ha hra
  obtain ⟨ws, m, _, eb, vb, _⟩ := sr.list hb hrb
  refine P.add_list (items := us.toArray) (items2 := ws.toArray) ea eb ?_ (by rw [List.size_toArray, List.size_toArray, ← va.length, ← vb.length]; exact lim_line _ hs)
  exact k.new0 sr (by rw [List.append_toArray]; exact .list (va.append vb) (by rw [List.length_append]; exact hs)) rfl

theorem foldl_replicate (x : Value) : ∀ n : Nat, List.foldl (fun x1 x2 : Array Value => x1 ++ x2) #[] (List.replicate n #[x]) = (List.replicate n x).toArray := by
  have key : ∀ (n : Nat) (acc : Array Value), List.foldl (fun x1 x2 : Array Value => x1 ++ x2) acc (List.replicate n #[x]) = acc ++ (List.replicate n x).toArray := by
    intro n
    induction n with
    | zero => intro acc; simp
    | succ n ih =>
      intro acc
      rw [List.replicate_succ, List.foldl_cons, ih, Array.append_assoc]
      congr 1
      simp [List.replicate_succ]
  intro n
  rw [key]; simp

theorem p_mulL {a : Nat} {ra : Addr} {x : V} {n : Int} {t : Tok} (ha : H[a]? = some (.list [x])) (hra : β[a]? = some ra) (hs : n.natAbs ≤ lim)
    (k : Cont h₀ β s (.ref H.length) (H ++ [.list (List.replicate n.toNat x)]) Q) (sr : SR h₀ β H s.heap) : wpAny (model prog w) A (binaryOp .Mult (.ref ra) (.int n t)) Q E s := by
  obtain ⟨us, m, _, ea, va, _⟩ := sr.list ha hra
  cases va with
  | cons hx hr =>
    cases hr
    rename_i ux
    have hl : n.natAbs ≤ 100000 := hs
    refine wpAny_binaryOp_repeat_ref (T := "list") (U := "int") (by decide) ⟨_, ea, rfl⟩ (fun s' => typeIs_int s' n t) noFill_list_mul F.fills_int_mul F.slot_int_rmul repeat_list F.slot_int_index.lookup
      (call_meets F.slot_int_rmul (typeIs_int s n t) F.entry_int_rmul (F.args_int_rmul_2 _ _) (int___rmul___int_list n t ra #[ux] m)
        ⟨ea, rfl, ⟨_, ea, rfl⟩, call_meets F.slot_list_mul ⟨_, ea, rfl⟩ F.entry_list_mul (F.args_list_mul_2 _ _)
          (AutoListH.list___mul___list_int_3 ra #[ux] m n t (by simp [Builtin.List.listFitsIndex]; omega) (by simp; omega) (by simp [Builtin.List.listTooLong, sizeLine]; omega))
          ⟨ea, ?_⟩⟩)
    refine k.new0 sr ?_ rfl
    have : (if (#[ux] : Array Value).isEmpty = true then 0 else n.toNat) = n.toNat := by simp
    rw [this, foldl_replicate]
    exact .list (All2.replicate hx _) (by rw [List.length_replicate]; unfold lim; omega)

theorem p_lt {a b : Int} {t u : Tok} (k : Cont h₀ β s (.bool (decide (a < b))) H Q) (sr : SR h₀ β H s.heap) : wpAny (model prog w) A (compareOp .Lt (.int a t) (.int b u)) Q E s := P.lt_int (k.here sr (.bool _))
theorem p_le {a b : Int} {t u : Tok} (k : Cont h₀ β s (.bool (decide (a ≤ b))) H Q) (sr : SR h₀ β H s.heap) : wpAny (model prog w) A (compareOp .LtE (.int a t) (.int b u)) Q E s := P.le_int (k.here sr (.bool _))
theorem p_gt {a b : Int} {t u : Tok} (k : Cont h₀ β s (.bool (decide (b < a))) H Q) (sr : SR h₀ β H s.heap) : wpAny (model prog w) A (compareOp .Gt (.int a t) (.int b u)) Q E s := P.gt_int (k.here sr (.bool _))
theorem p_ge {a b : Int} {t u : Tok} (k : Cont h₀ β s (.bool (decide (b ≤ a))) H Q) (sr : SR h₀ β H s.heap) : wpAny (model prog w) A (compareOp .GtE (.int a t) (.int b u)) Q E s := P.ge_int (k.here sr (.bool _))

theorem p_lenS {x : Str} {t : Tok} (hs : x.cps.size ≤ lim) (k : Cont h₀ β s (.int x.cps.size) H Q) (sr : SR h₀ β H s.heap) : wpAny (model prog w) A (call (.builtin "len") [.str x t]) Q E s :=
  PyProof.Rows.len_str (by have := lim_lt _ hs; unfold Str.length; omega) (k.same sr (.int _ _))

theorem SR.isSeq (x : SR h₀ β H s.heap) {a : Nat} {r : Addr} {xs : List V} (ha : seqOf H a = some xs) (hr : β[a]? = some r) :
    ∃ us, (s.heap.IsList r us.toArray ∨ PyProof.Rows.IsTup s.heap r us.toArray) ∧ VRs β xs us ∧ xs.length ≤ lim := by
  obtain ⟨us, n, ob, e, hc, hd, vr, hl⟩ := x.seq ha hr
  exact ⟨us, hc.imp (fun c => ⟨ob, e, c, n, hd⟩) (fun c => ⟨ob, e, c, n, hd⟩), vr, hl⟩

theorem p_lenL {a : Nat} {r : Addr} {xs : List V} (ha : seqOf H a = some xs) (hr : β[a]? = some r) (k : Cont h₀ β s (.int xs.length) H Q) (sr : SR h₀ β H s.heap) :
    wpAny (model prog w) A (call (.builtin "len") [.ref r]) Q E s := by
  obtain ⟨us, hq, vr, hl⟩ := sr.isSeq ha hr
  have hlen := vr.length
  have hsz : (us.toArray.size : Int) = xs.length := by rw [List.size_toArray, hlen]
  have hfit := lim_lt _ hl
  rcases hq with hq | hq
  · exact Calls.call_len_list hq (by omega) (by rw [hsz]; exact k.same sr (.int _ _))
  · exact PyProof.Rows.len_tuple hq (by omega) (by rw [hsz]; exact k.same sr (.int _ _))

theorem normIdx_some {i : Int} {n k : Nat} (h : normIdx i n = some k) : (0 ≤ i ∧ i < n ∧ k = i.toNat) ∨ (i < 0 ∧ -(n : Int) ≤ i ∧ k = (i + n).toNat) := by
  unfold normIdx at h
  by_cases hi : i < 0
  · simp only [hi, if_true] at h
    split at h
    · have := Option.some.inj h; omega
    · cases h
  · simp only [hi, if_false] at h
    split at h
    · have := Option.some.inj h; omega
    · cases h

theorem seqIndex_norm {i : Int} {n k : Nat} (h : normIdx i n = some k) : seqIndex? i n = some k := by
  rcases normIdx_some h with ⟨h0, h1, rfl⟩ | ⟨h0, h1, rfl⟩
  · exact seqIndex_of h0 h1
  · exact seqIndex_neg h0 h1

theorem normIdx_lt {i : Int} {n k : Nat} (h : normIdx i n = some k) : k < n := by
  rcases normIdx_some h with ⟨h0, h1, rfl⟩ | ⟨h0, h1, rfl⟩ <;> omega

theorem p_itemL {a : Nat} {r : Addr} {xs : List V} {i : Int} {t : Tok} {kk : Nat} (ha : seqOf H a = some xs) (hr : β[a]? = some r) (hk : normIdx i xs.length = some kk) (hv : xs[kk]? = some v)
    (k : Cont h₀ β s v H Q) (sr : SR h₀ β H s.heap) : wpAny (model prog w) A (getItem (.ref r) (.int i t)) Q E s := by
  obtain ⟨us, hq, vr, hl⟩ := sr.isSeq ha hr
  obtain ⟨u, hu, hvu⟩ := vr.get hv
  have hlen := vr.length
  have hfit := lim_lt _ hl
  have hsz : us.toArray.size = xs.length := by rw [List.size_toArray, hlen]
  have hu' : us.toArray[kk]? = some u := by rw [List.getElem?_toArray]; exact hu
  rcases hq with hq | hq
  · rcases normIdx_some hk with ⟨h0, h1, rfl⟩ | ⟨h0, h1, rfl⟩
    · exact wpAny_getItem_list hq h0 (by omega) hu' (k.here sr hvu)
    · exact wpAny_getItem_list_neg hq h0 (by omega) (by omega) (by rw [hsz]; exact hu') (k.here sr hvu)
  · have := normIdx_some hk
    exact PyProof.Rows.getItem_tuple hq (by omega) (by omega) (by rw [hsz]; exact seqIndex_norm hk) hu' (k.here sr hvu)

theorem p_mkList {vs : List V} {us : List Value} (hv : VRs β vs us) (hl : vs.length ≤ lim) (k : Cont h₀ β s (.ref H.length) (H ++ [.list vs]) Q) (sr : SR h₀ β H s.heap) :
    Q (.ref s.heap.objs.size) { s with heap := s.heap.push { cls := .type "list", data := .seq us.toArray } } := k.new0 sr (.list hv hl) rfl
theorem p_mkTuple {vs : List V} {us : List Value} (hv : VRs β vs us) (hl : vs.length ≤ lim) (k : Cont h₀ β s (.ref H.length) (H ++ [.tuple vs]) Q) (sr : SR h₀ β H s.heap) :
    Q (.ref s.heap.objs.size) { s with heap := s.heap.push { cls := .type "tuple", data := .seq us.toArray } } := k.new0 sr (.tuple hv hl) rfl

theorem Cont.upd {a : Nat} {r : Addr} {o o' : O} {ob : Obj} {u : Value} {h' : Heap} (k : Cont h₀ β s v (H.set a o') Q) (sr : SR h₀ β H s.heap) (ha : H[a]? = some o) (hr : β[a]? = some r) (hn : h₀.get? r = Option.none)
    (hk : ∀ b, b ≠ r → h'.get? b = s.heap.get? b) (hg : h'.get? r = some ob) (ho : OR β o' ob) (vr : VR β v u) : Q u { s with heap := h' } := by
  refine k _ _ β ⟨⟨_, _, rfl⟩, List.prefix_refl _, fun b hb => .of fun q e => ?_, fun b hb => .inl hb⟩ (sr.upd ha hr hn hk hg ho) vr
  have : b ≠ r := by rintro rfl; exact hb (List.mem_of_getElem? hr)
  exact (hk b this).trans e

theorem mapSeq_list (us : List Value) (n : Nat) (f : Array Value → Array Value) : ∃ m, Obj.mapSeq f { cls := .type "list", data := .seq us.toArray n } = { cls := .type "list", data := .seq (f us.toArray) m } := ⟨_, rfl⟩

set_option maxRecDepth 100000 in
theorem set_at {l : Addr} {o : Obj} {us : Array Value} {n : Nat} {k : Int} {t : Tok} {v : Value} {Q : Unit → Shared → Prop} (ho : s.heap.get? l = some o) (hc : o.cls = .type "list") (hd : o.data = .seq us n) (h0 : 0 ≤ k) (hk : k < us.size) (hl : k < 2 ^ 63)
    (hQ : Q () { s with heap := s.heap.update l (Obj.mapSeq (·.setIfInBounds k.toNat v)) }) : wpAny (model prog w) A (setItem (.ref l) (.int k t) v) Q E s := by
  have ty : s.heap.IsList l us := ⟨o, ho, hc, n, hd⟩
  have fits := fitsIndex_of h0 hl
  unfold setItem
  refine wpAny_holding (wpAny_bind (wpAny_sequenceKey ty.typeIs (by decide) (wpAny_bind (wpAny_callSpecial?_slot (name := Str.ofString "__setitem__") ty.typeIs slot_list_setitem (wpAny_call_entry slot_list_setitem ty.typeIs entry_list_setitem ?_ (args_list_setitem _ _ _))))))
  show wpAny _ _ (Builtin.List.listSubscript? (.int k t) >>= _) _ _ s
  refine wpAny_bind (wpAny_listSubscript_int fits ?_)
  clear fits hl
  match k, h0, hk, hQ with
  | .ofNat m, _, hk, hQ =>
    have hlt : m < us.size := by have : (m : Int) < us.size := hk; omega
    have hm : us[m]? = some us[m] := Array.getElem?_eq_getElem hlt
    show wpAny _ _ ((seqItemAt l m >>= _) >>= _) _ _ s
    refine wpAny_bind (wpAny_bind (wpAny_seqItemAt (i := m) ho hd (wpAny_pure ?_)))
    rw [hm]
    show wpAny _ _ (setSeqItemAt l m v >>= _) _ _ s
    refine wpAny_bind (wpAny_setSeqItemAt (i := m) (v := v) ho hd ?_)
    exact wpAny_pure ⟨.none, rfl, wpAny_pure hQ⟩

theorem p_setL {a : Nat} {r : Addr} {xs : List V} {i : Int} {t : Tok} {x : V} {u : Value} {Qu : Unit → Shared → Prop} (ha : H[a]? = some (.list xs)) (hr : β[a]? = some r) (h0 : 0 ≤ i) (hi : i < xs.length) (hu : VR β x u)
    (k : Cont h₀ β s .none (H.set a (.list (xs.set i.toNat x))) (fun _ s' => Qu () s')) (sr : SR h₀ β H s.heap) : wpAny (model prog w) A (setItem (.ref r) (.int i t) u) Qu E s := by
  obtain ⟨us, n, hn, e, vr, hl⟩ := sr.list ha hr
  have hfit := lim_lt _ hl
  have hlen := vr.length
  obtain ⟨m, rfl⟩ := Int.eq_ofNat_of_zero_le h0
  refine set_at e rfl rfl h0 (by rw [List.size_toArray, ← hlen]; omega) (by omega) ?_
  rw [Int.toNat_natCast] at k ⊢
  obtain ⟨q, hq⟩ := mapSeq_list us n fun xs => xs.setIfInBounds m u
  refine Cont.upd (u := .none) k sr ha hr hn (fun b hb => Heap.get?_update_other _ _ (Ne.symm hb)) (Heap.get?_update_self _ e (by rw [hq]; rfl)) ?_ .none
  rw [hq]
  have : us.toArray.setIfInBounds m u = (us.set m u).toArray := by simp
  rw [this]
  exact .list (vr.set m hu) (by rw [List.length_set]; exact hl)

theorem p_append {a : Nat} {r : Addr} {xs : List V} {x : V} {u : Value} (ha : H[a]? = some (.list xs)) (hr : β[a]? = some r) (hl : xs.length < lim) (hu : VR β x u)
    (k : Cont h₀ β s .none (H.set a (.list (xs ++ [x]))) Q) (sr : SR h₀ β H s.heap) : wpAny (model prog w) A (call (.builtin "list.append") [.ref r, u]) Q E s := by
  obtain ⟨us, n, hn, e, vr, hle⟩ := sr.list ha hr
  have hlen := vr.length
  refine call_meets F.slot_list_append ⟨_, e, rfl⟩ F.entry_list_append (F.args_list_append_2 _ _) (list_append r us.toArray n u (by rw [List.size_toArray, ← hlen]; exact lim_line _ hle)) ⟨e, ?_⟩
  obtain ⟨m, hm⟩ := mapSeq_list us n fun xs => xs.push u
  refine k.upd sr ha hr hn (fun b hb => Heap.get?_update_other _ _ (Ne.symm hb)) (Heap.get?_update_self _ e (by rw [hm]; rfl)) ?_ .none
  rw [hm, List.push_toArray]
  exact .list (vr.append (.cons hu .nil)) (by rw [List.length_append]; exact hl)

theorem p_pop {a : Nat} {r : Addr} {xs : List V} {i : Int} {t : Tok} {kk : Nat} (ha : H[a]? = some (.list xs)) (hr : β[a]? = some r) (hk : normIdx i xs.length = some kk) (hv : xs[kk]? = some v)
    (k : Cont h₀ β s v (H.set a (.list (xs.eraseIdx kk))) Q) (sr : SR h₀ β H s.heap) : wpAny (model prog w) A (call (.builtin "list.pop") [.ref r, .int i t]) Q E s := by
  obtain ⟨us, n, hn, e, vr, hle⟩ := sr.list ha hr
  have hlen := vr.length
  have hfit := lim_lt _ hle
  obtain ⟨u, hu, hvu⟩ := vr.get hv
  have hsz : us.toArray.size = xs.length := by rw [List.size_toArray, hlen]
  have hlt := normIdx_lt hk
  have hb := normIdx_some hk
  refine call_meets F.slot_list_pop ⟨_, e, rfl⟩ F.entry_list_pop (F.args_list_pop_2 _ _) (MeetsSeq.list_pop_at r us.toArray n i t kk u (by simp [Builtin.List.listFitsIndex]; omega) (by rw [hsz]; exact seqIndex_norm hk)
    (by rw [List.getElem?_toArray]; exact hu) (by rw [hsz]; exact lim_line _ hle)) ⟨e, ?_⟩
  obtain ⟨m, hm⟩ := mapSeq_list us n fun xs => xs.eraseIdxIfInBounds kk
  refine k.upd sr ha hr hn (fun b hb => Heap.get?_update_other _ _ (Ne.symm hb)) (Heap.get?_update_self _ e (by rw [hm]; rfl)) ?_ hvu
  rw [hm]
  have : us.toArray.eraseIdxIfInBounds kk = (us.eraseIdx kk).toArray := by
    rw [Array.eraseIdxIfInBounds, dif_pos (by rw [hsz]; exact hlt)]; simp
  rw [this]
  exact .list (vr.eraseIdx kk) (by have := List.length_eraseIdx_le xs kk; omega)

end
end Mine

namespace Mine
open PySem

section
variable {prog : Program} {w : World} {A : Around} {E : Value → Shared → Prop} {s : Shared} {h₀ : Heap} {β : List Addr} {H H' : Hp} {v : V} {Q : Value → Shared → Prop}

theorem mapM_cons_some {α γ : Type} {f : α → Option γ} {x : α} {xs : List α} {ys : List γ} (h : (x :: xs).mapM f = some ys) : ∃ y r, f x = some y ∧ xs.mapM f = some r ∧ ys = y :: r := by
  rw [List.mapM_cons] at h
  cases hx : f x with
  | none => (first | exact clash hx h | exact clash h hx | (rw [hx] at h; cases h))
  | some y =>
    rw [hx] at h
    cases hr : xs.mapM f with
    | none => (first | exact clash hr h | exact clash h hr | (rw [hr] at h; cases h))
    | some r => (first | exact clash hr h | exact clash h hr | (rw [hr] at h; cases h)); exact ⟨y, r, rfl, rfl, rfl⟩
theorem mapM_nil_some {α γ : Type} {f : α → Option γ} {ys : List γ} (h : ([] : List α).mapM f = some ys) : ys = [] := by
  (first | exact clash List.mapM_nil h | exact clash h List.mapM_nil | (rw [List.mapM_nil] at h; cases h)); rfl

theorem reads_all {n : Nat} (ih : ∀ v u d, readD n H v = some d → VR β v u → ∃ as, Reads s.heap u d as ∧ d.depth ≤ n) :
    ∀ {xs : List V} {us : List Value} {ds : List PyData}, VRs β xs us → xs.mapM (readD n H) = some ds → ∃ as, ReadsAll s.heap us ds as ∧ PyData.depthAll ds ≤ n := by
  intro xs us ds hv
  induction hv generalizing ds with
  | nil => intro h; rw [mapM_nil_some h]; exact ⟨_, .nil, Nat.zero_le _⟩
  | cons h _ ih2 =>
    intro hm
    obtain ⟨y, r, h1, h2, rfl⟩ := mapM_cons_some hm
    obtain ⟨as, ra, da⟩ := ih _ _ _ h1 h
    obtain ⟨bs, rb, db⟩ := ih2 h2
    exact ⟨_, .cons ra rb, by rw [PyData.depthAll]; omega⟩

theorem reads_of (sr : SR h₀ β H s.heap) : ∀ (n : Nat) (v : V) (u : Value) (d : PyData), readD n H v = some d → VR β v u → ∃ as, Reads s.heap u d as ∧ d.depth ≤ n := by
  intro n
  induction n with
  | zero =>
    intro v u d h hv
    cases hv <;> simp only [readD] at h <;> cases h
    · exact ⟨_, .none, Nat.le_refl _⟩
    · exact ⟨_, .bool _, Nat.le_refl _⟩
    · exact ⟨_, .int _ _, Nat.le_refl _⟩
    · exact ⟨_, .str _ _, Nat.le_refl _⟩
  | succ n ih =>
    intro v u d h hv
    cases hv with
    | none => simp only [readD] at h; cases h; exact ⟨_, .none, Nat.zero_le _⟩
    | bool b => simp only [readD] at h; cases h; exact ⟨_, .bool _, Nat.zero_le _⟩
    | int i t => simp only [readD] at h; cases h; exact ⟨_, .int _ _, Nat.zero_le _⟩
    | str x t => simp only [readD] at h; cases h; exact ⟨_, .str _ _, Nat.zero_le _⟩
    | @ref a r hr =>
      simp only [readD] at h
      split at h
      · rename_i xs e
        obtain ⟨ds, hds, rfl⟩ := Option.map_eq_some_iff.mp h
        obtain ⟨us, m, _, eo, vr, _⟩ := sr.list e hr
        obtain ⟨as, ra, da⟩ := reads_all ih vr hds
        exact ⟨_, .list eo rfl rfl (by simpa using ra), by rw [PyData.depth]; omega⟩
      · rename_i xs e
        obtain ⟨ds, hds, rfl⟩ := Option.map_eq_some_iff.mp h
        obtain ⟨r', e', sl⟩ := sr.at e
        (first | exact clash hr e' | exact clash e' hr | (rw [hr] at e'; cases e'))
        cases sl with
        | frozen a b c d l =>
          obtain ⟨as, ra, da⟩ := reads_all ih d hds
          exact ⟨_, .list (sr.kept _ _ a) b c (by simpa using ra), by rw [PyData.depth]; omega⟩
        | own a b c => cases c
      · rename_i xs e
        obtain ⟨ds, hds, rfl⟩ := Option.map_eq_some_iff.mp h
        obtain ⟨r', e', sl⟩ := sr.at e
        (first | exact clash hr e' | exact clash e' hr | (rw [hr] at e'; cases e'))
        cases sl with
        | own a b c =>
          cases c with
          | tuple vr l =>
            obtain ⟨as, ra, da⟩ := reads_all ih vr hds
            exact ⟨_, .tuple b rfl rfl (by simpa using ra), by rw [PyData.depth]; omega⟩
      · cases h

theorem eqD_some {a b : V} {r : Bool} (h : eqD H a b = some r) : ∃ x y, readD 8 H a = some x ∧ readD 8 H b = some y ∧ x.canLay0 = true ∧ y.canLay0 = true ∧ r = PyData.eqv x y := by
  unfold eqD at h
  split at h
  · rename_i x y ha hb
    split at h
    · rename_i hc
      rw [Bool.and_eq_true] at hc
      exact ⟨x, y, ha, hb, hc.1, hc.2, (Option.some.inj h).symm⟩
    · cases h
  · cases h

theorem shaped_of {d : PyData} (hc : d.canLay0 = true) (hd : d.depth ≤ 8) : SeqAt.shaped d = true := by
  unfold SeqAt.shaped; rw [hc]; simp; omega

theorem p_eq {a b : V} {ua ub : Value} {r : Bool} (ha : VR β a ua) (hb : VR β b ub) (h : eqD H a b = some r) (hu : A.units + 100 < cLine) (k : Cont h₀ β s (.bool r) H Q) (sr : SR h₀ β H s.heap) :
    wpAny (model prog w) A (compareOp .Eq ua ub) Q E s := by
  obtain ⟨x, y, rx, ry, cx, cy, rfl⟩ := eqD_some h
  obtain ⟨as, ra, da⟩ := reads_of sr _ _ _ _ rx ha
  obtain ⟨bs, rb, db⟩ := reads_of sr _ _ _ _ ry hb
  exact SeqAt.compareEq_shaped ra rb (shaped_of cx da) (shaped_of cy db) (by omega) (k.here sr (.bool _))

theorem p_ne {a b : V} {ua ub : Value} {r : Bool} (ha : VR β a ua) (hb : VR β b ub) (h : eqD H a b = some r) (hu : A.units + 100 < cLine) (k : Cont h₀ β s (.bool (!r)) H Q) (sr : SR h₀ β H s.heap) :
    wpAny (model prog w) A (compareOp .NotEq ua ub) Q E s := by
  obtain ⟨x, y, rx, ry, cx, cy, rfl⟩ := eqD_some h
  obtain ⟨as, ra, da⟩ := reads_of sr _ _ _ _ rx ha
  obtain ⟨bs, rb, db⟩ := reads_of sr _ _ _ _ ry hb
  exact SeqAt.compareNe_shaped ra rb (shaped_of cx da) (shaped_of cy db) (by omega) (k.here sr (.bool _))

theorem inD_some {x : V} {xs : List V} {r : Bool} (h : inD H x xs = some r) : ∃ d ds, readD 8 H x = some d ∧ xs.mapM (readD 8 H) = some ds ∧ d.canLay0 = true ∧ PyData.canLayAll0 ds = true ∧ r = ds.any fun y => PyData.eqv y d := by
  unfold inD at h
  split at h
  · rename_i d ds hd hds
    split at h
    · rename_i hc
      rw [Bool.and_eq_true] at hc
      exact ⟨d, ds, hd, hds, hc.1, hc.2, (Option.some.inj h).symm⟩
    · cases h
  · cases h

theorem readsSeq (sr : SR h₀ β H s.heap) {a : Nat} {r : Addr} {xs : List V} {ds : List PyData} (ha : seqOf H a = some xs) (hr : β[a]? = some r) (hds : xs.mapM (readD 8 H) = some ds) :
    ∃ as, (Reads s.heap (.ref r) (.list ds) as ∨ Reads s.heap (.ref r) (.tuple ds) as) ∧ PyData.depthAll ds ≤ 8 := by
  obtain ⟨us, n, ob, e, hc, hd, vr, _⟩ := sr.seq ha hr
  obtain ⟨as, ra, da⟩ := reads_all (reads_of sr 8) vr hds
  rcases hc with hc | hc
  · exact ⟨_, .inl (.list e hc hd (by simpa using ra)), da⟩
  · exact ⟨as, .inr (.tuple e hc hd (by simpa using ra)), da⟩

theorem p_in {x : V} {ux : Value} {a : Nat} {r : Addr} {xs : List V} {b : Bool} (hx : VR β x ux) (ha : seqOf H a = some xs) (hr : β[a]? = some r) (h : inD H x xs = some b) (hu : A.units + 100 < cLine)
    (k : Cont h₀ β s (.bool b) H Q) (sr : SR h₀ β H s.heap) : wpAny (model prog w) A (compareOp .In ux (.ref r)) Q E s := by
  obtain ⟨d, ds, hd, hds, c1, c2, rfl⟩ := inD_some h
  obtain ⟨bs, rx, dx⟩ := reads_of sr _ _ _ _ hd hx
  obtain ⟨as, rs, dd⟩ := readsSeq sr ha hr hds
  have hu' : A.units + 1 + min (PyData.depthAll ds) d.depth < cLine := by omega
  rcases rs with rs | rs
  · exact SeqAt.in_list_reads rs rx c2 c1 hu' (k.here sr (.bool _))
  · exact SeqAt.in_tuple_reads rs rx c2 c1 hu' (k.here sr (.bool _))
theorem p_notIn {x : V} {ux : Value} {a : Nat} {r : Addr} {xs : List V} {b : Bool} (hx : VR β x ux) (ha : seqOf H a = some xs) (hr : β[a]? = some r) (h : inD H x xs = some b) (hu : A.units + 100 < cLine)
    (k : Cont h₀ β s (.bool (!b)) H Q) (sr : SR h₀ β H s.heap) : wpAny (model prog w) A (compareOp .NotIn ux (.ref r)) Q E s := by
  obtain ⟨d, ds, hd, hds, c1, c2, rfl⟩ := inD_some h
  obtain ⟨bs, rx, dx⟩ := reads_of sr _ _ _ _ hd hx
  obtain ⟨as, rs, dd⟩ := readsSeq sr ha hr hds
  have hu' : A.units + 1 + min (PyData.depthAll ds) d.depth < cLine := by omega
  rcases rs with rs | rs
  · exact SeqAt.notIn_list_reads rs rx c2 c1 hu' (k.here sr (.bool _))
  · exact SeqAt.notIn_tuple_reads rs rx c2 c1 hu' (k.here sr (.bool _))

theorem p_isNone {v : V} {u : Value} (hv : VR β v u) (k : Cont h₀ β s (.bool (decide (v = .none))) H Q) (sr : SR h₀ β H s.heap) : wpAny (model prog w) A (compareOp .Is u .none) Q E s := by
  refine is_none ?_
  have : (u == Value.none) = decide (v = .none) := by cases hv <;> simp
  rw [this]; exact k.here sr (.bool _)
theorem p_isNotNone {v : V} {u : Value} (hv : VR β v u) (k : Cont h₀ β s (.bool (!decide (v = .none))) H Q) (sr : SR h₀ β H s.heap) : wpAny (model prog w) A (compareOp .IsNot u .none) Q E s := by
  refine isNot_none ?_
  have : (u == Value.none) = decide (v = .none) := by cases hv <;> simp
  rw [this]; exact k.here sr (.bool _)
theorem isSame_true {v : V} {u : Value} (hv : VR β v u) : PySem.isSame u (.bool true) = pure (u == .bool true) := by cases hv <;> rfl
theorem isSame_dec {v : V} {u : Value} (hv : VR β v u) : (u == Value.bool true) = decide (v = .bool true) := by
  cases hv with
  | bool b => cases b <;> rfl
  | _ => simp
theorem p_isTrue {v : V} {u : Value} (hv : VR β v u) (k : Cont h₀ β s (.bool (decide (v = .bool true))) H Q) (sr : SR h₀ β H s.heap) : wpAny (model prog w) A (compareOp .Is u (.bool true)) Q E s := by
  show wpAny (model prog w) A (do return .bool (← PySem.isSame u (.bool true))) Q E s
  rw [isSame_true hv, isSame_dec hv]; exact wpAny_bind (wpAny_pure (wpAny_pure (k.here sr (.bool _))))
theorem p_isNotTrue {v : V} {u : Value} (hv : VR β v u) (k : Cont h₀ β s (.bool (!decide (v = .bool true))) H Q) (sr : SR h₀ β H s.heap) : wpAny (model prog w) A (compareOp .IsNot u (.bool true)) Q E s := by
  show wpAny (model prog w) A (do return .bool (!(← PySem.isSame u (.bool true)))) Q E s
  rw [isSame_true hv, isSame_dec hv]; exact wpAny_bind (wpAny_pure (wpAny_pure (k.here sr (.bool _))))

noncomputable def plainTypes : List String := ["int", "bool", "list", "tuple", "str"]

theorem pl5 {P : String → Prop} (h1 : P "int") (h2 : P "bool") (h3 : P "list") (h4 : P "tuple") (h5 : P "str") {t : String} (ht : t ∈ plainTypes) : P t := by
  simp only [plainTypes, List.mem_cons, List.not_mem_nil, or_false] at ht
  rcases ht with rfl | rfl | rfl | rfl | rfl
  · exact h1
  · exact h2
  · exact h3
  · exact h4
  · exact h5
noncomputable def AskI (prog : Program) (w : World) (A : Around) (E : Value → Shared → Prop) (s : Shared) (Q : Value → Shared → Prop) (ts : List String) (u : Value) (t : String) : Prop :=
  (ts.contains t = true → Q (.bool true) s) → (ts.contains t = false → Q (.bool false) { s with toks := s.toks + 1 }) → wpAny (model prog w) A (call (.builtin "isinstance") [u, .type t]) Q E s
theorem isInst_one {v : V} {t : String} {H : Hp} {b : Bool} (h : isInst v [t] H = some b) : isObj v H = false ∧ b = (typesOf v H).contains t := by
  unfold isInst at h
  split at h
  · cases h
  · rename_i q
    rw [List.any_cons, List.any_nil, Bool.or_false] at h
    exact ⟨by simpa using q, (Option.some.inj h).symm⟩
theorem ask_list {r : Addr} {ob : Obj} (e : s.heap.get? r = some ob) (c : ob.cls = .type "list") {t : String} (ht : t ∈ plainTypes) : AskI prog w A E s Q ["list"] (.ref r) t :=
  pl5 (fun _ n => IsiPair.list_int e c (n rfl)) (fun _ n => IsiPair.list_bool e c (n rfl)) (fun y _ => IsiPair.list_list e c (y rfl)) (fun _ n => IsiPair.list_tuple e c (n rfl)) (fun _ n => IsiPair.list_str e c (n rfl)) ht
theorem ask_tuple {r : Addr} {ob : Obj} (e : s.heap.get? r = some ob) (c : ob.cls = .type "tuple") {t : String} (ht : t ∈ plainTypes) : AskI prog w A E s Q ["tuple"] (.ref r) t :=
  pl5 (fun _ n => IsiPair.tuple_int e c (n rfl)) (fun _ n => IsiPair.tuple_bool e c (n rfl)) (fun _ n => IsiPair.tuple_list e c (n rfl)) (fun y _ => IsiPair.tuple_tuple e c (y rfl)) (fun _ n => IsiPair.tuple_str e c (n rfl)) ht
theorem ask_dict {r : Addr} {ob : Obj} (e : s.heap.get? r = some ob) (c : ob.cls = .type "dict") {t : String} (ht : t ∈ plainTypes) : AskI prog w A E s Q [] (.ref r) t :=
  pl5 (fun _ n => IsiPair.dict_int e c (n rfl)) (fun _ n => IsiPair.dict_bool e c (n rfl)) (fun _ n => IsiPair.dict_list e c (n rfl)) (fun _ n => IsiPair.dict_tuple e c (n rfl)) (fun _ n => IsiPair.dict_str e c (n rfl)) ht
theorem p_isinst {v : V} {u : Value} {t : String} {b : Bool} (hb : isInst v [t] H = some b) (hv : VR β v u) (ht : t ∈ plainTypes) (k : Cont h₀ β s (.bool b) H Q) (sr : SR h₀ β H s.heap) :
    wpAny (model prog w) A (call (.builtin "isinstance") [u, .type t]) Q E s := by
  obtain ⟨hno, hb⟩ := isInst_one hb
  rw [hb] at k
  have fin : ∀ ts, typesOf v H = ts → AskI prog w A E s Q ts u t → wpAny (model prog w) A (call (.builtin "isinstance") [u, .type t]) Q E s := fun ts e a => by
    rw [e] at k
    exact a (fun q => by have := k.here sr (.bool _); rw [q] at this; exact this) (fun q => by have := k.same (t := s.toks + 1) sr (.bool _); rw [q] at this; exact this)
  cases hv with
  | none => exact fin _ rfl (pl5 (P := AskI prog w A E s Q [] .none) (fun _ n => IsiPair.NoneType_int (n rfl)) (fun _ n => IsiPair.NoneType_bool (n rfl)) (fun _ n => IsiPair.NoneType_list (n rfl)) (fun _ n => IsiPair.NoneType_tuple (n rfl)) (fun _ n => IsiPair.NoneType_str (n rfl)) ht)
  | bool b => exact fin _ rfl (pl5 (P := AskI prog w A E s Q ["bool", "int"] (.bool b)) (fun y _ => IsiPair.bool_int (y rfl)) (fun y _ => IsiPair.bool_bool (y rfl)) (fun _ n => IsiPair.bool_list (n rfl)) (fun _ n => IsiPair.bool_tuple (n rfl)) (fun _ n => IsiPair.bool_str (n rfl)) ht)
  | int i tk => exact fin _ rfl (pl5 (P := AskI prog w A E s Q ["int"] (.int i tk)) (fun y _ => IsiPair.int_int (y rfl)) (fun _ n => IsiPair.int_bool (n rfl)) (fun _ n => IsiPair.int_list (n rfl)) (fun _ n => IsiPair.int_tuple (n rfl)) (fun _ n => IsiPair.int_str (n rfl)) ht)
  | str x tk => exact fin _ rfl (pl5 (P := AskI prog w A E s Q ["str"] (.str x tk)) (fun _ n => IsiPair.str_int (n rfl)) (fun _ n => IsiPair.str_bool (n rfl)) (fun _ n => IsiPair.str_list (n rfl)) (fun _ n => IsiPair.str_tuple (n rfl)) (fun y _ => IsiPair.str_str (y rfl)) ht)
  | @ref a r hr =>
    have hlt : a < H.length := by rw [sr.len]; exact (List.getElem?_eq_some_iff.mp hr).1
    obtain ⟨o, ho⟩ : ∃ o, H[a]? = some o := ⟨_, List.getElem?_eq_getElem hlt⟩
    obtain ⟨r', e', sl⟩ := sr.at ho
    rw [hr] at e'; cases e'
    cases sl with
    | frozen f0 b c d l => exact fin _ (by unfold typesOf; dsimp only; rw [ho]) (ask_list (sr.kept _ _ f0) b ht)
    | dict f0 f1 b d _ _ =>
      obtain ⟨_, _, hx, _⟩ := d prog w
      exact fin _ (by unfold typesOf; dsimp only; rw [ho]) (ask_dict b hx.1 ht)
    | inst _ _ _ _ _ _ _ _ _ => unfold isObj at hno; dsimp only at hno; rw [ho] at hno; cases hno
    | fdict _ _ _ => unfold isObj at hno; dsimp only at hno; rw [ho] at hno; cases hno
    | own f0 b c =>
      cases c with
      | list p q => exact fin _ (by unfold typesOf; dsimp only; rw [ho]) (ask_list b rfl ht)
      | tuple p q => exact fin _ (by unfold typesOf; dsimp only; rw [ho]) (ask_tuple b rfl ht)

theorem Cont.newAt {o : O} {ob : Obj} {t : Nat} {h' : Heap} {r : Addr} (k : Cont h₀ β s (.ref H.length) (H ++ [o]) Q) (sr : SR h₀ β H s.heap) (hn : s.heap.get? r = Option.none) (hk : ∀ b o, s.heap.get? b = some o → h'.get? b = some o)
    (hg : h'.get? r = some ob) (ho : OR β o ob) : Q (.ref r) { s with heap := h', toks := t } := by
  have hp : β <+: β ++ [r] := List.prefix_append _ _
  refine k _ _ (β ++ [r]) ⟨⟨_, _, rfl⟩, hp, fun b _ => .of fun o e => hk b o e, fun b hb => ?_⟩ (sr.push hn hk hg (ho.mono hp)) (.ref ?_)
  · rcases List.mem_append.mp hb with q | q
    · exact .inl q
    · simp at q; subst q; exact .inr hn
  · rw [sr.len]; simp

theorem get_none_of_le {h : Heap} {a : Addr} (ha : h.objs.size ≤ a) : h.get? a = Option.none := by
  cases e : h.get? a with
  | none => rfl
  | some o => exact absurd (Heap.lt_size e) (Nat.not_lt.mpr ha)

theorem p_tuple {a : Nat} {r : Addr} {xs : List V} (ha : listOf? H a = some xs) (hr : β[a]? = some r) (k : Cont h₀ β s (.ref H.length) (H ++ [.tuple xs]) Q) (sr : SR h₀ β H s.heap) :
    wpAny (model prog w) A (call (.type "tuple") [.ref r]) Q E s := by
  obtain ⟨us, n, _, e, vr, hl⟩ := sr.list (listOf_some ha) hr
  refine call_tuple_list (items := us.toArray) ⟨_, e, rfl, n, rfl⟩ (fun h' hk => Cont.newAt (t := s.toks) k sr ?_ (fun b o q => Heap.get?_push_of_some _ (hk b o q)) (Heap.get?_push_size _ rfl) (.tuple vr hl)) (by rw [List.size_toArray, ← vr.length]; exact lim_line _ hl)
  cases q : s.heap.get? h'.objs.size with
  | none => rfl
  | some o => exact absurd (Heap.lt_size (hk _ _ q)) (Nat.lt_irrefl _)
theorem p_list {a : Nat} {r : Addr} {xs : List V} (ha : seqOf H a = some xs) (hr : β[a]? = some r) (k : Cont h₀ β s (.ref H.length) (H ++ [.list xs]) Q) (sr : SR h₀ β H s.heap) :
    wpAny (model prog w) A (call (.type "list") [.ref r]) Q E s := by
  obtain ⟨us, n, ob, e, hc, hd, vr, hl⟩ := sr.seq ha hr
  have hlen := vr.length
  have fin : ∀ h' c', (∀ b o', s.heap.get? b = some o' → h'.get? b = some o') → h'.get? s.heap.objs.size = some { cls := .type "list", dict := none, data := .seq us.toArray c', slots := #[] } → Q (.ref s.heap.objs.size) { s with heap := h' } :=
    fun h' c' hk hg => Cont.newAt (t := s.toks) k sr (get_none_of_le (Nat.le_refl _)) hk hg (.list vr hl)
  have hsz : us.toArray.size ≤ sizeLine := by rw [List.size_toArray, ← hlen]; exact lim_line _ hl
  rcases hc with hc | hc
  · exact call_list_seq r (T := "list") (.inl rfl) e hc hd fin hsz
  · exact call_list_seq r (T := "tuple") (.inr rfl) e hc hd fin hsz

theorem p_index {a : Nat} {r : Addr} {xs : List V} {is : List Int} {i : Int} {t : Tok} (ha : H[a]? = some (.list xs)) (hr : β[a]? = some r) (hi : xs.mapM asInt = some is) (hm : i ∈ is)
    (k : Cont h₀ β s (.int (is.idxOf i : Nat)) H Q) (sr : SR h₀ β H s.heap) : wpAny (model prog w) A (call (.builtin "list.index") [.ref r, .int i t]) Q E s := by
  obtain ⟨us, n, hn, e, vr, hl⟩ := sr.list ha hr
  have hints : ∀ {xs : List V} {us : List Value} {is : List Int}, VRs β xs us → xs.mapM asInt = some is → All2 (fun i u => ∃ t, u = Value.int i t) is us := by
    intro xs us is hv
    induction hv generalizing is with
    | nil => intro h; rw [mapM_nil_some h]; exact .nil
    | cons h _ ih =>
      intro hm
      obtain ⟨y, q, h1, h2, rfl⟩ := mapM_cons_some hm
      cases h with
      | int j tk => simp [asInt] at h1; subst h1; exact .cons ⟨tk, rfl⟩ (ih h2)
      | _ => simp [asInt] at h1
  have hI := hints vr hi
  have hlen := vr.length
  have hlenI := hI.length
  have hidx : is.idxOf i < is.length := List.idxOf_lt_length_of_mem hm
  have hfit := lim_lt _ hl
  let eq : Value → Bool := fun y => match y with | .int j _ => j == i | _ => false
  have at_ : ∀ m (hm : m < us.toArray.size), ∃ tk, us.toArray[m] = .int (is[m]'(by rw [hlenI]; simpa using hm)) tk := by
    intro m hm
    have hm' : m < us.length := by simpa using hm
    obtain ⟨q, hq, tk, hu⟩ := hI.get' (List.getElem?_eq_getElem hm')
    have : is[m]'(by rw [hlenI]; exact hm') = q := by
      have := List.getElem?_eq_getElem (l := is) (i := m) (by rw [hlenI]; exact hm')
      rw [hq] at this; exact (Option.some.inj this).symm
    exact ⟨tk, by simp [this, hu]⟩
  refine call_meets F.slot_list_index ⟨_, e, rfl⟩ F.entry_list_index (F.args_list_index_2 _ _) (MeetsSeq.list_index r us.toArray n (.int i t) eq (fun y hy => ?_) (is.idxOf i) (by simp; omega) (by omega) ?_ ?_) ⟨e, k.same sr (.int _ _)⟩
  · obtain ⟨m, hm, rfl⟩ := Array.mem_iff_getElem.mp hy
    obtain ⟨tk, hu⟩ := at_ m hm
    rw [hu]; exact MeetsSeq.EqGives.int _ _ _ _
  · obtain ⟨tk, hu⟩ := at_ (is.idxOf i) (by simp; omega)
    rw [hu]; simp [eq]
  · intro m hm hlt
    obtain ⟨tk, hu⟩ := at_ m hm
    rw [hu]
    have : is[m]'(by rw [hlenI]; simpa using hm) ≠ i := fun q => by
      have := List.not_of_lt_findIdx (p := (· == i)) (xs := is) (i := m) hlt
      simp [q] at this
    simpa [eq] using this

end
end Mine

namespace Mine
open PySem

noncomputable def cmpOf : Cmp → CmpOp
  | .eq => .Eq | .ne => .NotEq | .lt => .Lt | .le => .LtE | .gt => .Gt | .ge => .GtE | .is_ => .Is | .isNot => .IsNot | .in_ => .In | .notIn => .NotIn
noncomputable def binOf : Bin → Operator
  | .add => .Add | .sub => .Sub | .mul => .Mult | .mod => .Mod | .fdiv => .FloorDiv

noncomputable def isVar (sc : Scope) (x : Str) : Bool := match sc.names.lookup x with
  | some .local | some .cell | some .free => x != (".0" : Str) && x != ("__debug__" : Str) && x != ("__classdict__" : Str)
  | _ => false
noncomputable def isGlb (sc : Scope) (x : Str) : Bool := match sc.names.lookup x with
  | some .globalImplicit => x != ("__debug__" : Str)
  | _ => false
noncomputable def methName : Prim → Option String
  | .append => some "append" | .pop => some "pop" | .index => some "index"
  | _ => none

noncomputable def isSlice : Expr → Bool
  | .Slice .. => true
  | _ => false

inductive OpA (sc : Scope) : Prim → Expr → List Expr → Prop where
  | bin (o : Bin) {l r : Expr} {p : Pos} : OpA sc (.bin o) (.BinOp l (binOf o) r p) [l, r]
  | neg {x : Expr} {p : Pos} : OpA sc .neg (.UnaryOp .USub x p) [x]
  | cmp (o : Cmp) {l r : Expr} {p : Pos} : behindInMarks (cmpOf o) r = false → OpA sc (.cmp o) (.Compare l [cmpOf o] [r] p) [l, r]
  | len {xs : List Expr} {p pos : Pos} : isGlb sc (Str.ofString "len") = true → OpA sc .len (.Call (.Name (Str.ofString "len") p) xs [] pos) xs
  | list {xs : List Expr} {p pos : Pos} : isGlb sc (Str.ofString "list") = true → OpA sc .list (.Call (.Name (Str.ofString "list") p) xs [] pos) xs
  | attr {x : Str} {n : String} {xp pos : Pos} : n ∈ attrNames → OpA sc (.attr n) (.Attribute (.Name x xp) (Str.ofString n) pos) [.Name x xp]
  | tuple {xs : List Expr} {p pos : Pos} : isGlb sc (Str.ofString "tuple") = true → OpA sc .tuple (.Call (.Name (Str.ofString "tuple") p) xs [] pos) xs
  | isinst (t : String) {x : Expr} {p p' pos : Pos} : isGlb sc (Str.ofString "isinstance") = true → isGlb sc (Str.ofString t) = true → t ∈ plainTypes → OpA sc (.isinst [t]) (.Call (.Name (Str.ofString "isinstance") p) [x, .Name (Str.ofString t) p'] [] pos) [x]
  | item {v i : Expr} {p : Pos} : isSlice i = false → OpA sc .item (.Subscript v i p) [v, i]
  | sliceTo {v u : Expr} {p pos : Pos} : OpA sc (.slice false true) (.Subscript v (.Slice none (some u) none p) pos) [v, u]
  | sliceFrom {v u : Expr} {p pos : Pos} : OpA sc (.slice true false) (.Subscript v (.Slice (some u) none none p) pos) [v, u]
  | sliceBoth {v l u : Expr} {p pos : Pos} : OpA sc (.slice true true) (.Subscript v (.Slice (some l) (some u) none p) pos) [v, l, u]
  | mkList {xs : List Expr} {p : Pos} : OpA sc .mkList (.List xs p) xs
  | mkTuple {xs : List Expr} {b : Nat} {p : Pos} : OpA sc .mkTuple (.Tuple xs b p) xs
  | listRange {xs : List Expr} {p p' cp pos : Pos} : isGlb sc (Str.ofString "list") = true → isGlb sc (Str.ofString "range") = true → OpA sc .listRange (.Call (.Name (Str.ofString "list") p) [.Call (.Name (Str.ofString "range") p') xs [] cp] [] pos) xs
  | int {xs : List Expr} {p pos : Pos} : isGlb sc (Str.ofString "int") = true → OpA sc .int (.Call (.Name (Str.ofString "int") p) xs [] pos) xs
  | mkDict {p : Pos} : OpA sc .mkDict (.Dict [] [] p) []

noncomputable def opA? (sc : Scope) (p : Prim) (x : Expr) : Option { xs : List Expr // OpA sc p x xs } := match p, x with
  | .bin o, .BinOp l op r _ => if h : op = binOf o then some ⟨[l, r], by subst h; exact .bin o⟩ else none
  | .neg, .UnaryOp .USub y _ => some ⟨[y], .neg⟩
  | .cmp o, .Compare l [op] [r] _ => if h : op = cmpOf o ∧ behindInMarks (cmpOf o) r = false then some ⟨[l, r], by obtain ⟨rfl, h⟩ := h; exact .cmp o h⟩ else none
  | .len, .Call (.Name id _) xs [] _ => if h : id = Str.ofString "len" ∧ isGlb sc (Str.ofString "len") = true then some ⟨xs, by obtain ⟨rfl, h⟩ := h; exact .len h⟩ else none
  | .list, .Call (.Name id _) xs [] _ => if h : id = Str.ofString "list" ∧ isGlb sc (Str.ofString "list") = true then some ⟨xs, by obtain ⟨rfl, h⟩ := h; exact .list h⟩ else none
  | .attr n, .Attribute (.Name x xp) y _ => if h : y = Str.ofString n ∧ n ∈ attrNames then some ⟨[.Name x xp], by obtain ⟨rfl, h⟩ := h; exact .attr h⟩ else none
  | .tuple, .Call (.Name id _) xs [] _ => if h : id = Str.ofString "tuple" ∧ isGlb sc (Str.ofString "tuple") = true then some ⟨xs, by obtain ⟨rfl, h⟩ := h; exact .tuple h⟩ else none
  | .isinst [t], .Call (.Name id _) [y, .Name id' _] [] _ => if h : id = Str.ofString "isinstance" ∧ id' = Str.ofString t ∧ isGlb sc (Str.ofString "isinstance") = true ∧ isGlb sc (Str.ofString t) = true ∧ t ∈ plainTypes then some ⟨[y], by obtain ⟨rfl, rfl, h1, h2, h3⟩ := h; exact .isinst t h1 h2 h3⟩ else none
  | .item, .Subscript v i _ => if h : isSlice i = false then some ⟨[v, i], .item h⟩ else none
  | .slice false true, .Subscript v (.Slice none (some u) none _) _ => some ⟨[v, u], .sliceTo⟩
  | .slice true false, .Subscript v (.Slice (some u) none none _) _ => some ⟨[v, u], .sliceFrom⟩
  | .slice true true, .Subscript v (.Slice (some l) (some u) none _) _ => some ⟨[v, l, u], .sliceBoth⟩
  | .mkList, .List xs _ => some ⟨xs, .mkList⟩
  | .mkTuple, .Tuple xs _ _ => some ⟨xs, .mkTuple⟩
  | .listRange, .Call (.Name id _) [.Call (.Name id' _) xs [] _] [] _ => if h : (id = Str.ofString "list" ∧ id' = Str.ofString "range") ∧ isGlb sc (Str.ofString "list") = true ∧ isGlb sc (Str.ofString "range") = true then some ⟨xs, by obtain ⟨⟨rfl, rfl⟩, h, h'⟩ := h; exact .listRange h h'⟩ else none
  | .int, .Call (.Name id _) xs [] _ => if h : id = Str.ofString "int" ∧ isGlb sc (Str.ofString "int") = true then some ⟨xs, by obtain ⟨rfl, h⟩ := h; exact .int h⟩ else none
  | .mkDict, .Dict [] [] _ => some ⟨[], .mkDict⟩
  | _, _ => none

noncomputable def compOk (sc scope : Scope) (xs : List Str) : Bool :=
  decide (scope.kind = .function) && xs.all (fun x => scope.names.lookup x == some .local && x != (".0" : Str)) &&
  scope.names.all fun nk => match nk.2 with
    | .local => (xs.contains nk.1 || nk.1 == (".0" : Str)) && scope.names.lookup nk.1 == some .local
    | .free => (match sc.names.lookup nk.1 with | some .cell | some .free => true | _ => false)
    | .globalImplicit => true
    | _ => false

noncomputable def plainBase : Expr → Bool
  | .Call (.Name _ _) [] [] _ => false
  | _ => true

mutual
inductive ME (fs : Tab) : Scope → E → Expr → Prop where
  | none {sc : Scope} {k : Nat} {p : Pos} : ME fs sc .none (.Constant .none k p)
  | bool {sc : Scope} {b : Bool} {k : Nat} {p : Pos} : ME fs sc (.bool b) (.Constant (.bool b) k p)
  | int {sc : Scope} {i : Int} {k : Nat} {p : Pos} : ME fs sc (.int i) (.Constant (.int i) k p)
  | str {sc : Scope} {x : String} {k : Nat} {p : Pos} : ME fs sc (.str x) (.Constant (.str (Str.ofString x)) k p)
  | var {sc : Scope} {x : String} {p : Pos} : isVar sc (Str.ofString x) = true → ME fs sc (.var x) (.Name (Str.ofString x) p)
  | glob {sc : Scope} {x : String} {p : Pos} : isGlb sc (Str.ofString x) = true → ME fs sc (.glob x) (.Name (Str.ofString x) p)
  | op {sc : Scope} {p : Prim} {args : List E} {x : Expr} {xs : List Expr} : OpA sc p x xs → MEs fs sc args xs → ME fs sc (.op p args) x
  | mcall {sc : Scope} {p : Prim} {m : String} {o : E} {o' x1 : Expr} {args : List E} {apos pos : Pos} : methName p = some m → (apos.endLine == pos.line) = true → plainBase o' = true → ME fs sc o o' → MEs fs sc args [x1] →
      ME fs sc (.mcall p o args) (.Call (.Attribute o' (Str.ofString m) apos) [x1] [] pos)
  | and_ {sc : Scope} {es : List E} {x : Expr} {xs : List Expr} {p : Pos} : MEs fs sc es (x :: xs) → ME fs sc (.and_ es) (.BoolOp .And (x :: xs) p)
  | or_ {sc : Scope} {es : List E} {x : Expr} {xs : List Expr} {p : Pos} : MEs fs sc es (x :: xs) → ME fs sc (.or_ es) (.BoolOp .Or (x :: xs) p)
  | not_ {sc : Scope} {e : E} {x : Expr} {p : Pos} : ME fs sc e x → ME fs sc (.not_ e) (.UnaryOp .Not x p)
  | ife {sc : Scope} {c a b : E} {t x y : Expr} {p : Pos} : ME fs sc c t → ME fs sc a x → ME fs sc b y → ME fs sc (.ife c a b) (.IfExp t x y p)
  | chain {sc : Scope} {a b c : E} {o o' : Cmp} {l r r' : Expr} {p : Pos} : behindInMarks (cmpOf o) r = false → behindInMarks (cmpOf o') r' = false → ME fs sc a l → ME fs sc b r → ME fs sc c r' →
      ME fs sc (.chain a o b o' c) (.Compare l [cmpOf o, cmpOf o'] [r, r'] p)
  | call {sc : Scope} {f : String} {args : List E} {xs : List Expr} {p pos : Pos} : f ∈ fs.fns → isGlb sc (Str.ofString f) = true → MEs fs sc args xs → ME fs sc (.call f args) (.Call (.Name (Str.ofString f) p) xs [] pos)
  | newX {sc : Scope} {c : String} {args : List E} {x : Expr} {xs : List Expr} {p pos : Pos} : c ∈ fs.cls → isGlb sc (Str.ofString c) = true → MEs fs sc args (x :: xs) → ME fs sc (.newX c args) (.Call (.Name (Str.ofString c) p) (x :: xs) [] pos)
  | new {sc : Scope} {args : List E} {x : Expr} {xs : List Expr} {p pos : Pos} : ("Inn", "__init__") ∈ fs.meths → isGlb sc (Str.ofString "Inn") = true → MEs fs sc args (x :: xs) → ME fs sc (.new "Inn" args) (.Call (.Name (Str.ofString "Inn") p) (x :: xs) [] pos)
  | meth {sc : Scope} {m : String} {o : E} {o' : Expr} {args : List E} {xs : List Expr} {apos pos : Pos} : m ∈ methNames → ("Inn", m) ∈ fs.meths → (apos.endLine == pos.line) = true → plainBase o' = true → xs.length < 29 → ME fs sc o o' → MEs fs sc args xs →
      ME fs sc (.meth m o args) (.Call (.Attribute o' (Str.ofString m) apos) xs [] pos)
  | compR {sc scope : Scope} {elt : E} {x : String} {args conds : List E} {el : Expr} {xs ifs : List Expr} {tp gp cp pos : Pos} : isGlb sc (Str.ofString "range") = true → compOk sc scope [Str.ofString x] = true → ifs.length ≤ 1 →
      MEs fs sc args xs → ME fs scope elt el → MEs fs scope conds ifs → ME fs sc (.compR elt x args conds) (.ListComp el [⟨.Name (Str.ofString x) tp, .Call (.Name (Str.ofString "range") gp) xs [] cp, ifs, 0⟩] scope pos)
  | compS {sc scope : Scope} {elt src : E} {x : String} {conds : List E} {el it : Expr} {ifs : List Expr} {tp pos : Pos} : compOk sc scope [Str.ofString x] = true → ifs.length ≤ 1 →
      ME fs sc src it → ME fs scope elt el → MEs fs scope conds ifs → ME fs sc (.compS elt (.one x) src conds) (.ListComp el [⟨.Name (Str.ofString x) tp, it, ifs, 0⟩] scope pos)
inductive MEs (fs : Tab) : Scope → List E → List Expr → Prop where
  | nil {sc : Scope} : MEs fs sc [] []
  | cons {sc : Scope} {e : E} {es : List E} {x : Expr} {xs : List Expr} : ME fs sc e x → MEs fs sc es xs → MEs fs sc (e :: es) (x :: xs)
end

noncomputable abbrev Ok (p : Prop) := Option (PLift p)
noncomputable def o1 {p r : Prop} (a : Ok p) (f : p → r) : Ok r := a.map fun h => ⟨f h.down⟩
noncomputable def o2 {p q r : Prop} (a : Ok p) (b : Ok q) (f : p → q → r) : Ok r := a.bind fun h => b.map fun k => ⟨f h.down k.down⟩
noncomputable def o3 {p q t r : Prop} (a : Ok p) (b : Ok q) (c : Ok t) (f : p → q → t → r) : Ok r := a.bind fun h => b.bind fun k => c.map fun l => ⟨f h.down k.down l.down⟩
noncomputable def oif {r : Prop} (c : Prop) [Decidable c] (f : c → Ok r) : Ok r := if h : c then f h else none

mutual
noncomputable def chkE (fs : Tab) (sc : Scope) : (e : E) → (x : Expr) → Ok (ME fs sc e x)
  | .none, .Constant .none _ _ => some ⟨.none⟩
  | .bool b, .Constant (.bool c) _ _ => oif (b = c) fun h => some ⟨by subst h; exact .bool⟩
  | .int b, .Constant (.int c) _ _ => oif (b = c) fun h => some ⟨by subst h; exact .int⟩
  | .str b, .Constant (.str c) _ _ => oif (c = Str.ofString b) fun h => some ⟨by subst h; exact .str⟩
  | .var x, .Name id _ => oif (id = Str.ofString x ∧ isVar sc (Str.ofString x) = true) fun h => some ⟨by obtain ⟨rfl, h⟩ := h; exact .var h⟩
  | .glob x, .Name id _ => oif (id = Str.ofString x ∧ isGlb sc (Str.ofString x) = true) fun h => some ⟨by obtain ⟨rfl, h⟩ := h; exact .glob h⟩
  | .op p args, x => (opA? sc p x).bind fun xs => o1 (chkEs fs sc args xs.1) fun h => .op xs.2 h
  | .mcall p o args, .Call (.Attribute o' name apos) [x1] [] pos => (match hm : methName p with
    | some m => oif (name = Str.ofString m ∧ (apos.endLine == pos.line) = true ∧ plainBase o' = true) fun h => o2 (chkE fs sc o o') (chkEs fs sc args [x1]) fun h1 h2 => by obtain ⟨rfl, a, b⟩ := h; exact .mcall hm a b h1 h2
    | none => none)
  | .and_ es, .BoolOp .And (x :: xs) _ => o1 (chkEs fs sc es (x :: xs)) .and_
  | .or_ es, .BoolOp .Or (x :: xs) _ => o1 (chkEs fs sc es (x :: xs)) .or_
  | .not_ e, .UnaryOp .Not x _ => o1 (chkE fs sc e x) .not_
  | .ife c a b, .IfExp t x y _ => o3 (chkE fs sc c t) (chkE fs sc a x) (chkE fs sc b y) .ife
  | .chain a o b o' c, .Compare l [p, p'] [r, r'] _ => oif ((p = cmpOf o ∧ p' = cmpOf o') ∧ behindInMarks (cmpOf o) r = false ∧ behindInMarks (cmpOf o') r' = false) fun h => o3 (chkE fs sc a l) (chkE fs sc b r) (chkE fs sc c r') fun h1 h2 h3 => by
      obtain ⟨⟨rfl, rfl⟩, h, h'⟩ := h; exact .chain h h' h1 h2 h3
  | .call f args, .Call (.Name id _) xs [] _ => oif ((id = Str.ofString f ∧ f ∈ fs.fns) ∧ isGlb sc (Str.ofString f) = true) fun h => o1 (chkEs fs sc args xs) fun h1 => by obtain ⟨⟨rfl, h⟩, h'⟩ := h; exact .call h h' h1
  | .newX c args, .Call (.Name id _) (x :: xs) [] _ => oif ((id = Str.ofString c ∧ c ∈ fs.cls) ∧ isGlb sc (Str.ofString c) = true) fun h => o1 (chkEs fs sc args (x :: xs)) fun h1 => by obtain ⟨⟨rfl, h⟩, h'⟩ := h; exact .newX h h' h1
  | .new c args, .Call (.Name id _) (x :: xs) [] _ => oif ((c = "Inn" ∧ id = Str.ofString "Inn") ∧ ("Inn", "__init__") ∈ fs.meths ∧ isGlb sc (Str.ofString "Inn") = true) fun h => o1 (chkEs fs sc args (x :: xs)) fun h1 => by obtain ⟨⟨rfl, rfl⟩, a, b⟩ := h; exact .new a b h1
  | .meth m o args, .Call (.Attribute o' name apos) xs [] pos => oif (name = Str.ofString m ∧ m ∈ methNames ∧ ("Inn", m) ∈ fs.meths ∧ (apos.endLine == pos.line) = true ∧ plainBase o' = true ∧ xs.length < 29) fun h => o2 (chkE fs sc o o') (chkEs fs sc args xs) fun h1 h2 => by obtain ⟨rfl, a, b, c, d, e⟩ := h; exact .meth a b c d e h1 h2
  | .compR elt x args conds, .ListComp el [⟨.Name t _, .Call (.Name g _) xs [] _, ifs, 0⟩] scope _ => oif ((t = Str.ofString x ∧ g = Str.ofString "range") ∧ isGlb sc (Str.ofString "range") = true ∧ compOk sc scope [Str.ofString x] = true ∧ ifs.length ≤ 1) fun h =>
      o3 (chkEs fs sc args xs) (chkE fs scope elt el) (chkEs fs scope conds ifs) fun h1 h2 h3 => by obtain ⟨⟨rfl, rfl⟩, a, b, c⟩ := h; exact .compR a b c h1 h2 h3
  | .compS elt (.one x) src conds, .ListComp el [⟨.Name t _, it, ifs, 0⟩] scope _ => oif (t = Str.ofString x ∧ compOk sc scope [Str.ofString x] = true ∧ ifs.length ≤ 1) fun h =>
      o3 (chkE fs sc src it) (chkE fs scope elt el) (chkEs fs scope conds ifs) fun h1 h2 h3 => by obtain ⟨rfl, b, c⟩ := h; exact .compS b c h1 h2 h3
  | _, _ => none
noncomputable def chkEs (fs : Tab) (sc : Scope) : (es : List E) → (xs : List Expr) → Ok (MEs fs sc es xs)
  | [], [] => some ⟨.nil⟩
  | e :: es, x :: xs => o2 (chkE fs sc e x) (chkEs fs sc es xs) .cons
  | _, _ => none
end

noncomputable def kcls : Option NameKind → Nat
  | some .local => 1
  | some .cell | some .free => 2
  | some .globalImplicit => 3
  | _ => 0

noncomputable def ScR (sc : Scope) (env : PySem.Env) : Prop := ∀ x : Str, kcls (env.kindOf x) = kcls (sc.names.lookup x)

structure Amb (n : Nat) (A : Around) : Prop where
  handled : A.handled = none
  depth : A.depth + 2 * n + 1 < 900
  units : A.units + 20 * n + 10 < 9000
structure AmbC (n : Nat) (A : Around) : Prop where
  handled : A.handled = none
  depth : A.depth + 2 * n < 900
  units : A.units + 20 * n < 9000
theorem Amb.c {n : Nat} {A : Around} (a : Amb n A) : AmbC n A := ⟨a.handled, by have := a.depth; omega, by have := a.units; omega⟩

noncomputable def bltn : String → Option Value
  | "len" => some (.builtin "len")
  | "isinstance" => some (.builtin "isinstance")
  | "list" => some (.type "list")
  | "tuple" => some (.type "tuple")
  | "range" => some (.type "range")
  | "int" => some (.type "int")
  | "bool" => some (.type "bool")
  | "str" => some (.type "str")
  | "min" => some (.builtin "min")
  | "any" => some (.builtin "any")
  | "sum" => some (.builtin "sum")
  | "ValueError" => some (.type "ValueError")
  | _ => none

noncomputable def excBm : List Value := [.type "ValueError", .type "Exception", .type "BaseException", .type "object"]

noncomputable def MethAt (mg : Str → Option Value) (h : Heap) (c m : String) (r : Addr) : Prop :=
  ∃ C N mN o, mg (Str.ofString c) = some (.ref C) ∧ PyProof.Rows.ClsAt h C N mN ∧ mN (Str.ofString m) = some (.ref r) ∧ h.get? r = some o ∧ o.cls = .type "function"
noncomputable def InitAt (mg : Str → Option Value) (h : Heap) (c : String) (r : Addr) : Prop := MethAt mg h c "__init__" r
inductive InnOk (mg : Str → Option Value) (h : Heap) : Prop
  | mk (C N : Addr) (mN : Str → Option Value) : mg (Str.ofString "Inn") = some (.ref C) → PyProof.Rows.ClsAt h C N mN → (mN "__setattr__" = none ∧ mN "__getattribute__" = none ∧ mN "__getattr__" = none) → (∀ n ∈ attrNames, mN (Str.ofString n) = none) →
      (∀ m ∈ methNames, ∃ f o fd, mN (Str.ofString m) = some (.ref f) ∧ h.get? f = some o ∧ o.cls = .type "function" ∧ o.data = .func fd) → InnOk mg h
theorem InnOk.keeps {mg : Str → Option Value} {h h' : Heap} (x : InnOk mg h) (hk : ∀ b o, h.get? b = some o → h'.get? b = some o) : InnOk mg h' :=
  let ⟨C, N, mN, a, b, c, d, e⟩ := x; ⟨C, N, mN, a, b.keeps hk, c, d, fun m hm => let ⟨f, o, fd, p, q, r, t⟩ := e m hm; ⟨f, o, fd, p, hk _ _ q, r, t⟩⟩
theorem InitAt.keeps {mg : Str → Option Value} {h h' : Heap} {c : String} {r : Addr} (x : InitAt mg h c r) (hk : ∀ b o, h.get? b = some o → h'.get? b = some o) : InitAt mg h' c r :=
  let ⟨C, N, mN, o, a, X, b, d, e⟩ := x; ⟨C, N, mN, o, a, X.keeps hk, b, hk _ _ d, e⟩
noncomputable def mroAt (h : Heap) (a : Addr) : Option (List Value) := (h.get? a).bind fun o => match o.data with | .cls cd => some cd.mro | _ => none
noncomputable def nsAt (h : Heap) (a : Addr) (x : Str) : Option Value := (h.get? a).bind fun o => match o.data with | .dict es _ => nsFind es x | _ => none
noncomputable def isNs (h : Heap) (a : Addr) : Bool := match h.get? a with | some o => (match o.data with | .dict _ _ => true | _ => false) | none => false
noncomputable def plainAt (h : Heap) (a : Addr) : Bool := match h.get? a with
  | some o => (match o.data with | .cls cd => isNs h cd.ns && (nsAt h cd.ns "__class__").isNone | _ => false)
  | none => false
noncomputable def baseCk (h : Heap) (c : String) : Bool := match nsAt h mainGlobals (Str.ofString c), nsAt h mainGlobals "BedError" with
  | some (.ref C), some (.ref B) => (mroAt h C == some (.ref C :: .ref B :: excBm)) && plainAt h C && plainAt h B && C != B
  | _, _ => false
noncomputable def diffCk (h : Heap) (c d : String) : Bool := c == d || nsAt h mainGlobals (Str.ofString c) != nsAt h mainGlobals (Str.ofString d)
noncomputable def baseOk (cs : List String) (h : Heap) : Bool := cs.all fun c => baseCk h c && cs.all fun d => diffCk h c d

inductive BaseP (h : Heap) (c : String) : Prop
  | mk (C B : Addr) : nsAt h mainGlobals (Str.ofString c) = some (.ref C) → nsAt h mainGlobals "BedError" = some (.ref B) → mroAt h C = some (.ref C :: .ref B :: excBm) → plainAt h C = true → plainAt h B = true → C ≠ B → BaseP h c

theorem baseP_of {h : Heap} {c : String} (e : baseCk h c = true) : BaseP h c := by
  unfold baseCk at e
  split at e
  · rename_i C B h1 h2
    simp only [Bool.and_eq_true, bne_iff_ne, beq_iff_eq] at e
    obtain ⟨⟨⟨a, b⟩, c⟩, d⟩ := e
    exact ⟨C, B, h1, h2, a, b, c, d⟩
  · cases e
theorem mroAt_keeps {h h' : Heap} {a : Addr} {m : List Value} (hk : ∀ b o, h.get? b = some o → h'.get? b = some o) (e : mroAt h a = some m) : mroAt h' a = some m := by
  unfold mroAt at e ⊢
  cases q : h.get? a with
  | none => rw [q] at e; cases e
  | some o => rw [q] at e; rw [hk _ _ q]; exact e
theorem nsAt_keeps {h h' : Heap} {a : Addr} (hk : ∀ b o, h.get? b = some o → h'.get? b = some o) (x : Str) (e : isNs h a = true) : nsAt h' a x = nsAt h a x := by
  unfold isNs at e
  unfold nsAt
  cases q : h.get? a with
  | none => rw [q] at e; cases e
  | some o => rw [hk _ _ q]
theorem isNs_keeps {h h' : Heap} {a : Addr} (hk : ∀ b o, h.get? b = some o → h'.get? b = some o) (e : isNs h a = true) : isNs h' a = true := by
  unfold isNs at e ⊢
  cases q : h.get? a with
  | none => rw [q] at e; cases e
  | some o => rw [q] at e; rw [hk _ _ q]; exact e
theorem plainAt_keeps {h h' : Heap} {a : Addr} (hk : ∀ b o, h.get? b = some o → h'.get? b = some o) (e : plainAt h a = true) : plainAt h' a = true := by
  unfold plainAt at e ⊢
  cases q : h.get? a with
  | none => rw [q] at e; cases e
  | some o =>
    rw [q] at e; rw [hk _ _ q]
    dsimp only at e ⊢
    split at e
    · rename_i cd hd
      rw [Bool.and_eq_true] at e
      rw [isNs_keeps hk e.1, nsAt_keeps hk _ e.1, e.2]; rfl
    · cases e
theorem nsAt_some {h h' : Heap} {a : Addr} (hk : ∀ b o, h.get? b = some o → h'.get? b = some o) {x : Str} {v : Value} (e : nsAt h a x = some v) : nsAt h' a x = some v := by
  unfold nsAt at e ⊢
  cases q : h.get? a with
  | none => rw [q] at e; cases e
  | some o => rw [q] at e; rw [hk _ _ q]; exact e
theorem BaseP.keeps {h h' : Heap} {c : String} (x : BaseP h c) (hk : ∀ b o, h.get? b = some o → h'.get? b = some o) : BaseP h' c := by
  obtain ⟨C, B, h1, h2, h3, h4, h5, h6⟩ := x
  exact ⟨C, B, nsAt_some hk h1, nsAt_some hk h2, mroAt_keeps hk h3, plainAt_keeps hk h4, plainAt_keeps hk h5, h6⟩
theorem nsAt_ns {h : Heap} {a : Addr} {mg : Str → Option Value} (hn : h.Ns a mg) (x : Str) : nsAt h a x = mg x := by
  obtain ⟨o, es, ep, e, f, _, g⟩ := hn
  unfold nsAt
  rw [e]
  show (match o.data with | .dict es _ => nsFind es x | _ => none) = _
  rw [f]; exact g x

inductive Bases (cs : List String) (h : Heap) : Prop
  | mk : (∀ c ∈ cs, BaseP h c) → (∀ c ∈ cs, ∀ d ∈ cs, c ≠ d → nsAt h mainGlobals (Str.ofString c) ≠ nsAt h mainGlobals (Str.ofString d)) → Bases cs h
theorem bases_of {cs : List String} {h : Heap} (e : baseOk cs h = true) : Bases cs h := by
  have e' := List.all_eq_true.mp e
  refine ⟨fun c hc => baseP_of (Bool.and_eq_true_iff.mp (e' c hc)).1, fun c hc d hd hne => ?_⟩
  have := List.all_eq_true.mp (Bool.and_eq_true_iff.mp (e' c hc)).2 d hd
  unfold diffCk at this
  rcases Bool.or_eq_true_iff.mp this with q | q
  · exact absurd (beq_iff_eq.mp q) hne
  · exact bne_iff_ne.mp q
theorem Bases.keeps {cs : List String} {h h' : Heap} (x : Bases cs h) (hk : ∀ b o, h.get? b = some o → h'.get? b = some o) : Bases cs h' := by
  obtain ⟨x1, x2⟩ := x
  refine ⟨fun c hc => (x1 c hc).keeps hk, fun c hc d hd hne => ?_⟩
  obtain ⟨C, _, h1, _⟩ := x1 c hc
  obtain ⟨D, _, h2, _⟩ := x1 d hd
  have := x2 c hc d hd hne
  rw [h1, h2] at this
  rw [nsAt_some hk h1, nsAt_some hk h2]; exact this

structure Names (P : Prog) (fs : Tab) (mg mb : Str → Option Value) (h : Heap) : Prop where
  g : h.Ns mainGlobals mg
  b : h.Ns builtinsNs mb
  nolimit : h.NoLimit
  blt : ∀ x v, bltn x = some v → mg (Str.ofString x) = none ∧ mb (Str.ofString x) = some v
  glob : ∀ x v, P.glob x = some v → ∃ u, mg (Str.ofString x) = some u ∧ VR [] v u
  fn : ∀ f ∈ fs.fns, ∃ r ob fd, mg (Str.ofString f) = some (.ref r) ∧ h.get? r = some ob ∧ ob.data = .func fd
  cls : ∀ c ∈ fs.excs, ∃ C, PyProof.Rows.OwnClsQ (Str.ofString c) C excBm "ValueError.__new__" mg h
  init : ∀ c ∈ fs.cls, ∃ r, InitAt mg h c r
  inn : InnOk mg h
  bases : Bases (fs.excs.filter (· != "BedError")) h

theorem Names.keeps {P : Prog} {fs : Tab} {mg mb : Str → Option Value} {h h' : Heap} (x : Names P fs mg mb h) (hk : ∀ b o, h.get? b = some o → h'.get? b = some o) : Names P fs mg mb h' :=
  ⟨x.g.keeps hk, x.b.keeps hk, x.nolimit.keeps hk, x.blt, x.glob, fun f hf => let ⟨r, ob, fd, a, b, c⟩ := x.fn f hf; ⟨r, ob, fd, a, hk _ _ b, c⟩, fun c hc => let ⟨C, o⟩ := x.cls c hc; ⟨C, o.keeps hk⟩, fun c hc => let ⟨r, y⟩ := x.init c hc; ⟨r, y.keeps hk⟩
  , x.inn.keeps hk
  , x.bases.keeps hk
  ⟩

section
variable {prog : Program} {w : World} {A : Around} {E : Value → Shared → Prop} {s : Shared} {env : PySem.Env} {Q : Value → Shared → Prop}

noncomputable def wpList (prog : Program) (w : World) (A : Around) (env : PySem.Env) : List Expr → (List Value → Shared → Prop) → (Value → Shared → Prop) → Shared → Prop
  | [], Q, _, s => Q [] s
  | x :: xs, Q, E, s => wpAny (model prog w) A (eval x env) (fun u s1 => wpList prog w A env xs (fun us s2 => Q (u :: us) s2) E s1) E s

theorem wpList_mono {xs : List Expr} {Q Q' : List Value → Shared → Prop} {s : Shared} (h : wpList prog w A env xs Q E s) (hQ : ∀ us s, Q us s → Q' us s) : wpList prog w A env xs Q' E s := by
  induction xs generalizing Q Q' s with
  | nil => exact hQ _ _ h
  | cons x xs ih => exact wpAny_mono h (fun u s1 h1 => ih h1 fun us s2 h2 => hQ _ _ h2) fun _ _ e => e

noncomputable def plainE : Expr → Bool
  | .Starred .. => false
  | _ => true
theorem starEach_plain {e : Expr} {rest : List Expr} (h : plainE e = true) : starEach (e :: rest) env = (false, eval e env) :: starEach rest env := by
  cases e <;> first | rfl | cases h

theorem wpList_spliced {pos : Pos} {xs : List Expr} {Q : List Value → Shared → Prop} {s : Shared} (hp : xs.all plainE = true) (h : wpList prog w A env xs Q E s) : wpAny (model prog w) A (spliced (backTo pos (starEach xs env))) Q E s := by
  induction xs generalizing Q s with
  | nil => exact wpAny_items_nil h
  | cons x xs ih =>
    rw [List.all_cons, Bool.and_eq_true] at hp
    exact wpAny_items_cons (wpAny_mono h (fun u s1 h1 => ih hp.2 h1) fun _ _ e => e) (starEach_plain hp.1)

theorem backTo_any {pos : Pos} {xs : List Expr} (hp : xs.all plainE = true) : (backTo pos (starEach xs env)).any (·.1) = false := by
  induction xs with
  | nil => rfl
  | cons x xs ih =>
    rw [List.all_cons, Bool.and_eq_true] at hp
    rw [starEach_plain hp.1]
    show (false || (backTo pos (starEach xs env)).any (·.1)) = false
    rw [ih hp.2]; rfl

theorem wpList_args {f : Value} {pos : Pos} {xs : List Expr} {Q : Args → Shared → Prop} (hp : xs.all plainE = true) (h : wpList prog w A env xs (fun us s1 => Q ⟨us, []⟩ s1) E s) :
    wpAny (model prog w) A (evalArgs f true (backTo pos (starEach xs env)) []) Q E s := by
  cases xs with
  | nil => exact evalArgs_none h
  | cons x xs =>
    have hp' := hp
    rw [List.all_cons, Bool.and_eq_true] at hp
    have := wpList_spliced (pos := pos) hp' h
    rw [starEach_plain hp.1] at this ⊢
    exact Calls.evalArgs_plain this

theorem call_builtinE {id : String} {pos : Pos} {xs : List Expr} (hp : xs.all plainE = true) (h : wpList prog w A env xs (fun us s1 => wpAny (model prog w) A (call (.builtin id) us) Q E s1) E s) :
    wpAny (model prog w) A (callWith pos (.builtin id) [] (backTo pos (starEach xs env)) []) Q E s :=
  Calls.callWith_builtin (backTo_any hp) (wpList_args hp h)
theorem call_typeE {T : String} {pos : Pos} {xs : List Expr} (hp : xs.all plainE = true) (h : wpList prog w A env xs (fun us s1 => wpAny (model prog w) A (call (.type T) us) Q E s1) E s) :
    wpAny (model prog w) A (callWith pos (.type T) [] (backTo pos (starEach xs env)) []) Q E s :=
  callWith_type (backTo_any hp) (wpList_args hp h)

theorem name_global {id : Str} {pos : Pos} {mg : Str → Option Value} {u : Value} (hk : env.scope.kind = .function) (hg : env.globals = mainGlobals) (hn : s.heap.Ns mainGlobals mg) (hx : env.kindOf id = some .globalImplicit)
    (hd : (id == ("__debug__" : Str)) = false) (hv : mg id = some u) (h : Q u s) : wpAny (model prog w) A (eval (.Name id pos) env) Q E s :=
  Calls.Name_function_global hk hx (Calls.loadGlobal_global (hg ▸ hn) hv h) hd
theorem name_builtin {id : Str} {pos : Pos} {mg mb : Str → Option Value} {u : Value} (hk : env.scope.kind = .function) (hg : env.globals = mainGlobals) (hb : env.builtins = builtinsNs) (hn : s.heap.Ns mainGlobals mg) (hm : s.heap.Ns builtinsNs mb)
    (hx : env.kindOf id = some .globalImplicit) (hd : (id == ("__debug__" : Str)) = false) (h0 : mg id = none) (hv : mb id = some u) (h : Q u s) : wpAny (model prog w) A (eval (.Name id pos) env) Q E s :=
  Calls.Name_function_global hk hx (Calls.loadGlobal_builtin (hg ▸ hn) h0 (hb ▸ hm) hv h) hd
end
end Mine

namespace Mine
open PySem

section
variable {prog : Program} {w : World} {A : Around} {E : Value → Shared → Prop} {s : Shared} {env : PySem.Env} {Q : Value → Shared → Prop}

theorem isGlb_kind {sc : Scope} {id : Str} (h : isGlb sc id = true) (hs : ScR sc env) : env.kindOf id = some .globalImplicit ∧ (id == ("__debug__" : Str)) = false := by
  unfold isGlb at h
  split at h
  · rename_i e
    have := hs id
    rw [e] at this
    refine ⟨?_, by simpa using h⟩
    cases hk : env.kindOf id with
    | none => (first | exact clash hk this | exact clash this hk | (rw [hk] at this; cases this))
    | some k => rw [hk] at this; cases k <;> first | rfl | cases this
  · cases h

structure Frm (P : Prog) (fs : Tab) (mg mb : Str → Option Value) (sc : Scope) (env : PySem.Env) (h : Heap) : Prop where
  names : Names P fs mg mb h
  kind : env.scope.kind = .function
  glob : env.globals = mainGlobals
  bltn : env.builtins = builtinsNs
  sc : ScR sc env

variable {P : Prog} {fs : Tab} {mg mb : Str → Option Value} {sc : Scope}

theorem Frm.keeps {h h' : Heap} (f : Frm P fs mg mb sc env h) (hk : ∀ b o, h.get? b = some o → h'.get? b = some o) : Frm P fs mg mb sc env h' := ⟨f.names.keeps hk, f.kind, f.glob, f.bltn, f.sc⟩

theorem Frm.builtin (f : Frm P fs mg mb sc env s.heap) {x : String} {v : Value} {pos : Pos} (hg : isGlb sc (Str.ofString x) = true) (hv : Mine.bltn x = some v) (h : Q v s) :
    wpAny (model prog w) A (eval (.Name (Str.ofString x) pos) env) Q E s := by
  obtain ⟨hk, hd⟩ := isGlb_kind hg f.sc
  obtain ⟨h0, h1⟩ := f.names.blt x v hv
  exact name_builtin f.kind f.glob f.bltn f.names.g f.names.b hk hd h0 h1 h

theorem Frm.callB (f : Frm P fs mg mb sc env s.heap) {x id : String} {xs : List Expr} {p pos : Pos} (hg : isGlb sc (Str.ofString x) = true) (hv : Mine.bltn x = some (.builtin id)) (hp : xs.all plainE = true)
    (h : wpList prog w A env xs (fun us s1 => wpAny (model prog w) A (call (.builtin id) us) Q E s1) E s) : wpAny (model prog w) A (eval (.Call (.Name (Str.ofString x) p) xs [] pos) env) Q E s :=
  wpAny_Call_Name_kw (f.builtin hg hv (call_builtinE hp h))
theorem Frm.callT (f : Frm P fs mg mb sc env s.heap) {x T : String} {xs : List Expr} {p pos : Pos} (hg : isGlb sc (Str.ofString x) = true) (hv : Mine.bltn x = some (.type T)) (hp : xs.all plainE = true)
    (h : wpList prog w A env xs (fun us s1 => wpAny (model prog w) A (call (.type T) us) Q E s1) E s) : wpAny (model prog w) A (eval (.Call (.Name (Str.ofString x) p) xs [] pos) env) Q E s :=
  wpAny_Call_Name_kw (f.builtin hg hv (call_typeE hp h))

theorem sub_any {value slice : Expr} {pos : Pos} (hs : isSlice slice = false)
    (h : wpAny (model prog w) A (eval value env) (fun o s₁ => wpAny (model prog w) A (eval slice env) (fun i s₂ => SubscriptOn (model prog w) A o i Q E s₂) E s₁) E s) :
    wpAny (model prog w) A (eval (.Subscript value slice pos) env) Q E s := by
  rw [eval_Subscript]
  refine wpAny_bind (wpAny_mono h (fun o s₁ h₁ => wpAny_bind (wpAny_holding (wpAny_mono h₁ (fun i s₂ h₂ => wpAny_bind (wpAny_standAt ?_)) fun _ _ x => x))) fun _ _ x => x)
  obtain ⟨T, id, hl, hT, hg⟩ := h₂
  refine wpAny_bind ?_
  rw [getitemInPython_of_ne hT.not_modules]
  refine wpAny_bind (wpAny_specialOf hT hl ?_)
  have hsub : subscripted slice false o i = operate [o, i] (getItem o i) := by
    cases slice <;> first | rfl | cases hs
  refine wpAny_pure (wpAny_bind ?_)
  rw [hsub]
  exact wpAny_operating (wpAny_mono hg (fun r s₃ h₃ => wpAny_bind (wpAny_letTemporaryGo (wpAny_pure h₃))) fun _ _ x => x)

theorem sub_slice {value : Expr} {lower upper : Option Expr} {p pos : Pos}
    (h : wpAny (model prog w) A (eval value env) (fun o s₁ => wpAny (model prog w) A (eval (.Slice lower upper none p) env) (fun i s₂ => SubscriptOn (model prog w) A o i Q E s₂) E s₁) E s) :
    wpAny (model prog w) A (eval (.Subscript value (.Slice lower upper none p) pos) env) Q E s := by
  rw [eval_Subscript]
  refine wpAny_bind (wpAny_mono h (fun o s₁ h₁ => wpAny_bind (wpAny_holding (wpAny_mono h₁ (fun i s₂ h₂ => wpAny_bind (wpAny_standAt ?_)) fun _ _ x => x))) fun _ _ x => x)
  obtain ⟨T, id, hl, hT, hg⟩ := h₂
  refine wpAny_bind ?_
  rw [getitemInPython_of_ne hT.not_modules]
  refine wpAny_bind (wpAny_specialOf hT hl ?_)
  refine wpAny_pure (wpAny_bind ?_)
  show wpAny _ _ (operate [i, o] (getItem o i)) _ _ _
  exact wpAny_operating (wpAny_mono hg (fun r s₃ h₃ => wpAny_bind (wpAny_letTemporaryGo (wpAny_pure h₃))) fun _ _ x => x)

variable {h₀ : Heap} {β : List Addr} {H : Hp}

theorem slicePick_cut (us : List Value) (lo hi : Option Int) : slicePick us.toArray lo hi none = (cut us lo hi).toArray := by
  rw [slicePick_plain]
  simp only [cut, List.size_toArray]
  rfl

theorem All2.cut {α β : Type} {R : α → β → Prop} {as : List α} {bs : List β} (h : All2 R as bs) (lo hi : Option Int) : All2 R (Mine.cut as lo hi) (Mine.cut bs lo hi) := by
  unfold Mine.cut
  rw [h.length]
  exact (h.drop _).take _
theorem cut_length {α : Type} (xs : List α) (lo hi : Option Int) : (cut xs lo hi).length ≤ xs.length := by
  unfold cut
  rw [List.length_take, List.length_drop]; omega

theorem SR.listOf (x : SR h₀ β H s.heap) {a : Nat} {r : Addr} {xs : List V} (ha : H[a]? = some (.list xs) ∨ H[a]? = some (.frozen xs)) (hr : β[a]? = some r) :
    ∃ us, s.heap.IsList r us.toArray ∧ VRs β xs us ∧ xs.length ≤ lim := by
  rcases ha with ha | ha
  · obtain ⟨us, n, _, e, vr, hl⟩ := x.list ha hr
    exact ⟨us, ⟨_, e, rfl, n, rfl⟩, vr, hl⟩
  · obtain ⟨r', e', sl⟩ := x.at ha
    (first | exact clash hr e' | exact clash e' hr | (rw [hr] at e'; cases e'))
    cases sl with
    | frozen a b c d l => exact ⟨_, ⟨_, x.kept _ _ a, b, _, c⟩, d, l⟩
    | own a b c => cases c

theorem p_sliceL {a : Nat} {r : Addr} {xs : List V} {vl vu : Value} {lo hi : Option Int} (ha : H[a]? = some (.list xs) ∨ H[a]? = some (.frozen xs)) (hr : β[a]? = some r) (pl : IsPart vl lo) (pu : IsPart vu hi)
    (k : Cont h₀ β s (.ref H.length) (H ++ [.list (cut xs lo hi)]) Q) (sr : SR h₀ β H s.heap) :
    SubscriptOn (model prog w) A (.ref r) (.ref s.heap.objs.size) Q E { s with heap := s.heap.push { cls := .type "slice", data := .fields #[vl, vu, .none] } } := by
  obtain ⟨us, hl, vr, hle⟩ := sr.listOf ha hr
  have hlen := vr.length
  have hl' := hl.push { cls := .type "slice", data := .fields #[vl, vu, .none] }
  refine ⟨"list", "list.__getitem__", list_getitem_lookup, hl'.typeIs, ?_⟩
  refine wpAny_getItem_list_slice hl' (Heap.IsSliceOf.new _ _ _ _) pl pu .none (by simp) ?_ (by rw [List.size_toArray, ← hlen]; exact lim_line _ hle)
  rw [slicePick_cut]
  dsimp only
  refine Cont.newAt (t := s.toks) k sr (r := (s.heap.push _).objs.size) (get_none_of_le (by rw [Heap.size_push]; omega)) (fun b o e => Heap.get?_push_of_some _ (Heap.get?_push_of_some _ e)) (Heap.get?_push_size _ rfl)
    (.list (vr.cut lo hi) (by have := cut_length xs lo hi; omega))

theorem list_on {a : Nat} {r : Addr} {xs : List V} {i : Value} (sr : SR h₀ β H s.heap) (ha : seqOf H a = some xs) (hr : β[a]? = some r) (hg : wpAny (model prog w) A (getItem (.ref r) i) Q E s) : SubscriptOn (model prog w) A (.ref r) i Q E s := by
  obtain ⟨us, hq, _, _⟩ := sr.isSeq ha hr
  rcases hq with hq | hq
  · exact ⟨"list", "list.__getitem__", list_getitem_lookup, hq.typeIs, hg⟩
  · exact ⟨"tuple", "tuple.__getitem__", PyProof.Rows.slot_tuple_getitem.lookup, hq.typeIs, hg⟩

end
end Mine

namespace Mine
open PySem
open AutoSeq1 (wpAny_loadPart')
open MeetsSeq3 (plain_eq_loop entry_eq_loop)

section
variable {prog : Program} {w : World} {A : Around} {E : Value → Shared → Prop} {s : Shared} {h₀ : Heap} {β : List Addr} {H H' : Hp} {v : V} {Q : Value → Shared → Prop}

end
end Mine

namespace Mine
open PySem

section
variable {prog : Program} {w : World} {A : Around} {E : Value → Shared → Prop} {s : Shared} {env : PySem.Env} {h₀ : Heap} {β : List Addr} {H H' : Hp} {v : V} {Q : Value → Shared → Prop}

theorem rangeI_length (a b c : Int) : (rangeI a b c).length = (if a < b then (b - a - 1) / c + 1 else 0).toNat := by simp [rangeI]
theorem rangeSize_pos {a b c : Int} (hc : 0 < c) : Builtin.Range.rangeSize a b c = ((rangeI a b c).length : Int) := by
  rw [rangeI_length]
  unfold Builtin.Range.rangeSize
  rw [if_pos hc]
  split
  · have : 0 ≤ (b - a - 1) / c := Int.ediv_nonneg (by omega) (by omega)
    omega
  · rfl

theorem size_lim {a b c : Int} (ha : a.natAbs ≤ lim) (hb : b.natAbs ≤ lim) (hc0 : 0 < c) : Builtin.Range.rangeSize a b c ≤ 300000 ∧ 0 ≤ Builtin.Range.rangeSize a b c := by
  unfold lim at ha hb
  unfold Builtin.Range.rangeSize
  rw [if_pos hc0]
  split
  · have h1 : 0 ≤ (b - a - 1) / c := Int.ediv_nonneg (by omega) (by omega)
    have h2 : (b - a - 1) / c ≤ b - a - 1 := Int.ediv_le_self _ (by omega)
    omega
  · omega
theorem fits {i : Int} (h : i.natAbs ≤ 1000000) : Builtin.Range.rangeFitsLong i = true := by
  unfold Builtin.Range.rangeFitsLong
  simp only [Bool.and_eq_true, decide_eq_true_eq]
  omega
theorem small_lim {a b c : Int} (ha : a.natAbs ≤ lim) (hb : b.natAbs ≤ lim) (hc : c.natAbs ≤ lim) (hc0 : 0 < c) : Builtin.Range.small a b c = true := by
  have h1 := size_lim ha hb hc0
  have up {i : Int} (h : i.natAbs ≤ lim) : i.natAbs ≤ 1000000 := Nat.le_trans h (by decide)
  unfold Builtin.Range.small
  rw [fits (up ha), fits (up hb), fits (up hc), fits (i := Builtin.Range.rangeSize a b c) (by omega), if_pos hc0, fits (i := b + (c - 1)) (by unfold lim at hb hc; omega)]
  exact Bool.or_true _

theorem all2_of_get {α γ : Type} {R : α → γ → Prop} : ∀ {as : List α} {bs : List γ}, as.length = bs.length → (∀ (i : Nat) a b, as[i]? = some a → bs[i]? = some b → R a b) → All2 R as bs
  | [], [], _, _ => .nil
  | a :: as, b :: bs, hl, h => .cons (h 0 a b rfl rfl) (all2_of_get (by simpa using hl) fun i a b ha hb => h (i + 1) a b (by simpa using ha) (by simpa using hb))
  | [], _ :: _, hl, _ => by simp at hl
  | _ :: _, [], hl, _ => by simp at hl

theorem p_listRange {vs : List V} {us : List Value} {is : List Int} (hh : A.handled = none) (vr : VRs β vs us) (hr : rangeOf vs = some is) (hl : is.length ≤ lim) (k : Cont h₀ β s (.ref H.length) (H ++ [.list (is.map .int)]) Q) (sr : SR h₀ β H s.heap) :
    wpAny (model prog w) A (call (.type "range") us) (fun x s1 => wpAny (model prog w) A (call (.type "list") [x]) Q E s1) E s := by
  have fin : ∀ (a b c : Int) (t u v : Tok) (tk : Nat), is = rangeI a b c → 0 < c → a.natAbs ≤ lim → b.natAbs ≤ lim → c.natAbs ≤ lim → wpAny (model prog w) A (call (.type "list") [.ref s.heap.objs.size]) Q E
      { s with heap := s.heap.push { cls := .type "range", data := .fields #[.int a t, .int b u, .int c v] }, toks := tk } := by
    intro a b c t u v tk e hc ha hb hcl
    refine call_list_range hh (IsRange.new ..) (small_lim ha hb hcl hc) (rangeSize_pos hc) (Nat.le_trans (e ▸ hl) (by decide)) fun h' tk' acc c' hk hg hacc => ?_
    have hac : acc = acc.toList.toArray := by simp
    rw [hac] at hg
    refine Cont.newAt (s := s) (h' := h') (t := tk') k sr (r := (s.heap.push _).objs.size) (get_none_of_le (by rw [Heap.size_push]; omega)) (fun b o e => hk _ _ (Heap.get?_push_of_some _ e)) hg (.list ?_ (by rw [List.length_map]; exact hl))
    refine all2_of_get (by rw [List.length_map, e]; have := hacc.1; simpa using this.symm) fun i x y hx hy => ?_
    rw [List.getElem?_map] at hx
    obtain ⟨z, hz, rfl⟩ := Option.map_eq_some_iff.mp hx
    obtain ⟨t, ht⟩ := hacc.2 i y (by simpa using hy)
    rw [e, rangeI, List.getElem?_map] at hz
    obtain ⟨j, hj, rfl⟩ := Option.map_eq_some_iff.mp hz
    obtain ⟨hlt, e'⟩ := List.getElem?_eq_some_iff.mp hj
    simp at e'; subst e'
    rw [ht]; exact .int _ _
  unfold rangeOf at hr
  split at hr
  · split at hr
    · rename_i hb; cases hr
      cases vr with | cons va vr => cases vr; cases va with | int _ t => exact call_range_1 (fin 0 _ 1 _ _ _ _ rfl (by omega) (by decide) hb (by decide))
    · cases hr
  · split at hr
    · rename_i hb; cases hr
      cases vr with | cons va vr => cases vr with | cons vb vr => cases vr; cases va with | int _ t => cases vb with | int _ u => exact call_range_2 (fin _ _ 1 _ _ _ _ rfl (by omega) hb.2.1 hb.2.2 (by decide))
    · cases hr
  · split at hr
    · rename_i hb; cases hr
      cases vr with | cons va vr => cases vr with | cons vb vr => cases vr with | cons vc vr => cases vr; cases va with | int _ t => cases vb with | int _ u => cases vc with | int _ v =>
        exact call_range_3 (by omega) (fin _ _ _ _ _ _ _ rfl hb.2.2.2.1 hb.2.1 hb.2.2.1 hb.2.2.2.2) (.inl (PyProof.noPylong_small (by have := hb.2.2.2.2; unfold lim at this; omega)))
    · cases hr
  · cases hr

theorem p_intB {b : Bool} (k : Cont h₀ β s (.int (if b then 1 else 0)) H Q) (sr : SR h₀ β H s.heap) : wpAny (model prog w) A (call (.type "int") [.bool b]) Q E s := by
  refine call_int_bool ?_
  cases b
  · exact k.same sr (.int _ _)
  · exact k.same sr (.int _ _)

end
end Mine

namespace Mine
open PySem
set_option maxRecDepth 100000

section
variable {prog : Program} {w : World} {A : Around} {E : Value → Shared → Prop} {s : Shared} {h₀ : Heap} {β : List Addr} {H H' : Hp} {v : V} {Q : Value → Shared → Prop}

end
end Mine

namespace Mine
open PySem

section
variable {prog : Program} {w : World} {A : Around} {E : Value → Shared → Prop} {s : Shared} {h₀ : Heap} {β : List Addr} {H H' : Hp} {v : V} {Q : Value → Shared → Prop}

noncomputable abbrev DP (β : List Addr) (e : Int × V) (kv : Int × Value) : Prop := e.1 = kv.1 ∧ VR β e.2 kv.2

theorem any_key : ∀ {es : List (Int × V)} {kvs : List (Int × Value)} (_ : All2 (DP β) es kvs) (k : Int), (es.any fun e => e.1 == k) = (kvs.any fun kv => decide (kv.1 = k)) := by
  intro es kvs h k
  induction h with
  | nil => rfl
  | cons h _ ih => rw [List.any_cons, List.any_cons, ih, h.1]; congr 1
theorem valueAt_any : ∀ (kvs : List (Int × Value)) (k : Int), (valueAt kvs k).isSome = kvs.any fun kv => decide (kv.1 = k)
  | [], _ => rfl
  | (a, u) :: kvs, k => by
    unfold valueAt
    rw [List.find?_cons, List.any_cons]
    by_cases e : a = k
    · simp [e]
    · have := valueAt_any kvs k
      unfold valueAt at this
      simp only [e, decide_false, Bool.false_or]
      exact this

theorem dictOf {r : Addr} {ob : Obj} {kvs : List (Int × Value)} (c : s.heap.get? r = some ob) (d : ∀ prog w, ob.IsDictOf (intKind prog w) kvs) : s.heap.DictOf (intKind prog w) r kvs := Heap.dictOf_iff.mpr ⟨ob, c, d prog w⟩

theorem p_inD {r : Addr} {ob : Obj} {kvs : List (Int × Value)} {es : List (Int × V)} {i : Int} {t : Tok} (a : (r == sysModules) = false) (c : s.heap.get? r = some ob) (d : ∀ prog w, ob.IsDictOf (intKind prog w) kvs) (e : All2 (DP β) es kvs)
    (k : Cont h₀ β s (.bool (es.any fun e => e.1 == i)) H Q) (sr : SR h₀ β H s.heap) : wpAny (model prog w) A (compareOp .In (.int i t) (.ref r)) Q E s := by
  refine wpAny_in_of (knd := intKind prog w) (k := i) (intKind_is prog w i t) a (dictOf c d).mapOf ?_
  rw [valueAt_any, ← any_key e]
  exact k.same sr (.bool _)
theorem p_notInD {r : Addr} {ob : Obj} {kvs : List (Int × Value)} {es : List (Int × V)} {i : Int} {t : Tok} (a : (r == sysModules) = false) (c : s.heap.get? r = some ob) (d : ∀ prog w, ob.IsDictOf (intKind prog w) kvs) (e : All2 (DP β) es kvs)
    (k : Cont h₀ β s (.bool (!es.any fun e => e.1 == i)) H Q) (sr : SR h₀ β H s.heap) : wpAny (model prog w) A (compareOp .NotIn (.int i t) (.ref r)) Q E s := by
  refine wpAny_notIn_of (knd := intKind prog w) (k := i) (intKind_is prog w i t) a (dictOf c d).mapOf ?_
  rw [valueAt_any, ← any_key e]
  exact k.same sr (.bool _)

theorem p_mkDict (hbig : sysModules < s.heap.objs.size) (k : Cont h₀ β s (.ref H.length) (H ++ [.dict []]) Q) (sr : SR h₀ β H s.heap) {env : PySem.Env} {pos : Pos} : wpAny (model prog w) A (eval (.Dict [] [] pos) env) Q E s := by
  refine wpAny_Dict_empty ?_
  have hn : s.heap.get? s.heap.objs.size = Option.none := get_none_of_le (Nat.le_refl _)
  have hp : β <+: β ++ [s.heap.objs.size] := List.prefix_append _ _
  refine k _ _ (β ++ [s.heap.objs.size]) ⟨⟨_, s.toks, rfl⟩, hp, fun b _ => .of fun o e => Heap.get?_push_of_some _ e, fun b hb => ?_⟩
    (sr.pushS hn (fun b o e => Heap.get?_push_of_some _ e) fun h0 => .dict ?_ h0 (Heap.get?_push_size _ rfl) (fun prog w => ⟨#[], 0, ⟨rfl, rfl, rfl⟩, rfl, ?_, ?_, ?_⟩) .nil (Nat.zero_le _)) (.ref ?_)
  · rcases List.mem_append.mp hb with q | q
    · exact .inl q
    · simp at q; subst q; exact .inr hn
  · exact beq_eq_false_iff_ne.mpr (Nat.ne_of_gt hbig)
  · intro e he; simp at he
  · exact .nil
  · exact List.nodup_nil
  · rw [sr.len]; simp

theorem put_rel {k : Int} {x : V} {u : Value} (hu : VR β x u) : ∀ {es : List (Int × V)} {kvs : List (Int × Value)}, All2 (DP β) es kvs → All2 (DP β) (dictPut es k x) (stored kvs k u) := by
  intro es kvs h
  unfold dictPut stored
  rw [any_key h]
  by_cases e : (kvs.any fun kv => decide (kv.1 = k)) = true
  · rw [if_pos e, if_pos e]
    clear e
    induction h with
    | nil => exact .nil
    | @cons a b as bs h _ ih =>
      refine .cons ?_ ih
      obtain ⟨a1, a2⟩ := a
      obtain ⟨b1, b2⟩ := b
      obtain ⟨h1, h2⟩ := h
      dsimp only at h1 h2 ⊢
      subst h1
      by_cases q : a1 = k
      · subst q; simp; exact ⟨rfl, hu⟩
      · have : (a1 == k) = false := beq_eq_false_iff_ne.mpr q
        simp only [this, q, if_false, Bool.false_eq_true]
        exact ⟨rfl, h2⟩
  · rw [if_neg e, if_neg e]
    exact h.append (.cons ⟨rfl, hu⟩ .nil)

theorem dictPut_len (es : List (Int × V)) (k : Int) (x : V) : (dictPut es k x).length ≤ es.length + 1 := by
  unfold dictPut
  split <;> simp

theorem dict_any {o : Obj} {kvs : List (Int × Value)} {p p' : Program} {w w' : World} (h : o.IsDictOf (intKind p w) kvs) : o.IsDictOf (intKind p' w') kvs := by
  obtain ⟨es, ep, h1, h2, h3, h4, h5⟩ := h
  refine ⟨es, ep, h1, h2, h3, ?_, h5⟩
  have : ∀ {l : List DictEntry} {kvs : List (Int × Value)}, Pairs (intKind p w) l kvs → Pairs (intKind p' w') l kvs := by
    intro l kvs h
    induction h with
    | nil => exact .nil
    | cons a b _ ih => exact .cons a b ih
  exact this h4

theorem p_setD {a : Nat} {r : Addr} {es : List (Int × V)} {ob : Obj} {kvs : List (Int × Value)} {i : Int} {t : Tok} {x : V} {u : Value} {Qu : Unit → Shared → Prop} (hr : β[a]? = some r) (a1 : (r == sysModules) = false) (b : h₀.get? r = Option.none) (c : s.heap.get? r = some ob) (d : ∀ prog w, ob.IsDictOf (intKind prog w) kvs) (e : All2 (DP β) es kvs) (hl : es.length < lim) (hu : VR β x u)
    (k : Cont h₀ β s .none (H.set a (.dict (dictPut es i x))) (fun _ s' => Qu () s')) (sr : SR h₀ β H s.heap) : wpAny (model prog w) A (setItem (.ref r) (.int i t) u) Qu E s := by
  refine wpAny_setItem_pairs (knd := intKind prog w) (k := i) (intKind_is prog w i t) (dictOf c d) (fun h' hd hs => ?_) (lim_line _ (by rw [← e.length]; omega))
  obtain ⟨ob', e', x'⟩ := Heap.dictOf_iff.mp hd
  refine k .none { s with heap := h', toks := s.toks + 1 } β ⟨⟨_, _, rfl⟩, List.prefix_refl _, fun b' hb => .of fun q eq => hs.extBut b' q (by rintro rfl; exact hb (List.mem_of_getElem? hr)) eq, fun _ hb => .inl hb⟩ ?_ .none
  refine sr.updS (h' := h') hr b (fun b' o hb q => (show h'.get? b' = s.heap.get? b' from ?_).trans q) (.dict a1 b e' (fun _ _ => dict_any x') (put_rel hu e) (Nat.le_trans (dictPut_len _ _ _) hl))
  exact hs.2 b' hb

end
end Mine

namespace Mine
open PySem

theorem ns_uniq {h : Heap} {a : Addr} {m m' : Str → Option Value} (x : h.Ns a m) (y : h.Ns a m') (n : Str) : m n = m' n := by
  obtain ⟨o, es, ep, e, d, _, f⟩ := x
  obtain ⟨o', es', ep', e', d', _, f'⟩ := y
  cases e.symm.trans e'
  cases d.symm.trans d'
  rw [← f n, f' n]

theorem obj_none {n : String} (h : n ∈ attrNames) : typeLookup (.type "object") (Str.ofString n) = pure none := by
  simp only [attrNames, List.mem_cons, List.not_mem_nil, or_false] at h
  rcases h with rfl | rfl
  · rw [typeLookup_type, builtinLookup_eq_fast]; kernel_rfl
  · rw [typeLookup_type, builtinLookup_eq_fast]; kernel_rfl
theorem obj_meth {n : String} (h : n ∈ methNames) : ∃ y, typeLookup (.type "object") (Str.ofString n) = pure y := by
  simp only [methNames, List.mem_cons, List.not_mem_nil, or_false] at h
  rcases h with rfl | rfl | rfl | rfl
  · exact ⟨some (.builtin "object.__init__"), by rw [typeLookup_type, builtinLookup_eq_fast]; kernel_rfl⟩
  · exact ⟨none, by rw [typeLookup_type, builtinLookup_eq_fast]; kernel_rfl⟩
  · exact ⟨none, by rw [typeLookup_type, builtinLookup_eq_fast]; kernel_rfl⟩
  · exact ⟨none, by rw [typeLookup_type, builtinLookup_eq_fast]; kernel_rfl⟩
theorem meth_attr {n m : String} (hn : n ∈ attrNames) (hm : m ∈ methNames) : n ≠ m := by
  simp only [attrNames, methNames, List.mem_cons, List.not_mem_nil, or_false] at hn hm
  rcases hn with rfl | rfl <;> rcases hm with rfl | rfl | rfl | rfl <;> decide

theorem setF_lookup (fs : List (String × V)) (n : String) (v : V) (y : String) : (setF fs n v).lookup y = if y = n then some v else fs.lookup y := by
  have aux : ∀ fs : List (String × V), (fs.map fun f => if (f.1 == n) = true then (n, v) else f).lookup y = if y = n then (fs.lookup n).map fun _ => v else fs.lookup y := by
    intro fs
    induction fs with
    | nil => split <;> rfl
    | cons f fs ih =>
      obtain ⟨k, u⟩ := f
      rw [List.map_cons]
      by_cases hk : k = n
      · subst hk
        simp only [beq_self_eq_true, if_true, List.lookup_cons]
        by_cases hy : y = k
        · subst hy; simp
        · simp only [beq_eq_false_iff_ne.mpr hy, hy, if_false] at ih ⊢; exact ih
      · simp only [beq_eq_false_iff_ne.mpr hk, Bool.false_eq_true, if_false, List.lookup_cons]
        by_cases hy : y = n
        · subst hy
          have : (y == k) = false := beq_eq_false_iff_ne.mpr (Ne.symm hk)
          simp only [this, if_true] at ih ⊢; exact ih
        · simp only [hy, if_false] at ih ⊢
          cases y == k
          · exact ih
          · rfl
  unfold setF
  split
  · rename_i h
    rw [aux]
    split
    · rename_i hy
      have : ∃ u, fs.lookup n = some u := by
        clear aux
        induction fs with
        | nil => simp at h
        | cons f fs ih =>
          obtain ⟨k, u⟩ := f
          rw [List.lookup_cons]
          by_cases hk : n = k
          · subst hk; simp
          · have hk' : (k == n) = false := beq_eq_false_iff_ne.mpr (Ne.symm hk)
            rw [beq_eq_false_iff_ne.mpr hk]
            simp only [List.any_cons, hk', Bool.false_or] at h
            exact ih h
      obtain ⟨u, hu⟩ := this
      rw [hu]; rfl
    · rfl
  · rename_i h
    have hno : fs.lookup n = none := by
      clear aux
      induction fs with
      | nil => rfl
      | cons f fs ih =>
        obtain ⟨k, u⟩ := f
        simp only [List.any_cons, Bool.or_eq_true, not_or] at h
        rw [List.lookup_cons]
        have : (n == k) = false := by
          rw [beq_eq_false_iff_ne]; rintro rfl; exact h.1 (by simp)
        rw [this]
        exact ih h.2
    have app : ∀ fs : List (String × V), (fs ++ [(n, v)]).lookup y = (fs.lookup y).or (if y = n then some v else none) := by
      intro fs
      induction fs with
      | nil =>
        rw [List.nil_append, List.lookup_cons]
        by_cases hy : y = n
        · subst hy; simp
        · simp [beq_eq_false_iff_ne.mpr hy, hy]
      | cons f fs ih =>
        obtain ⟨k, u⟩ := f
        rw [List.cons_append, List.lookup_cons, List.lookup_cons, ih]
        cases y == k <;> rfl
    rw [app]
    by_cases hy : y = n
    · subst hy; rw [hno]; simp
    · simp [hy]

section
variable {prog : Program} {w : World} {A : Around} {E : Value → Shared → Prop} {s : Shared} {h₀ : Heap} {β : List Addr} {H : Hp} {Q : Value → Shared → Prop}

inductive ObjAt (h₀ h : Heap) (β : List Addr) (d : Nat) (fs : List (String × V)) (x : Addr) : Prop
  | mk (dx C : Addr) (m mgl : Str → Option Value) (ob : Obj) : β[d]? = some dx → dx ≠ x → h₀.Ns mainGlobals mgl → mgl (Str.ofString "Inn") = some (.ref C) → h.get? x = some ob → ob.dict = some dx → h.Inst x C m → FR β fs m → h₀.get? dx = none → h₀.get? x = none → ObjAt h₀ h β d fs x

theorem SR.obj (sr : SR h₀ β H s.heap) {a d : Nat} {c : String} {fs : List (String × V)} {x : Addr} (ha : H[a]? = some (.inst c d)) (hd : H[d]? = some (.fdict fs)) (hr : β[a]? = some x) : c = "Inn" ∧ ObjAt h₀ s.heap β d fs x := by
  obtain ⟨r, e, sl⟩ := sr.at ha
  cases hr.symm.trans e
  obtain ⟨r', e', sl'⟩ := sr.at hd
  cases sl with
  | own _ _ c => cases c
  | inst a1 a2 a3 a4 a5 a6 a7 a8 a9 =>
    cases e'.symm.trans a2
    cases sl' with
    | own _ _ c => cases c
    | fdict b1 b2 b3 => exact ⟨rfl, _, _, _, _, _, a2, a3, a6, a7, a4, a8, ⟨_, a4, a5, a9, .inr ⟨_, a8, a3, b2⟩⟩, b3, b1, a1⟩

theorem VR.handed {v : V} {u : Value} (h : VR β v u) : handedOut u = pure u := by cases h <;> rfl

theorem attr_some {n : String} {a : Nat} {v : V} (h : attrV n (.ref a) H = some v) : ∃ c d fs, H[a]? = some (.inst c d) ∧ H[d]? = some (.fdict fs) ∧ fs.lookup n = some v := by
  unfold attrV at h
  dsimp only at h
  split at h
  · rename_i c d e
    split at h
    · rename_i fs e'; exact ⟨c, d, fs, e, e', h⟩
    · cases h
  · cases h

theorem p_attr {mg : Str → Option Value} (io : InnOk mg h₀) (hg : h₀.Ns mainGlobals mg) {n : String} (hn : n ∈ attrNames) {a : Nat} {x : Addr} {v : V} (hv : attrV n (.ref a) H = some v) (hr : β[a]? = some x) (k : Cont h₀ β s v H Q) (sr : SR h₀ β H s.heap) {b : Bool} : wpAny (model prog w) A (getAttr (.ref x) (Str.ofString n) b) Q E s := by
  obtain ⟨c, d, fs, e1, e2, e3⟩ := attr_some hv
  obtain ⟨_, dx, C, m, mgl, ob, o1, o2, o3, o4, o5, o6, o7, o8, o9, o10⟩ := sr.obj e1 e2 hr
  obtain ⟨C', N, mN, i1, i2, i3, i4, i5⟩ := io
  cases o4.symm.trans ((ns_uniq o3 hg _).trans i1)
  obtain ⟨u, hu, vr⟩ := o8.val n v e3
  obtain ⟨nm, q, bs, sn, sub, col, dd, k0, k1, k2, k3, k5, hC⟩ := (i2.keeps sr.kept).obj
  have kk := fun t => k.same (t := t) sr vr
  obtain ⟨hh, g, dr, t, os⟩ := s
  exact load_attr hC (i2.keeps sr.kept).ns i3.2.1 (i4 n hn) (obj_none hn) o7 hu vr.handed (kk (t + 1))

theorem p_setAttr {mg : Str → Option Value} (io : InnOk mg h₀) (hg : h₀.Ns mainGlobals mg) {n : String} (hn : n ∈ attrNames) {a : Nat} {x : Addr} {v : V} {u : Value} {H' : Hp} (hs : setAttrV (.ref a) n v H = some H') (hr : β[a]? = some x) (vr : VR β v u) {Qu : Unit → Shared → Prop}
    (k : Cont h₀ β s .none H' (fun _ s' => Qu () s')) (sr : SR h₀ β H s.heap) : wpAny (model prog w) A (setAttr (.ref x) (Str.ofString n) u) Qu E s := by
  unfold setAttrV at hs
  dsimp only at hs
  split at hs
  · rename_i c d e1
    split at hs
    · rename_i fs e2
      cases hs
      obtain ⟨_, dx, C, m, mgl, ob, o1, o2, o3, o4, o5, o6, o7, o8, o9, o10⟩ := sr.obj e1 e2 hr
      obtain ⟨C', N, mN, i1, i2, i3, i4, i5⟩ := io
      cases o4.symm.trans ((ns_uniq o3 hg _).trans i1)
      obtain ⟨nm, q, bs, sn, sub, col, dd, k0, k1, k2, k3, k5, hC⟩ := (i2.keeps sr.kept).obj
      have hxC : x ≠ C := by
        rintro rfl
        obtain ⟨_, _, _, _, _, _, _, _, _, _, _, _, hC0⟩ := i2.obj
        exact clash hC0 o10
      obtain ⟨hh, g, dr, t, os⟩ := s
      refine store_attr (ns := attrNames.map Str.ofString) PySem.F.store_object hC (i2.keeps sr.kept).ns i3.1 (i4 n hn) (obj_none hn) hxC o7 (fun h' tk' I' hk hsame => ?_) (fun y hy => ?_) (by show 2 ≤ sizeLine; decide)
      · obtain ⟨ob1, f1, f2, f3, f4, f5⟩ := hsame ob o5
        have eob : ob1 = ob := by
          have := f5 dx o6
          cases ob1; cases ob
          simp only at f2 f3 f4 this o6
          subst f2 f3 f4; rw [this, o6]
        subst eob
        have keep : ∀ b o, b ≠ dx → hh.get? b = some o → h'.get? b = some o := fun b o hb q => by
          by_cases hx : b = x
          · subst hx; cases o5.symm.trans q; exact f1
          · exact hk b o hx (fun o₀ d' q0 qd => by cases o5.symm.trans q0; cases o6.symm.trans qd; exact hb) q
        have ns' : h'.Ns1 dx (fun y => if y = Str.ofString n then some u else m y) := by
          obtain ⟨o', q1, _, _, q4⟩ := I'
          cases f1.symm.trans q1
          rcases q4 with ⟨q5, _⟩ | ⟨d', q5, _, q6⟩
          · cases o6.symm.trans q5
          · cases o6.symm.trans q5; exact q6
        have mem : dx ∈ β := List.mem_of_getElem? o1
        refine k .none ⟨h', g, dr, tk', os⟩ β ⟨⟨_, _, rfl⟩, List.prefix_refl _, fun b hb => .of fun o q => keep b o (by rintro rfl; exact hb mem) q, fun _ hb => .inl hb⟩ ?_ .none
        refine sr.updS (h' := h') o1 o9 (fun b o hb q => keep b o hb q) (.fdict o9 ns' ⟨fun y v' hy => ?_, fun y hy => ?_⟩)
        · rw [setF_lookup] at hy
          by_cases hyn : y = n
          · subst hyn; rw [if_pos rfl] at hy; cases hy; exact ⟨u, if_pos rfl, vr⟩
          · rw [if_neg hyn] at hy
            obtain ⟨u', hu', vr'⟩ := o8.val y v' hy
            exact ⟨u', by rw [if_neg (ofString_ne hyn)]; exact hu', vr'⟩
        · by_cases hyn : y = Str.ofString n
          · exact ⟨n, hn, hyn⟩
          · rw [if_neg hyn] at hy; exact o8.only y hy
      · obtain ⟨n', h1, h2⟩ := o8.only y hy
        exact List.mem_map.mpr ⟨n', h1, h2.symm⟩
    · cases hs
  · cases hs

theorem p_method {mg : Str → Option Value} (io : InnOk mg h₀) (hg : h₀.Ns mainGlobals mg) {m : String} (hm : m ∈ methNames) {a d : Nat} {c : String} {fs : List (String × V)} {x : Addr} (ha : H[a]? = some (.inst c d)) (hd : H[d]? = some (.fdict fs)) (hr : β[a]? = some x) (sr : SR h₀ β H s.heap) :
    c = "Inn" ∧ ∃ f o fd, MethAt mg h₀ "Inn" m f ∧ h₀.get? f = some o ∧ o.data = .func fd ∧ ∀ {pl : Sem Bool} {Q : Value × List Value → Shared → Prop} {E : Value → Shared → Prop}, Q (.ref f, [.ref x]) s → wpAny (model prog w) A (getMethod (.ref x) (Str.ofString m) pl) Q E s := by
  obtain ⟨ec, dx, C, mA, mgl, ob, o1, o2, o3, o4, o5, o6, o7, o8, o9, o10⟩ := sr.obj ha hd hr
  obtain ⟨C', N, mN, i1, i2, i3, i4, i5⟩ := io
  cases o4.symm.trans ((ns_uniq o3 hg _).trans i1)
  obtain ⟨f, o, fd, j1, j2, j3, j4⟩ := i5 m hm
  obtain ⟨y, hy⟩ := obj_meth hm
  refine ⟨ec, f, o, fd, ⟨C, N, mN, o, i1, i2, j1, j2, j3⟩, j2, j4, fun {pl Q E} hq => ?_⟩
  obtain ⟨nm, q, bs, sn, sub, col, dd, k0, k1, k2, k3, k5, hC⟩ := (i2.keeps sr.kept).obj
  obtain ⟨hh, g, dr, t, os⟩ := s
  refine method_of hC (i2.keeps sr.kept).ns i3.2.1 i3.2.2 j1 (sr.kept _ _ j2) j3 hy o7 ?_ hq
  cases e : mA (Str.ofString m) with
  | none => rfl
  | some u =>
    obtain ⟨n', h1, h2⟩ := o8.only (Str.ofString m) (by rw [e]; simp)
    exact absurd (ofString_inj h2).symm (meth_attr h1 hm)
end
end Mine

namespace Mine
open PySem

section
variable {prog : Program} {w : World} {A : Around} {E : Value → Shared → Prop} {s : Shared} {env : PySem.Env} {Q : Value → Shared → Prop} {P : Prog} {fs : Tab} {mg mb : Str → Option Value} {sc : Scope} {h₀ : Heap} {β : List Addr} {H : Hp} {n : Nat}

theorem vrs1 {vs : List V} {u : Value} (h : VRs β vs [u]) : ∃ v, vs = [v] ∧ VR β v u := by
  cases h with | cons a b => cases b; exact ⟨_, rfl, a⟩
theorem vrs2 {vs : List V} {u u' : Value} (h : VRs β vs [u, u']) : ∃ v v', vs = [v, v'] ∧ VR β v u ∧ VR β v' u' := by
  cases h with | cons a b => cases b with | cons b c => cases c; exact ⟨_, _, rfl, a, b⟩
theorem vrs3 {vs : List V} {u u' u'' : Value} (h : VRs β vs [u, u', u'']) : ∃ v v' v'', vs = [v, v', v''] ∧ VR β v u ∧ VR β v' u' ∧ VR β v'' u'' := by
  cases h with | cons a b => cases b with | cons b c => cases c with | cons c d => cases d; exact ⟨_, _, _, rfl, a, b, c⟩

theorem add_sound {a b : V} {ua ub : Value} {v : V} {H' : Hp} (h : addV a b H = some (v, H')) (ha : VR β a ua) (hb : VR β b ub) (k : Cont h₀ β s v H' Q) (sr : SR h₀ β H s.heap) :
    wpAny (model prog w) A (binaryOp .Add ua ub) Q E s := by
  cases ha with
  | int i t =>
    cases hb with
    | int j u => cases h; exact p_addI k sr
    | _ => exact no_ns h
  | str x t =>
    cases hb with
    | str y u =>
      change ite _ _ _ = _ at h
      split at h
      · rename_i hl; cases h; exact p_addS hl k sr
      · exact no_ns h
    | _ => exact no_ns h
  | ref ea =>
    cases hb with
    | ref eb =>
      obtain ⟨xs, e1, h⟩ := Option.bind_eq_some_iff.mp h
      obtain ⟨ys, e2, h⟩ := Option.bind_eq_some_iff.mp h
      split at h
      · rename_i hl; cases h
        exact p_addL (listOf_some e1) (listOf_some e2) ea eb hl k sr
      · exact no_ns h
    | _ => exact no_ns h
  | _ => exact no_ns h

theorem mul_sound {a b : V} {ua ub : Value} {v : V} {H' : Hp} (h : mulV a b H = some (v, H')) (ha : VR β a ua) (hb : VR β b ub) (k : Cont h₀ β s v H' Q) (sr : SR h₀ β H s.heap) :
    wpAny (model prog w) A (binaryOp .Mult ua ub) Q E s := by
  cases ha with
  | int i t =>
    cases hb with
    | int j u =>
      change ite _ _ _ = _ at h
      split at h
      · rename_i hl; cases h
        simp only [Bool.and_eq_true, decide_eq_true_eq] at hl
        exact p_mulI hl.1 k sr
      · exact no_ns h
    | _ => exact no_ns h
  | ref ea =>
    cases hb with
    | int j u =>
      obtain ⟨xs, e1, h⟩ := Option.bind_eq_some_iff.mp h
      cases xs with
      | nil => exact no_ns h
      | cons x r =>
        cases r with
        | cons _ _ => exact no_ns h
        | nil =>
          change ite _ _ _ = _ at h
          split at h
          · rename_i hl; cases h
            exact p_mulL (listOf_some e1) ea hl k sr
          · exact no_ns h
    | _ => exact no_ns h
  | _ => exact no_ns h

theorem bin_sound {o : Bin} {a b : V} {ua ub : Value} {v : V} {H' : Hp} (h : binV o a b H = some (v, H')) (ha : VR β a ua) (hb : VR β b ub) (k : Cont h₀ β s v H' Q) (sr : SR h₀ β H s.heap) :
    wpAny (model prog w) A (binaryOp (binOf o) ua ub) Q E s := by
  cases o with
  | add => exact add_sound h ha hb k sr
  | mul => exact mul_sound h ha hb k sr
  | sub =>
    cases ha with
    | int i t =>
      cases hb with
      | int j u => cases h; exact p_sub k sr
      | _ => exact no_ns h
    | _ => exact no_ns h
  | mod =>
    cases ha with
    | int i t =>
      cases hb with
      | int j u =>
        change ite _ _ _ = _ at h
        split at h
        · exact no_ns h
        · rename_i hj; cases h; exact p_mod hj k sr
      | _ => exact no_ns h
    | _ => exact no_ns h
  | fdiv =>
    cases ha with
    | int i t =>
      cases hb with
      | int j u =>
        change ite _ _ _ = _ at h
        split at h
        · exact no_ns h
        · rename_i hj; cases h; exact p_fdiv (by omega) (by omega) k sr
      | _ => exact no_ns h
    | _ => exact no_ns h

theorem mem_sound {x c : V} {ux uc : Value} {b : Bool} (h : mem H x c = some b) (hx : VR β x ux) (hc : VR β c uc) (hu : A.units + 100 < cLine) (sr : SR h₀ β H s.heap) :
    (∀ k : Cont h₀ β s (.bool b) H Q, wpAny (model prog w) A (compareOp .In ux uc) Q E s) ∧ (∀ k : Cont h₀ β s (.bool (!b)) H Q, wpAny (model prog w) A (compareOp .NotIn ux uc) Q E s) := by
  cases hc with
  | @ref a r hr =>
    have key : ∀ xs, seqOf H a = some xs → inD H x xs = some b → (∀ k : Cont h₀ β s (.bool b) H Q, wpAny (model prog w) A (compareOp .In ux (.ref r)) Q E s) ∧ (∀ k : Cont h₀ β s (.bool (!b)) H Q, wpAny (model prog w) A (compareOp .NotIn ux (.ref r)) Q E s) :=
      fun xs e h => ⟨fun k => p_in hx e hr h hu k sr, fun k => p_notIn hx e hr h hu k sr⟩
    obtain ⟨o, e, h⟩ := Option.bind_eq_some_iff.mp h
    cases o with
    | list xs => exact key xs (by unfold seqOf; rw [e]) h
    | frozen xs => exact key xs (by unfold seqOf; rw [e]) h
    | tuple xs => exact key xs (by unfold seqOf; rw [e]) h
    | dict es =>
      obtain ⟨r', e', sl⟩ := sr.at e
      rw [hr] at e'; cases e'
      cases sl with
      | own a b c => cases c
      | dict a b c d e' l =>
        cases hx with
        | int i t => cases h; exact ⟨fun k => p_inD a c d e' k sr, fun k => p_notInD a c d e' k sr⟩
        | _ => exact no_ns h
    | _ => exact no_ns h
  | _ => exact no_ns h

theorem cmp_sound {o : Cmp} {a b : V} {ua ub : Value} {r : Bool} (h : cmpV o a b H = some r) (ha : VR β a ua) (hb : VR β b ub) (hu : A.units + 100 < cLine) (k : Cont h₀ β s (.bool r) H Q) (sr : SR h₀ β H s.heap) :
    wpAny (model prog w) A (compareOp (cmpOf o) ua ub) Q E s := by
  cases o with
  | eq => exact p_eq ha hb h hu k sr
  | ne =>
    obtain ⟨r', e, rfl⟩ := Option.map_eq_some_iff.mp h
    exact p_ne ha hb e hu k sr
  | lt =>
    cases ha with
    | int i t =>
      cases hb with
      | int j u => cases h; exact p_lt k sr
      | _ => exact no_ns h
    | _ => exact no_ns h
  | le =>
    cases ha with
    | int i t =>
      cases hb with
      | int j u => cases h; exact p_le k sr
      | _ => exact no_ns h
    | _ => exact no_ns h
  | gt =>
    cases ha with
    | int i t =>
      cases hb with
      | int j u => cases h; exact p_gt k sr
      | _ => exact no_ns h
    | _ => exact no_ns h
  | ge =>
    cases ha with
    | int i t =>
      cases hb with
      | int j u => cases h; exact p_ge k sr
      | _ => exact no_ns h
    | _ => exact no_ns h
  | is_ =>
    cases hb with
    | none => cases h; exact p_isNone ha k sr
    | bool c =>
      cases c with
      | true => cases h; exact p_isTrue ha k sr
      | false => exact no_ns h
    | _ => exact no_ns h
  | isNot =>
    cases hb with
    | none => cases h; exact p_isNotNone ha k sr
    | bool c =>
      cases c with
      | true => cases h; exact p_isNotTrue ha k sr
      | false => exact no_ns h
    | _ => exact no_ns h
  | in_ => exact (mem_sound h ha hb hu sr).1 k
  | notIn =>
    obtain ⟨r', e, rfl⟩ := Option.map_eq_some_iff.mp h
    exact (mem_sound e ha hb hu sr).2 k

inductive Ready (h₀ : Heap) (p : Prim) (Q : Value → Shared → Prop) (us : List Value) (s1 : Shared) : Prop
  | mk (β1 : List Addr) (vs : List V) (H1 : Hp) (v : V) (H2 : Hp) : prim p vs H1 = some (v, H2) → VRs β1 vs us → SR h₀ β1 H1 s1.heap → Cont h₀ β1 s1 v H2 Q → Ready h₀ p Q us s1

theorem Amb.room (a : Amb n A) : A.units + 100 < cLine := by have := a.units; unfold cLine; omega

theorem slice_sound {β1 : List Addr} {H1 H2 : Hp} {s : Shared} {v1 v : V} {ua vl vu : Value} {lo hi : Option Int} (hpr : sliceV v1 lo hi H1 = some (v, H2)) (va : VR β1 v1 ua) (pl : IsPart vl lo) (pu : IsPart vu hi) (k : Cont h₀ β1 s v H2 Q) (sr : SR h₀ β1 H1 s.heap) :
    SubscriptOn (model prog w) A ua (.ref s.heap.objs.size) Q E { s with heap := s.heap.push { cls := .type "slice", data := .fields #[vl, vu, .none] } } := by
  cases va with
  | ref ea =>
    obtain ⟨ys, e, hpr⟩ := Option.bind_eq_some_iff.mp hpr
    obtain ⟨o, e, e2⟩ := Option.bind_eq_some_iff.mp e
    cases hpr
    cases o with
    | list xs => cases e2; exact p_sliceL (.inl e) ea pl pu k sr
    | frozen xs => cases e2; exact p_sliceL (.inr e) ea pl pu k sr
    | _ => cases e2
  | _ => exact no_ns hpr

theorem VR.ref_inv {β : List Addr} {a : Nat} {u : Value} (h : VR β (.ref a) u) : ∃ r, u = .ref r ∧ β[a]? = some r := by
  cases h with | ref e => exact ⟨_, rfl, e⟩
theorem VR.int_inv {β : List Addr} {i : Int} {u : Value} (h : VR β (.int i) u) : ∃ t, u = .int i t := by
  cases h with | int _ t => exact ⟨t, rfl⟩
theorem on1_vr {α : Type} {β : List Addr} {vs : List V} {us : List Value} {g : V → Option α} {r : α} (vr : VRs β vs us) (h : on1 vs g = some r) : ∃ v u, us = [u] ∧ VR β v u ∧ g v = some r := by
  match vs, h with
  | [v], h =>
    cases vr with
    | cons a b => cases b; exact ⟨v, _, rfl, a, h⟩
theorem on1r_vr {α : Type} {β : List Addr} {vs : List V} {us : List Value} {g : Nat → Option α} {r : α} (vr : VRs β vs us) (h : on1r vs g = some r) : ∃ a u, us = [.ref u] ∧ β[a]? = some u ∧ g a = some r := by
  match vs, h with
  | [.ref a], h =>
    cases vr with
    | cons x b =>
      cases b
      obtain ⟨u, rfl, e⟩ := x.ref_inv
      exact ⟨a, u, rfl, e, h⟩
theorem sl_inv1 {lo : Bool} {v1 v2 : V} {H : Hp} {r : V × Hp} (h : prim (.slice lo (!lo)) [v1, v2] H = some r) : ∃ j, v2 = .int j ∧ sliceV v1 (if lo then some j else none) (if lo then none else some j) H = some r := by
  cases v2 with
  | int j => cases lo <;> exact ⟨j, rfl, h⟩
  | _ => cases lo <;> exact no_ns h

theorem op_sound {p : Prim} {x : Expr} {xs : List Expr} (ho : OpA sc p x xs) (hp : xs.all plainE = true) (f₀ : Frm P fs mg mb sc env h₀) (hk₀ : ∀ b o, h₀.get? b = some o → s.heap.get? b = some o) (am : Amb n A)
    (h : wpList prog w A env xs (Ready h₀ p Q) E s) : wpAny (model prog w) A (eval x env) Q E s := by
  have f := f₀.keeps hk₀
  cases ho with
  | bin o =>
    refine wpAny_BinOp (wpAny_mono h (fun a s1 h1 => wpAny_mono h1 (fun b s2 h2 => ?_) fun _ _ e => e) fun _ _ e => e)
    obtain ⟨β1, vs, H1, v, H2, hpr, vr, sr, k⟩ := h2
    obtain ⟨v1, v2, rfl, va, vb⟩ := vrs2 vr
    exact bin_sound hpr va vb k sr
  | neg =>
    refine wpAny_UnaryOp (wpAny_mono h (fun a s1 h1 => ?_) fun _ _ e => e)
    obtain ⟨β1, vs, H1, v, H2, hpr, vr, sr, k⟩ := h1
    obtain ⟨v1, rfl, va⟩ := vrs1 vr
    cases va with
    | int i t => cases hpr; exact p_neg k sr
    | _ => exact no_ns hpr
  | cmp o hm =>
    refine wpAny_Compare1 (wpAny_mono h (fun a s1 h1 => wpAny_mono h1 (fun b s2 h2 => ?_) fun _ _ e => e) fun _ _ e => e) hm
    obtain ⟨β1, vs, H1, v, H2, hpr, vr, sr, k⟩ := h2
    obtain ⟨v1, v2, rfl, va, vb⟩ := vrs2 vr
    obtain ⟨r, hr, e⟩ := Option.map_eq_some_iff.mp hpr
    cases e
    exact cmp_sound hr va vb am.room k sr
  | len hg =>
    refine f.callB hg rfl hp (wpList_mono h fun us s1 h1 => ?_)
    obtain ⟨β1, vs, H1, v, H2, hpr, vr, sr, k⟩ := h1
    obtain ⟨v1, u1, rfl, va, hpr⟩ := on1_vr vr hpr
    obtain ⟨m, hm, e⟩ := Option.map_eq_some_iff.mp hpr
    cases e
    cases va with
    | str x t =>
      change ite _ _ _ = _ at hm
      split at hm
      · rename_i hl; cases hm; exact p_lenS hl k sr
      · exact no_ns hm
    | ref e =>
      obtain ⟨ys, hy, rfl⟩ := Option.map_eq_some_iff.mp hm
      exact p_lenL hy e k sr
    | _ => exact no_ns hm
  | isinst t hg hT ht =>
    rename_i x _ _ _
    have hpx : plainE x = true := by simpa using hp
    refine f.callB hg rfl (by simp [hpx]; rfl) ?_
    refine wpAny_mono h (fun u s1 h1 => ?_) fun _ _ e => e
    obtain ⟨β1, vs, H1, v, H2, hpr, vr, sr, k⟩ := h1
    have f1 : Frm P fs mg mb sc env s1.heap := f₀.keeps sr.kept
    have hb : bltn t = some (.type t) := by
      simp only [plainTypes, List.mem_cons, List.not_mem_nil, or_false] at ht
      rcases ht with rfl | rfl | rfl | rfl | rfl <;> rfl
    refine f1.builtin hT hb ?_
    obtain ⟨v1, rfl, va⟩ := vrs1 vr
    obtain ⟨bb, hbb, hpr⟩ := Option.map_eq_some_iff.mp hpr
    cases hpr
    exact p_isinst hbb va ht k sr
  | list hg =>
    refine f.callT hg rfl hp (wpList_mono h fun us s1 h1 => ?_)
    obtain ⟨β1, vs, H1, v, H2, hpr, vr, sr, k⟩ := h1
    obtain ⟨a, r, rfl, e, hpr⟩ := on1r_vr vr hpr
    obtain ⟨ys, hy, hz⟩ := Option.bind_eq_some_iff.mp hpr
    cases hz
    exact p_list hy e k sr
  | attr hn =>
    refine PyProof.Rows.Attribute_Name_ (wpAny_mono h (fun u s1 h1 => ?_) fun _ _ e => e)
    obtain ⟨β1, vs, H1, v, H2, hpr, vr, sr, k⟩ := h1
    obtain ⟨v1, u1, e0, va, hpr⟩ := on1_vr vr hpr
    cases e0
    obtain ⟨y, hy, e⟩ := Option.map_eq_some_iff.mp hpr
    cases e
    cases va with
    | ref ea => exact p_attr f₀.names.inn f₀.names.g hn hy ea k sr
    | _ => exact no_ns hy
  | tuple hg =>
    refine f.callT hg rfl hp (wpList_mono h fun us s1 h1 => ?_)
    obtain ⟨β1, vs, H1, v, H2, hpr, vr, sr, k⟩ := h1
    obtain ⟨a, r, rfl, e, hpr⟩ := on1r_vr vr hpr
    obtain ⟨ys, hy, hz⟩ := Option.bind_eq_some_iff.mp hpr
    cases hz
    exact p_tuple hy e k sr
  | item hs =>
    refine sub_any hs (wpAny_mono h (fun a s1 h1 => wpAny_mono h1 (fun b s2 h2 => ?_) fun _ _ e => e) fun _ _ e => e)
    obtain ⟨β1, vs, H1, v, H2, hpr, vr, sr, k⟩ := h2
    obtain ⟨v1, v2, rfl, va, vb⟩ := vrs2 vr
    obtain ⟨y, hy, e⟩ := Option.map_eq_some_iff.mp hpr
    cases e
    cases vb with
    | int i t =>
      cases va with
      | ref ea =>
        obtain ⟨ys, h1, h2⟩ := Option.bind_eq_some_iff.mp hy
        obtain ⟨kk, h3, h4⟩ := Option.bind_eq_some_iff.mp h2
        exact list_on sr h1 ea (p_itemL h1 ea h3 h4 k sr)
      | _ => exact no_ns hy
    | _ => exact no_ns hy
  | listRange hl hg =>
    refine f.callT hl rfl rfl ?_
    refine f.callT hg rfl hp (wpList_mono h fun us s1 h1 => ?_)
    obtain ⟨β1, vs, H1, v, H2, hpr, vr, sr, k⟩ := h1
    obtain ⟨is, hi, hz⟩ := Option.bind_eq_some_iff.mp hpr
    split at hz
    · rename_i hlen; cases hz
      exact p_listRange am.handled vr hi hlen k sr
    · exact no_ns hz
  | int hg =>
    refine f.callT hg rfl hp (wpList_mono h fun us s1 h1 => ?_)
    obtain ⟨β1, vs, H1, v, H2, hpr, vr, sr, k⟩ := h1
    obtain ⟨v1, u1, rfl, va, hpr⟩ := on1_vr vr hpr
    cases va with
    | bool c => cases hpr; exact p_intB k sr
    | _ => exact no_ns hpr
  | mkDict =>
    obtain ⟨β1, vs, H1, v, H2, hpr, vr, sr, k⟩ := (h : Ready h₀ .mkDict Q [] s)
    cases vr
    cases hpr
    exact p_mkDict (PyProof.Rows.modules_low f.names.nolimit) k sr
  | sliceTo =>
    refine sub_slice (wpAny_mono h (fun a s1 h1 => wpAny_Slice (wpAny_pure (wpAny_mono h1 (fun b s2 h2 => wpAny_pure ?_) fun _ _ e => e))) fun _ _ e => e)
    obtain ⟨β1, vs, H1, v, H2, hpr, vr, sr, k⟩ := h2
    obtain ⟨v1, v2, rfl, va, vb⟩ := vrs2 vr
    obtain ⟨j, rfl, hpr⟩ := sl_inv1 (lo := false) hpr
    obtain ⟨t, rfl⟩ := vb.int_inv
    exact slice_sound hpr va .none (.int _ _) k sr
  | sliceFrom =>
    refine sub_slice (wpAny_mono h (fun a s1 h1 => wpAny_Slice (wpAny_mono h1 (fun b s2 h2 => wpAny_pure (wpAny_pure ?_)) fun _ _ e => e)) fun _ _ e => e)
    obtain ⟨β1, vs, H1, v, H2, hpr, vr, sr, k⟩ := h2
    obtain ⟨v1, v2, rfl, va, vb⟩ := vrs2 vr
    obtain ⟨j, rfl, hpr⟩ := sl_inv1 (lo := true) hpr
    obtain ⟨t, rfl⟩ := vb.int_inv
    exact slice_sound hpr va (.int _ _) .none k sr
  | sliceBoth =>
    refine sub_slice (wpAny_mono h (fun a s1 h1 => wpAny_Slice (wpAny_mono h1 (fun b s2 h2 => wpAny_mono h2 (fun c s3 h3 => wpAny_pure ?_) fun _ _ e => e) fun _ _ e => e)) fun _ _ e => e)
    obtain ⟨β1, vs, H1, v, H2, hpr, vr, sr, k⟩ := h3
    obtain ⟨v1, v2, v3, rfl, va, vb, vc⟩ := vrs3 vr
    cases vb with
    | int j tk =>
      cases vc with
      | int j' tk' => exact slice_sound hpr va (.int _ _) (.int _ _) k sr
      | _ => exact no_ns hpr
    | _ => exact no_ns hpr
  | mkList =>
    refine wpAny_List (wpList_spliced hp (wpList_mono h fun us s1 h1 => ?_))
    obtain ⟨β1, vs, H1, v, H2, hpr, vr, sr, k⟩ := h1
    rw [p_mkL] at hpr
    split at hpr
    · rename_i hl
      cases hpr
      exact ⟨by rw [← vr.length]; exact lim_line _ hl, p_mkList vr hl k sr⟩
    · exact no_ns hpr
  | mkTuple =>
    refine wpAny_Tuple (wpList_spliced hp (wpList_mono h fun us s1 h1 => ?_))
    obtain ⟨β1, vs, H1, v, H2, hpr, vr, sr, k⟩ := h1
    rw [p_mkT] at hpr
    split at hpr
    · rename_i hl
      cases hpr
      exact ⟨by rw [← vr.length]; exact lim_line _ hl, p_mkTuple vr hl k sr⟩
    · exact no_ns hpr

end
end Mine

namespace Mine
open PySem

inductive PE (h₀ : Heap) (β : List Addr) (s : Shared) (Q : Post) (u : Value) (s' : Shared) : Prop
  | mk (β' : List Addr) (v : V) (H' : Hp) : Q v H' → Step β s β' s' → SR h₀ β' H' s'.heap → VR β' v u → PE h₀ β s Q u s'
inductive PEs (h₀ : Heap) (β : List Addr) (s : Shared) (Q : List V → Hp → Prop) (us : List Value) (s' : Shared) : Prop
  | mk (β' : List Addr) (vs : List V) (H' : Hp) : Q vs H' → Step β s β' s' → SR h₀ β' H' s'.heap → VRs β' vs us → PEs h₀ β s Q us s'
inductive PB (h₀ : Heap) (β : List Addr) (s : Shared) (k : Bool → Hp → Prop) (b : Bool) (s' : Shared) : Prop
  | mk (β' : List Addr) (H' : Hp) : k b H' → Step β s β' s' → SR h₀ β' H' s'.heap → PB h₀ β s k b s'

theorem PE.after {h₀ : Heap} {β β' : List Addr} {s s' s'' : Shared} {Q : Post} {u : Value} (t : Step β s β' s') (h : PE h₀ β' s' Q u s'') : PE h₀ β s Q u s'' :=
  let ⟨b, v, H, a, c, d, e⟩ := h; ⟨b, v, H, a, t.trans c, d, e⟩
theorem PB.after {h₀ : Heap} {β β' : List Addr} {s s' s'' : Shared} {k : Bool → Hp → Prop} {u : Bool} (t : Step β s β' s') (h : PB h₀ β' s' k u s'') : PB h₀ β s k u s'' :=
  let ⟨b, H, a, c, d⟩ := h; ⟨b, H, a, t.trans c, d⟩
theorem PE.cont {h₀ : Heap} {β : List Addr} {s : Shared} {Q : Post} {v : V} {H : Hp} (hq : Q v H) : Cont h₀ β s v H (PE h₀ β s Q) :=
  fun _ _ β' st sr vr => ⟨β', v, H, hq, st, sr, vr⟩

noncomputable def Own (env : PySem.Env) (b : Addr) : Prop := b = env.locals ∨ ∃ x, env.cells.lookup x = some b

noncomputable def DAt (h h' : Heap) (b : Addr) : Prop := ∀ o, h.get? b = some o → ∃ o', h'.get? b = some o' ∧ ((∃ es ep, o.data = .dict es ep) → ∃ es ep, o'.data = .dict es ep) ∧ ((∃ es ep, o.data = .dict es ep ∧ StrKeys es) → ∃ es ep, o'.data = .dict es ep ∧ StrKeys es)
theorem KAt.d {h h' : Heap} {b : Addr} (x : KAt h h' b) : DAt h h' b := fun o e => let ⟨o', e', k⟩ := x o e; ⟨o', e', fun ⟨es, ep, q⟩ => ⟨es, ep, k.data.trans q⟩, fun ⟨es, ep, q, r⟩ => ⟨es, ep, k.data.trans q, r⟩⟩
theorem DAt.trans {h h' h'' : Heap} {b : Addr} (x : DAt h h' b) (y : DAt h' h'' b) : DAt h h'' b := fun o e =>
  let ⟨o1, e1, k1⟩ := x o e; let ⟨o2, e2, k2⟩ := y o1 e1; ⟨o2, e2, fun q => k2.1 (k1.1 q), fun q => k2.2 (k1.2 q)⟩
theorem DAt.live {h h' : Heap} {b : Addr} (x : DAt h h' b) (e : ∃ o, h.get? b = some o) : ∃ o, h'.get? b = some o :=
  let ⟨o, e⟩ := e; let ⟨o', e', _⟩ := x o e; ⟨o', e'⟩

structure StepF (env : PySem.Env) (β : List Addr) (s : Shared) (β' : List Addr) (s' : Shared) : Prop where
  same : ∃ h tk, s' = { s with heap := h, toks := tk }
  grow : β <+: β'
  keep : ∀ b, b ∉ β → ¬ Own env b → KAt s.heap s'.heap b
  fresh : ∀ b ∈ β', b ∈ β ∨ s.heap.get? b = Option.none
  own : ∀ b, Own env b → DAt s.heap s'.heap b

theorem Step.toF {env : PySem.Env} {β β' : List Addr} {s s' : Shared} (t : Step β s β' s') (hd : ∀ b, Own env b → b ∉ β) : StepF env β s β' s' :=
  ⟨t.same, t.grow, fun b hb _ => t.keep b hb, t.fresh, fun b ho => (t.keep b (hd b ho)).d⟩

theorem StepF.refl (env : PySem.Env) (β : List Addr) (s : Shared) : StepF env β s β s := ⟨⟨s.heap, s.toks, rfl⟩, List.prefix_refl _, fun _ _ _ => .of fun _ e => e, fun _ hb => .inl hb, fun _ _ => (KAt.of fun _ e => e).d⟩

theorem StepF.trans {env : PySem.Env} {β₁ β₂ β₃ : List Addr} {s₁ s₂ s₃ : Shared} (x : StepF env β₁ s₁ β₂ s₂) (y : StepF env β₂ s₂ β₃ s₃) : StepF env β₁ s₁ β₃ s₃ := by
  obtain ⟨⟨h, t, rfl⟩, g, k, f, w⟩ := x
  obtain ⟨⟨h', t', rfl⟩, g', k', f', w'⟩ := y
  refine ⟨⟨h', t', rfl⟩, g.trans g', fun b hb ho o e => KAt.trans (k b hb ho) (k' b (fun hm => ?_) ho) o e, fun b hb => ?_, fun b ho => (w b ho).trans (w' b ho)⟩
  · rcases f b hm with q | q
    · exact hb q
    · (first | exact clash e q | exact clash q e | (rw [e] at q; cases q))
  · rcases f' b hb with q | q
    · exact f b q
    · by_cases hm : b ∈ β₁
      · exact .inl hm
      · refine .inr ?_
        have q : h.get? b = Option.none := q
        cases e : s₁.heap.get? b with
        | none => rfl
        | some o =>
          have : ∃ o', h.get? b = some o' := by
            by_cases ho : Own env b
            · exact (w b ho).live ⟨o, e⟩
            · exact (k b hm ho).live ⟨o, e⟩
          obtain ⟨o', e'⟩ := this; (first | exact clash e' q | exact clash q e' | (rw [e'] at q; cases q))

theorem StepF.live {env : PySem.Env} {h₀ : Heap} {β β' : List Addr} {H' : Hp} {s s' : Shared} (t : StepF env β s β' s') (sr : SR h₀ β' H' s'.heap) {b : Addr} (hx : ∃ o, s.heap.get? b = some o) : ∃ o, s'.heap.get? b = some o := by
  by_cases hm : b ∈ β
  · exact sr.mem (t.grow.subset hm)
  · by_cases ho : Own env b
    · exact (t.own b ho).live hx
    · exact (t.keep b hm ho).live hx

theorem ER.disj {env : PySem.Env} {ρ : Env} {β : List Addr} {h : Heap} (x : ER env ρ β h) : ∀ b, Own env b → b ∉ β := fun b hb => by
  rcases hb with rfl | ⟨y, hy⟩
  · exact x.locs
  · exact (x.cells y b hy).1

inductive Fr1 (h₀ : Heap) (env : PySem.Env) (β : List Addr) (h : Heap) : Prop
  | mk : env.scope.kind ≠ .module → (L : Addr) → env.frame = some L → L ∉ β → h₀.get? L = Option.none → (o : Obj) → (es : _) → (ep : _) → h.get? L = some o → o.data = .dict es ep → Fr1 h₀ env β h
noncomputable def FrOK (h₀ : Heap) (l : List PySem.Env) (β : List Addr) (h : Heap) : Prop := ∀ env ∈ l, Fr1 h₀ env β h

theorem FrOK.at {h₀ : Heap} {l : List PySem.Env} {β β' : List Addr} {h h' : Heap} (x : FrOK h₀ l β h) (hb : ∀ env ∈ l, ∀ L, env.frame = some L → L ∉ β → (∃ o, h.get? L = some o) → L ∉ β')
    (hk : ∀ env ∈ l, ∀ L, env.frame = some L → L ∉ β → h₀.get? L = Option.none → KAt h h' L) : FrOK h₀ l β' h' := fun env he => by
  obtain ⟨a, L, b, c, d, o, es, ep, e, f⟩ := x env he
  obtain ⟨o', e', k⟩ := hk env he L b c d o e
  exact ⟨a, L, b, hb env he L b c ⟨o, e⟩, d, o', es, ep, e', k.data.trans f⟩
theorem FrOK.step {h₀ : Heap} {l : List PySem.Env} {β β' : List Addr} {s s' : Shared} (x : FrOK h₀ l β s.heap) (t : Step β s β' s') : FrOK h₀ l β' s'.heap :=
  x.at (fun _ _ L _ hL ⟨o, e⟩ hm => by
    rcases t.fresh L hm with q | q
    · exact hL q
    · (first | exact clash e q | exact clash q e | (rw [e] at q; cases q))) fun _ _ L _ hL _ => t.keep L hL

inductive TrAt (h₀ : Heap) (β : List Addr) (hs : Heap) (ea : Addr) (vs : Array Value) (h : Heap) : Prop
  | mk (T : Addr) (oT : Obj) (ts : Array Value) : vs[1]? = some (.ref T) → T ∉ β → h₀.get? T = Option.none → hs.get? T = Option.none → T ≠ ea → h.get? T = some oT → oT.data = .fields ts → ts[3]? = some .none → TrAt h₀ β hs ea vs h
noncomputable def chained : List String := ["NoNote"]
inductive ExcAt (h₀ : Heap) (mg : Str → Option Value) (β : List Addr) (hs : Heap) (c : String) (e : Value) (h : Heap) : Prop
  | mk (ea C : Addr) (ob : Obj) (vs : Array Value) : e = .ref ea → mg (Str.ofString c) = some (.ref C) → ea ∉ β → h₀.get? ea = Option.none → hs.get? ea = Option.none → h.get? ea = some ob → ob.cls = .ref C → ob.data = .fields vs → (vs[2]? = some .none ∨ c ∈ chained) →
    (vs[1]? = some .none ∨ TrAt h₀ β hs ea vs h) → ExcAt h₀ mg β hs c e h

theorem ExcAt.back {h₀ : Heap} {mg : Str → Option Value} {β : List Addr} {hs hs' h : Heap} {c : String} {e : Value} (x : ExcAt h₀ mg β hs' c e h) (hk : ∀ b, b ∉ β → hs'.get? b = Option.none → hs.get? b = Option.none) : ExcAt h₀ mg β hs c e h := by
  obtain ⟨ea, C, ob, vs, a, b, c, d, e, f1, f2, f3, f5, f4⟩ := x
  refine ⟨ea, C, ob, vs, a, b, c, d, hk _ c e, f1, f2, f3, f5, ?_⟩
  rcases f4 with q | ⟨T, oT, ts, t1, t2, t3, t4, r1, r2, r3, r4⟩
  · exact .inl q
  · exact .inr ⟨T, oT, ts, t1, t2, t3, hk _ t2 t4, r1, r2, r3, r4⟩

noncomputable def ExcK (h₀ : Heap) (mg : Str → Option Value) (env : PySem.Env) (β : List Addr) (s : Shared) (X : XP) (E : Value → Shared → Prop) : Prop :=
  ∀ c β' H' s' e, X c H' → StepF env β s β' s' → SR h₀ β' H' s'.heap → ExcAt h₀ mg β' s.heap c e s'.heap → E e s'

theorem ExcK.step {h₀ : Heap} {mg : Str → Option Value} {env : PySem.Env} {β β' : List Addr} {s s' : Shared} {X : XP} {E : Value → Shared → Prop} (x : ExcK h₀ mg env β s X E) (t : StepF env β s β' s') {H' : Hp} (sr : SR h₀ β' H' s'.heap) : ExcK h₀ mg env β' s' X E :=
  fun c β'' H'' s'' e hx t' sr' ex => x c β'' H'' s'' e hx (t.trans t') sr' (ex.back fun b _ hn => by
    cases q : s.heap.get? b with
    | none => rfl
    | some o => obtain ⟨o', e'⟩ := t.live sr ⟨o, q⟩; (first | exact clash hn e' | exact clash e' hn | (rw [hn] at e'; cases e')))

noncomputable def Runs (prog : Program) (w : World) (h₀ : Heap) (mg : Str → Option Value) (n : Nat) (r : Addr) (pv : List Value) (c : List V → Hp → Post → XP → Prop) : Prop :=
  ∀ vs H Q X, c vs H Q X → ∀ A β s E us, AmbC n A → SR h₀ β H s.heap → VRs β vs us →
    (∃ l, A.frames = some l ∧ FrOK h₀ l β s.heap) → (∀ c β' H' s' e, X c H' → Step β s β' s' → SR h₀ β' H' s'.heap → ExcAt h₀ mg β' s.heap c e s'.heap → E e s') →
    wpAny (model prog w) A (PySem.call (.ref r) (pv ++ us)) (PE h₀ β s Q) E s
noncomputable def CallOK (prog : Program) (w : World) (h₀ : Heap) (fs : Tab) (mg : Str → Option Value) (n : Nat) (call : String → List V → Hp → Post → XP → Prop) : Prop :=
  (∀ f ∈ fs.fns, ∀ r, mg (Str.ofString f) = some (.ref r) → Runs prog w h₀ mg n r [] (call f)) ∧ (∀ c ∈ fs.cls, ∀ r, InitAt mg h₀ c r → ∀ x, Runs prog w h₀ mg n r [.ref x] (call (c ++ ".__init__"))) ∧ ∀ cm ∈ fs.meths, ∀ r, MethAt mg h₀ cm.1 cm.2 r → Runs prog w h₀ mg n r [] (call (cm.1 ++ "." ++ cm.2))

section
variable {prog : Program} {w : World} {h₀ : Heap} {P : Prog} {fs : Tab} {mg mb : Str → Option Value} {n : Around → Prop} {C : Ctx}

structure At (P : Prog) (fs : Tab) (mg mb : Str → Option Value) (h₀ : Heap) (n : Around → Prop) (sc : Scope) (env : PySem.Env) (ρ : Env) (β : List Addr) (H : Hp) (s : Shared) (A : Around) (X : XP) (E' : Value → Shared → Prop) : Prop where
  names : Names P fs mg mb h₀
  amb : n A
  sr : SR h₀ β H s.heap
  er : ER env ρ β s.heap
  sc : ScR sc env
  frs : ∃ l, A.frames = some l ∧ FrOK h₀ l β s.heap
  exc : ExcK h₀ mg env β s X E'

theorem At.frm {sc env ρ β H s A} {X : XP} {E' : Value → Shared → Prop} (x : At P fs mg mb h₀ n sc env ρ β H s A X E') : Frm P fs mg mb sc env h₀ := ⟨x.names, x.er.kind, x.er.glob, x.er.bltn, x.sc⟩
theorem At.step {sc env ρ β H s A β' H' s'} {X : XP} {E' : Value → Shared → Prop} (x : At P fs mg mb h₀ n sc env ρ β H s A X E') (t : Step β s β' s') (sr : SR h₀ β' H' s'.heap) : At P fs mg mb h₀ n sc env ρ β' H' s' A X E' :=
  ⟨x.names, x.amb, sr, x.er.step t, x.sc, let ⟨l, a, b⟩ := x.frs; ⟨l, a, b.step t⟩, x.exc.step (t.toF x.er.disj) sr⟩

noncomputable def SoundE (prog : Program) (w : World) (h₀ : Heap) (P : Prog) (fs : Tab) (mg mb : Str → Option Value) (n : Around → Prop) (C : Ctx) (e : E) (x : Expr) (sc : Scope) : Prop :=
  ∀ env ρ β H s A Q X E', At P fs mg mb h₀ n sc env ρ β H s A X E' → wE C e ρ H Q X → wpAny (model prog w) A (eval x env) (PE h₀ β s Q) E' s
noncomputable def SoundT (prog : Program) (w : World) (h₀ : Heap) (P : Prog) (fs : Tab) (mg mb : Str → Option Value) (n : Around → Prop) (C : Ctx) (e : E) (x : Expr) (sc : Scope) : Prop :=
  ∀ env ρ β H s A k X E', At P fs mg mb h₀ n sc env ρ β H s A X E' → wE C e ρ H (fun v H1 => wB v fun b => k b H1) X → wpAny (model prog w) A (isTrue x env (eval x env)) (PB h₀ β s k) E' s

theorem truthy_of {A : Around} {β β' : List Addr} {s s' : Shared} {v : V} {H : Hp} {u : Value} {k : Bool → Hp → Prop} {E : Value → Shared → Prop} (h : wB v fun b => k b H) (t : Step β s β' s') (sr : SR h₀ β' H s'.heap) (vr : VR β' v u) :
    wpAny (model prog w) A (truthy u) (PB h₀ β s k) E s' := by
  cases vr with
  | bool b => exact wpAny_truthy_bool ⟨β', H, h, t, sr⟩
  | _ => exact h.elim

theorem SoundE.toT {e : E} {x : Expr} {sc : Scope} (h : SoundE prog w h₀ P fs mg mb n C e x sc) (hx : ∀ env, isTrue x env (eval x env) = (do let v ← eval x env; standAt x.pos; holding [v] (truthy v))) :
    SoundT prog w h₀ P fs mg mb n C e x sc := fun env ρ β H s A k X E' a hw =>
  wpAny_isTrue_value (wpAny_mono (h env ρ β H s A _ X E' a hw) (fun u s' h' => by obtain ⟨β', v, H', hb, t, sr, vr⟩ := h'; exact truthy_of hb t sr vr) fun _ _ e => e) (hx env)

theorem op_facts {sc : Scope} {p : Prim} {x : Expr} {xs : List Expr} (ho : OpA sc p x xs) : plainE x = true ∧ (∀ env v, foldedSetIterable x env v = pure v) ∧ ((∀ o, p ≠ .cmp o) → ∀ env, isTrue x env (eval x env) = (do let v ← eval x env; standAt x.pos; holding [v] (truthy v))) := by
  cases ho with
  | cmp o _ => exact ⟨rfl, fun _ _ => rfl, fun h => absurd rfl (h _)⟩
  | _ => exact ⟨rfl, fun _ _ => rfl, fun _ _ => rfl⟩
theorem ME.facts {sc : Scope} {e : E} {x : Expr} (h : ME fs sc e x) : plainE x = true ∧ ∀ env v, foldedSetIterable x env v = pure v := by
  cases h with
  | op ho _ => exact ⟨(op_facts ho).1, (op_facts ho).2.1⟩
  | _ => exact ⟨rfl, fun _ _ => rfl⟩
theorem ME.plain {sc : Scope} {e : E} {x : Expr} (h : ME fs sc e x) : plainE x = true := h.facts.1
theorem MEs.plain {sc : Scope} {es : List E} {xs : List Expr} (h : MEs fs sc es xs) : xs.all plainE = true := by
  induction xs generalizing es with
  | nil => rfl
  | cons x xs ih =>
    cases h with
    | cons h1 h2 => rw [List.all_cons, h1.plain, ih h2]; rfl

theorem isVar_kind {sc : Scope} {env : PySem.Env} {id : Str} (h : isVar sc id = true) (hs : ScR sc env) :
    (env.kindOf id = some .local ∨ env.kindOf id = some .cell ∨ env.kindOf id = some .free) ∧ id ≠ (".0" : Str) ∧ (id == ("__debug__" : Str)) = false ∧ (id == ("__classdict__" : Str)) = false := by
  unfold isVar at h
  have := hs id
  have key : kcls (sc.names.lookup id) = 1 ∨ kcls (sc.names.lookup id) = 2 → (env.kindOf id = some .local ∨ env.kindOf id = some .cell ∨ env.kindOf id = some .free) := by
    intro q
    rw [← this] at q
    cases hk : env.kindOf id with
    | none => rw [hk] at q; simp [kcls] at q
    | some k => rw [hk] at q; cases k <;> simp [kcls] at q ⊢
  split at h
  · rename_i e; simp only [Bool.and_eq_true, bne_iff_ne] at h; exact ⟨key (by rw [e]; simp [kcls]), h.1.1, by simpa using h.1.2, by simpa using h.2⟩
  · rename_i e; simp only [Bool.and_eq_true, bne_iff_ne] at h; exact ⟨key (by rw [e]; simp [kcls]), h.1.1, by simpa using h.1.2, by simpa using h.2⟩
  · rename_i e; simp only [Bool.and_eq_true, bne_iff_ne] at h; exact ⟨key (by rw [e]; simp [kcls]), h.1.1, by simpa using h.1.2, by simpa using h.2⟩
  · cases h

theorem sound_var {sc : Scope} {env : PySem.Env} {ρ : Env} {β : List Addr} {H : Hp} {s : Shared} {A : Around} {x : String} {pos : Pos} {v : V} {Q : Value → Shared → Prop} {E : Value → Shared → Prop} {X : XP} {E' : Value → Shared → Prop} (a : At P fs mg mb h₀ n sc env ρ β H s A X E') (hv : isVar sc (Str.ofString x) = true) (hx : ρ x = some v)
    (h : ∀ u, VR β v u → Q u s) : wpAny (model prog w) A (eval (.Name (Str.ofString x) pos) env) Q E s := by
  obtain ⟨hk, h0, hd, hc⟩ := isVar_kind hv a.sc
  refine wpAny_Name ?_ hd
  rcases hk with hk | hk | hk
  · obtain ⟨m, hn, hm⟩ := a.er.ns
    obtain ⟨u, hu, hr⟩ := hm x v hx hk h0
    exact wpAny_loadName_local a.er.kind hk hn hu (h u hr)
  · obtain ⟨c, u, hcl, hic, hr⟩ := a.er.held x v hx (.inl hk)
    exact wpAny_loadName_cell a.er.kind hk hcl hic (h u hr)
  · obtain ⟨c, u, hcl, hic, hr⟩ := a.er.held x v hx (.inr hk)
    exact wpAny_loadName_free a.er.kind hk hcl hic (h u hr) hc

theorem VR.nil_any {v : V} {u : Value} {β : List Addr} (h : VR [] v u) : VR β v u := h.mono (List.nil_prefix)

theorem plainBase_eq {o : Expr} {name : Str} {env : PySem.Env} (h : plainBase o = true) : attributeBase o name env (eval o env) = eval o env := by
  cases o with
  | Call f args kws pos =>
    cases f with
    | Name id p =>
      cases args with
      | nil => cases kws with
        | nil => cases h
        | cons _ _ => rfl
      | cons _ _ => rfl
    | _ => rfl
  | _ => rfl

theorem recv_list {β1 : List Addr} {v : V} {H1 : Hp} {ov : Value} {s₁ : Shared} (vr : VR β1 v ov) (sr : SR h₀ β1 H1 s₁.heap) (hr : recvOk .append v H1 = true) :
    s₁.TypeIs ov "list" ∧ (∀ a, ov = .ref a → ∃ ob, s₁.heap.get? a = some ob ∧ ob.dict = none) := by
  cases vr with
  | ref e =>
    simp only [recvOk] at hr
    split at hr
    · rename_i xs ha
      obtain ⟨us, m, _, eo, _, _⟩ := sr.list ha e
      exact ⟨⟨_, eo, rfl⟩, fun a ea => by cases ea; exact ⟨_, eo, rfl⟩⟩
    · cases hr
  | _ => cases hr

theorem meth_sound {env : PySem.Env} {s : Shared} {A : Around} {p : Prim} {m : String} {o x : Expr} {apos pos : Pos} {Q : Value → Shared → Prop} {E : Value → Shared → Prop} (hm : methName p = some m) (hl : (apos.endLine == pos.line) = true) (hpl : plainE x = true)
    (hbase : plainBase o = true)
    (h : wpAny (model prog w) A (eval o env) (fun ov s₁ => (∃ β1 v H1, recvOk p v H1 = true ∧ VR β1 v ov ∧ SR h₀ β1 H1 s₁.heap) ∧
      wpAny (model prog w) A (eval x env) (fun u s2 => Ready h₀ p Q [ov, u] s2) E s₁) E s) :
    wpAny (model prog w) A (eval (.Call (.Attribute o (Str.ofString m) apos) [x] [] pos) env) Q E s := by
  have hstar : starEach [x] env = [(false, eval x env)] := starEach_plain hpl
  have hfew : ((backTo pos (starEach [x] env)).all (fun x => !x.1) && (backToKw pos (keywordEach [] env)).all (fun x => x.1.isSome) && decide ([x].length + ([] : List Keyword).length + (if ([] : List Keyword).isEmpty then 0 else 1) < 30)) = true := by
    rw [hstar]; rfl
  have tail : ∀ {id : String} {ov : Value} {s₁ : Shared}, (∀ u s2, Ready h₀ p Q [ov, u] s2 → wpAny (model prog w) A (call (.builtin id) [ov, u]) Q E s2) → wpAny (model prog w) A (eval x env) (fun u s2 => Ready h₀ p Q [ov, u] s2) E s₁ →
      wpAny (model prog w) A (callWith pos (.builtin id) [ov] (backTo pos (starEach [x] env)) []) Q E s₁ := fun hc hx => by
    refine Calls.callWith_builtin (backTo_any (by simp [hpl])) ?_
    rw [hstar]
    exact Calls.evalArgs_plain (Calls.spliced_cons (wpAny_mono hx (fun u s2 h2 => Calls.spliced_nil (hc u s2 h2)) fun _ _ e => e))
  cases p <;> simp only [methName] at hm <;> (try cases hm)
  · -- append
    refine wpAny_Call_method (T := "list") (id := "list.append") (plainBase_eq hbase) hfew hl F.plainAttrs_list F.slot_list_append F.type_list_append (wpAny_mono h (fun ov s₁ h₁ => ?_) fun _ _ e => e)
    obtain ⟨⟨β1, v, H1, hr, vr, sr⟩, hx⟩ := h₁
    obtain ⟨hT, hd⟩ := recv_list vr sr hr
    refine ⟨hT, hd, tail (fun u s2 h2 => ?_) hx⟩
    obtain ⟨β1, vs, H1, v, H2, hpr, vr, sr, k⟩ := h2
    obtain ⟨v1, v2, rfl, va, vb⟩ := vrs2 vr
    cases va with
    | ref ea =>
      rw [p_app, m_app] at hpr
      obtain ⟨xs, e, hpr⟩ := Option.bind_eq_some_iff.mp hpr
      split at hpr
      · rename_i hlim; cases hpr; exact p_append (listOf_some e) ea hlim vb k sr
      · exact no_ns hpr
    | _ => exact no_ns hpr
  · -- pop
    refine wpAny_Call_method (T := "list") (id := "list.pop") (plainBase_eq hbase) hfew hl F.plainAttrs_list F.slot_list_pop F.type_list_pop (wpAny_mono h (fun ov s₁ h₁ => ?_) fun _ _ e => e)
    obtain ⟨⟨β1, v, H1, hr, vr, sr⟩, hx⟩ := h₁
    obtain ⟨hT, hd⟩ := recv_list vr sr hr
    refine ⟨hT, hd, tail (fun u s2 h2 => ?_) hx⟩
    obtain ⟨β1, vs, H1, v, H2, hpr, vr, sr, k⟩ := h2
    obtain ⟨v1, v2, rfl, va, vb⟩ := vrs2 vr
    cases va with
    | ref ea =>
      cases vb with
      | int i t =>
        rw [p_popP, m_pop] at hpr
        obtain ⟨xs, e, hpr⟩ := Option.bind_eq_some_iff.mp hpr
        obtain ⟨kk, h1, h2⟩ := Option.bind_eq_some_iff.mp hpr
        obtain ⟨y, h3, h4⟩ := Option.map_eq_some_iff.mp h2
        cases h4
        exact p_pop (listOf_some e) ea h1 h3 k sr
      | _ => exact no_ns hpr
    | _ => exact no_ns hpr
  · -- index
    refine wpAny_Call_method (T := "list") (id := "list.index") (plainBase_eq hbase) hfew hl F.plainAttrs_list F.slot_list_index F.type_list_index (wpAny_mono h (fun ov s₁ h₁ => ?_) fun _ _ e => e)
    obtain ⟨⟨β1, v, H1, hr, vr, sr⟩, hx⟩ := h₁
    obtain ⟨hT, hd⟩ := recv_list vr sr hr
    refine ⟨hT, hd, tail (fun u s2 h2 => ?_) hx⟩
    obtain ⟨β1, vs, H1, v, H2, hpr, vr, sr, k⟩ := h2
    obtain ⟨v1, v2, rfl, va, vb⟩ := vrs2 vr
    cases va with
    | ref ea =>
      cases vb with
      | int i t =>
        rw [p_idx, m_idx] at hpr
        obtain ⟨xs, e, hpr⟩ := Option.bind_eq_some_iff.mp hpr
        obtain ⟨is, h1, h2⟩ := Option.bind_eq_some_iff.mp hpr
        split at h2
        · rename_i hmem; cases h2; exact p_index (listOf_some e) ea h1 hmem k sr
        · exact no_ns h2
      | _ => exact no_ns hpr
    | _ => exact no_ns hpr

end
end Mine

namespace Mine
open PySem

structure Itr (prog : Program) (w : World) (A : Around) (h₀ : Heap) (β₀ : List Addr) (I : Addr) (G : Hp → Prop) (items : List V) (St : Nat → Heap → Prop) : Prop where
  frame : ∀ i h h', St i h → (∀ o, h.get? I = some o → h'.get? I = some o) → St i h'
  live : ∀ i h, St i h → ∃ o, h.get? I = some o
  nd : ∀ i h, St i h → ∀ o, h.get? I = some o → ∀ es ep, o.data ≠ .dict es ep
  item : ∀ i v β H (s : Shared) (Q : Option Value → Shared → Prop) E, items[i]? = some v → St i s.heap → β₀ <+: β → SR h₀ β H s.heap → G H → I ∉ β →
    (∀ u h' tk, VR β v u → St (i + 1) h' → (∀ b o, b ≠ I → s.heap.get? b = some o → h'.get? b = some o) → Q (some u) { s with heap := h', toks := tk }) → wpAny (model prog w) A (pyNext (.ref I)) Q E s
  done : ∀ β H (s : Shared) (Q : Option Value → Shared → Prop) E, St items.length s.heap → β₀ <+: β → SR h₀ β H s.heap → G H → I ∉ β →
    (∀ h' tk, (∀ b o, b ≠ I → s.heap.get? b = some o → h'.get? b = some o) → Q none { s with heap := h', toks := tk }) → wpAny (model prog w) A (pyNext (.ref I)) Q E s
  self : ∀ i (s : Shared) (Q : Value → Shared → Prop) E, St i s.heap → Q (.ref I) s → wpAny (model prog w) A (pyIter (.ref I)) Q E s

theorem Itr.stay {prog : Program} {w : World} {A : Around} {h₀ : Heap} {β₀ : List Addr} {I : Addr} {G : Hp → Prop} {items : List V} {St : Nat → Heap → Prop} (x : Itr prog w A h₀ β₀ I G items St) {i : Nat} {h h' : Heap} (st : St i h) (k : KAt h h' I) : St i h' :=
  x.frame _ _ _ st fun o e => k.exact e (x.nd _ _ st o e)

section
variable {prog : Program} {w : World} {A : Around} {h₀ : Heap} {β₀ : List Addr} {I : Addr}

theorem prefix_get {β β' : List Addr} (h : β <+: β') {a : Nat} {r : Addr} (e : β[a]? = some r) : β'[a]? = some r := by
  obtain ⟨t, rfl⟩ := h
  rw [List.getElem?_append_left (List.getElem?_eq_some_iff.mp e).1]; exact e

theorem itr_list (hh : A.handled = none) {a : Nat} {r : Addr} {items : List V} {o : O} (hr : β₀[a]? = some r) (ho : o = .list items ∨ o = .frozen items) :
    Itr prog w A h₀ β₀ I (fun H => H[a]? = some o) items (fun i h => h.IsListIter I r i) where
  frame := fun _ _ _ st hk => let ⟨o, e, x⟩ := st; ⟨o, hk _ e, x⟩
  live := fun _ _ st => let ⟨o, e, _⟩ := st; ⟨o, e⟩
  nd := fun _ _ st o e es ep q => by obtain ⟨o', e', _, d⟩ := st; (first | exact clash e e' | exact clash e' e | (rw [e] at e'; cases e')); (first | exact clash q d | exact clash d q | (rw [q] at d; cases d))
  item := fun i v β H s Q E hv st hp sr hG hI hQ => by
    have hr' := prefix_get hp hr
    obtain ⟨us, hl, vr, _⟩ := sr.listOf (ho.imp (fun e => e ▸ hG) (fun e => e ▸ hG)) hr'
    obtain ⟨u, hu, hvu⟩ := vr.get hv
    exact wpAny_pyNext_list_item st hl (by rw [List.getElem?_toArray]; exact hu) fun h' st' hs' => hQ u h' s.toks hvu st' fun b o hb e => hs'.extBut b o hb e
  done := fun β H s Q E st hp sr hG hI hQ => by
    have hr' := prefix_get hp hr
    obtain ⟨us, hl, vr, _⟩ := sr.listOf (ho.imp (fun e => e ▸ hG) (fun e => e ▸ hG)) hr'
    exact wpAny_pyNext_list_end hh st hl (by rw [List.getElem?_toArray, ← Option.not_isSome_iff_eq_none]; simp [vr.length]) fun h' he => hQ h' s.toks fun b o hb e => he b o hb e
  self := fun i s Q E st hQ => wpAny_pyIter_listiter st hQ

theorem SR.tupleOf {s : Shared} {β : List Addr} {H : Hp} (x : SR h₀ β H s.heap) {a : Nat} {r : Addr} {xs : List V} (ha : H[a]? = some (.tuple xs)) (hr : β[a]? = some r) :
    ∃ us, s.heap.IsTuple r us.toArray ∧ VRs β xs us ∧ xs.length ≤ lim := by
  obtain ⟨r', e', sl⟩ := x.at ha
  (first | exact clash hr e' | exact clash e' hr | (rw [hr] at e'; cases e'))
  cases sl with
  | own a b c => cases c with | tuple p q => exact ⟨_, ⟨_, b, rfl, _, rfl⟩, p, q⟩

theorem itr_tuple (hh : A.handled = none) {a : Nat} {r : Addr} {items : List V} (hr : β₀[a]? = some r) :
    Itr prog w A h₀ β₀ I (fun H => H[a]? = some (.tuple items)) items (fun i h => h.IsTupleIter I r i) where
  frame := fun _ _ _ st hk => let ⟨o, e, x⟩ := st; ⟨o, hk _ e, x⟩
  live := fun _ _ st => let ⟨o, e, _⟩ := st; ⟨o, e⟩
  nd := fun _ _ st o e es ep q => by obtain ⟨o', e', _, d⟩ := st; (first | exact clash e e' | exact clash e' e | (rw [e] at e'; cases e')); (first | exact clash q d | exact clash d q | (rw [q] at d; cases d))
  item := fun i v β H s Q E hv st hp sr hG hI hQ => by
    obtain ⟨us, hl, vr, _⟩ := sr.tupleOf hG (prefix_get hp hr)
    obtain ⟨u, hu, hvu⟩ := vr.get hv
    exact wpAny_pyNext_tuple_item st hl (by rw [List.getElem?_toArray]; exact hu) fun h' st' hs' => hQ u h' s.toks hvu st' fun b o hb e => hs'.extBut b o hb e
  done := fun β H s Q E st hp sr hG hI hQ => by
    obtain ⟨us, hl, vr, _⟩ := sr.tupleOf hG (prefix_get hp hr)
    exact wpAny_pyNext_tuple_end hh st hl (by rw [List.getElem?_toArray, ← Option.not_isSome_iff_eq_none]; simp [vr.length]) fun h' he => hQ h' s.toks fun b o hb e => he b o hb e
  self := fun i s Q E st hQ => wpAny_pyIter_tupleiter st hQ

theorem rangeI_get {a b c : Int} {i : Nat} {v : V} (h : ((rangeI a b c).map V.int)[i]? = some v) : v = .int (a + i * c) ∧ i < (rangeI a b c).length := by
  rw [List.getElem?_map] at h
  obtain ⟨x, hx, rfl⟩ := Option.map_eq_some_iff.mp h
  have hlt := (List.getElem?_eq_some_iff.mp hx).1
  simp only [rangeI, List.getElem?_map] at hx
  obtain ⟨y, hy, rfl⟩ := Option.map_eq_some_iff.mp hx
  rw [List.getElem?_range (by simpa [rangeI] using hlt)] at hy
  cases hy
  exact ⟨rfl, hlt⟩

theorem itr_range (hh : A.handled = none) (a b c : Int) :
    Itr prog w A h₀ β₀ I (fun _ => True) ((rangeI a b c).map .int) (fun i h => IsRangeIter h I (a + (i : Nat) * c) (((rangeI a b c).length : Int) - (i : Nat)) c) where
  frame := fun _ _ _ st hk => hk _ st
  live := fun _ _ st => ⟨_, st⟩
  nd := fun _ _ st o e es ep q => by
    have e' := st
    unfold IsRangeIter at e'
    (first | exact clash e e' | exact clash e' e | (rw [e] at e'; cases e')); cases q
  item := fun i v β H s Q E hv st hp sr hG hI hQ => by
    obtain ⟨rfl, hlt⟩ := rangeI_get hv
    refine wpAny_pyNext_range_item st (by omega) fun h' hit' hs' => ?_
    refine hQ _ h' _ (.int _ _) ?_ fun b o hb e => hs'.extBut b o hb e
    have e1 : a + ((i + 1 : Nat) : Int) * c = a + (i : Int) * c + c := by rw [Int.natCast_add, Int.add_mul]; simp; omega
    have e2 : ((rangeI a b c).length : Int) - ((i + 1 : Nat) : Int) = ((rangeI a b c).length : Int) - (i : Int) - 1 := by omega
    rw [e1, e2]; exact hit'
  done := fun β H s Q E st hp sr hG hI hQ => by
    rw [List.length_map] at st
    exact wpAny_pyNext_range_end hh st (by omega) fun h' he' => hQ h' s.toks fun b o hb e => he' b o hb e
  self := fun _ _ _ _ st hQ => wpAny_pyIter_rangeiter st hQ

inductive Made (prog : Program) (w : World) (A : Around) (h₀ : Heap) (β : List Addr) (s : Shared) (G : Hp → Prop) (items : List V) (it : Value) (s' : Shared) : Prop
  | mk (I : Addr) (St : Nat → Heap → Prop) (h : Heap) (tk : Nat) : it = .ref I → s' = { s with heap := h, toks := tk } → (∀ b o, s.heap.get? b = some o → h.get? b = some o) → s.heap.get? I = Option.none → St 0 h → Itr prog w A h₀ β I G items St → Made prog w A h₀ β s G items it s'

theorem iter_seq {β : List Addr} {H : Hp} {s : Shared} {a : Nat} {r : Addr} {items : List V} {E : Value → Shared → Prop} (hh : A.handled = none) (sr : SR h₀ β H s.heap) (hr : β[a]? = some r) (ha : seqOf H a = some items) :
    wpAny (model prog w) A (pyIter (.ref r)) (Made prog w A h₀ β s (fun H' => H'[a]? = H[a]?) items) E s := by
  have fresh : s.heap.get? s.heap.objs.size = Option.none := get_none_of_le (Nat.le_refl _)
  unfold seqOf at ha
  split at ha
  · rename_i xs e; cases ha
    obtain ⟨us, hl, vr, _⟩ := sr.listOf (.inl e) hr
    refine wpAny_pyIter_list hl ⟨_, fun i h => h.IsListIter s.heap.objs.size r i, _, s.toks, rfl, rfl, fun b o e => Heap.get?_push_of_some _ e, fresh, ⟨_, Heap.get?_push_size _ rfl, rfl, rfl⟩, ?_⟩
    rw [e]; exact itr_list hh hr (.inl rfl)
  · rename_i xs e; cases ha
    obtain ⟨us, hl, vr, _⟩ := sr.listOf (.inr e) hr
    refine wpAny_pyIter_list hl ⟨_, fun i h => h.IsListIter s.heap.objs.size r i, _, s.toks, rfl, rfl, fun b o e => Heap.get?_push_of_some _ e, fresh, ⟨_, Heap.get?_push_size _ rfl, rfl, rfl⟩, ?_⟩
    rw [e]; exact itr_list hh hr (.inr rfl)
  · rename_i xs e; cases ha
    obtain ⟨us, hl, vr, _⟩ := sr.tupleOf e hr
    refine wpAny_pyIter_tuple hl ⟨_, fun i h => h.IsTupleIter s.heap.objs.size r i, _, s.toks, rfl, rfl, fun b o e => Heap.get?_push_of_some _ e, fresh, ⟨_, Heap.get?_push_size _ rfl, rfl, rfl⟩, ?_⟩
    rw [e]; exact itr_tuple hh hr
  · cases ha

theorem iter_range {β : List Addr} {s : Shared} {vs : List V} {us : List Value} {is : List Int} {E : Value → Shared → Prop} (hh : A.handled = none) (vr : VRs β vs us) (hr : rangeOf vs = some is) :
    wpAny (model prog w) A (call (.type "range") us) (fun x s1 => wpAny (model prog w) A (pyIter x) (Made prog w A h₀ β s (fun _ => True) (is.map .int)) E s1) E s := by
  have fin : ∀ (a b c : Int) (t u v : Tok) (tk : Nat), 0 < c → a.natAbs ≤ lim → b.natAbs ≤ lim → c.natAbs ≤ lim → wpAny (model prog w) A (pyIter (.ref s.heap.objs.size)) (Made prog w A h₀ β s (fun _ => True) ((rangeI a b c).map .int)) E
      { s with heap := s.heap.push { cls := .type "range", data := .fields #[.int a t, .int b u, .int c v] }, toks := tk } := by
    intro a b c t u v tk hc ha hb hcl
    refine wpAny_pyIter_range (IsRange.new ..) (small_lim ha hb hcl hc) ⟨_, _, _, tk, rfl, rfl, fun b o e => Heap.get?_push_of_some _ (Heap.get?_push_of_some _ e), get_none_of_le (by simp [Heap.size_push]), ?_, itr_range hh a b c⟩
    have e1 : (a + ((0 : Nat) : Int) * c) = a := by simp
    have e2 : (((rangeI a b c).length : Int) - ((0 : Nat) : Int)) = Builtin.Range.rangeSize a b c := by rw [rangeSize_pos hc]; simp
    rw [e1, e2]
    exact Heap.get?_push_size _ rfl
  unfold rangeOf at hr
  split at hr
  · split at hr
    · rename_i hb; cases hr
      cases vr with | cons va vr => cases vr; cases va with | int _ t => exact call_range_1 (fin 0 _ 1 _ _ _ _ (by omega) (by decide) hb (by decide))
    · cases hr
  · split at hr
    · rename_i hb; cases hr
      cases vr with | cons va vr => cases vr with | cons vb vr => cases vr; cases va with | int _ t => cases vb with | int _ u => exact call_range_2 (fin _ _ 1 _ _ _ _ (by omega) hb.2.1 hb.2.2 (by decide))
    · cases hr
  · split at hr
    · rename_i hb; cases hr
      cases vr with | cons va vr => cases vr with | cons vb vr => cases vr with | cons vc vr => cases vr; cases va with | int _ t => cases vb with | int _ u => cases vc with | int _ v =>
        exact call_range_3 (by omega) (fin _ _ _ _ _ _ _ hb.2.2.2.1 hb.2.1 hb.2.2.1 hb.2.2.2.2) (.inl (PyProof.noPylong_small (by have := hb.2.2.2.2; unfold lim at this; omega)))
    · cases hr
  · cases hr

end
end Mine

namespace Mine
open PySem

noncomputable def clFrom (cells : List (Str × Addr)) : List (Str × NameKind) → List (Str × Addr) → List (Str × Addr)
  | [], acc => acc
  | (n, k) :: r, acc => if k == .free then clFrom cells r (match cells.lookup n with | some c => (n, c) :: acc | none => acc) else clFrom cells r acc

theorem closure_eq {scope : Scope} {env : PySem.Env} (h : ∀ n, (n, NameKind.free) ∈ scope.names → ∃ c, env.cells.lookup n = some c) : closureFor scope env = pure (clFrom env.cells scope.names []) := by
  have key : ∀ (names : List (Str × NameKind)) (acc : List (Str × Addr)), (∀ n, (n, NameKind.free) ∈ names → ∃ c, env.cells.lookup n = some c) →
      (forIn (m := Sem) names acc fun (x : Str × NameKind) cs => match x with | (name, kind) => if kind == .free then (do let c ← cellOf env name; pure (.yield ((name, c) :: cs))) else pure (.yield cs)) = pure (clFrom env.cells names acc) := by
    intro names
    induction names with
    | nil => intro acc _; rfl
    | cons x r ih =>
      intro acc hx
      obtain ⟨n, k⟩ := x
      rw [List.forIn_cons]
      have hr : ∀ n, (n, NameKind.free) ∈ r → ∃ c, env.cells.lookup n = some c := fun n hn => hx n (List.mem_cons_of_mem _ hn)
      cases hk : (k == NameKind.free) with
      | true =>
        have : k = .free := beq_iff_eq.mp hk
        subst this
        obtain ⟨c, hc⟩ := hx n List.mem_cons_self
        simp only [hk, if_true, cellOf, hc, clFrom, pure_bind]
        exact ih _ hr
      | false =>
        simp only [hk, Bool.false_eq_true, if_false, clFrom, pure_bind]
        exact ih _ hr
  unfold closureFor
  have := key scope.names [] h
  simp only [bind_pure]
  exact this

theorem clFrom_lookup {cells : List (Str × Addr)} {y : Str} : ∀ {names : List (Str × NameKind)} {acc : List (Str × Addr)} {c : Addr}, (clFrom cells names acc).lookup y = some c →
    acc.lookup y = some c ∨ cells.lookup y = some c := by
  intro names
  induction names with
  | nil => intro acc c h; exact .inl h
  | cons x r ih =>
    intro acc c h
    obtain ⟨n, k⟩ := x
    simp only [clFrom] at h
    split at h
    · rcases ih h with q | q
      · split at q
        · rename_i c' hc
          rw [List.lookup_cons] at q
          split at q
          · rename_i e; cases q; rw [beq_iff_eq.mp e]; exact .inr hc
          · exact .inl q
        · exact .inl q
      · exact .inr q
    · exact ih h

theorem clFrom_has {cells : List (Str × Addr)} {y : Str} {c : Addr} (hc : cells.lookup y = some c) : ∀ {names : List (Str × NameKind)} {acc : List (Str × Addr)}, (y, NameKind.free) ∈ names ∨ acc.lookup y = some c →
    (∀ c', acc.lookup y = some c' → c' = c) → (clFrom cells names acc).lookup y = some c := by
  intro names
  induction names with
  | nil => intro acc h _; exact h.elim (fun q => nomatch q) id
  | cons x r ih =>
    intro acc h hu
    obtain ⟨n, k⟩ := x
    simp only [clFrom]
    split
    · rename_i hk
      split
      · rename_i c' hc'
        have hu' : ∀ c'', List.lookup y ((n, c') :: acc) = some c'' → c'' = c := fun c'' q => by
          rw [List.lookup_cons] at q
          split at q
          · rename_i e; cases q; rw [← beq_iff_eq.mp e, hc] at hc'; cases hc'; rfl
          · exact hu _ q
        refine ih ?_ hu'
        rcases h with h | h
        · rcases List.mem_cons.mp h with q | q
          · cases q
            right; rw [List.lookup_cons]; simp; (first | exact clash hc hc' | exact clash hc' hc | (rw [hc] at hc'; cases hc')); rfl
          · exact .inl q
        · right
          rw [List.lookup_cons]
          split
          · rename_i e; rw [← beq_iff_eq.mp e, hc] at hc'; cases hc'; rfl
          · exact h
      · rename_i hn
        refine ih ?_ hu
        rcases h with h | h
        · rcases List.mem_cons.mp h with q | q
          · cases q; (first | exact clash hc hn | exact clash hn hc | (rw [hc] at hn; cases hn))
          · exact .inl q
        · exact .inr h
    · rename_i hk
      refine ih ?_ hu
      rcases h with h | h
      · rcases List.mem_cons.mp h with q | q
        · cases q; exact absurd rfl hk
        · exact .inl q
      · exact .inr h

theorem lookup_map (g : Str → NameKind → NameKind) {x : Str} : ∀ (names : List (Str × NameKind)), (names.map fun nk => (nk.1, g nk.1 nk.2)).lookup x = (names.lookup x).map (g x)
  | [] => rfl
  | (n, k) :: r => by
    rw [List.map_cons, List.lookup_cons, List.lookup_cons]
    cases hx : x == n with
    | true => rw [beq_iff_eq.mp hx]; rfl
    | false => exact lookup_map g r

theorem lookup_relabel {env : PySem.Env} {x : Str} (names : List (Str × NameKind)) :
    (names.map fun (n, k) => if (k == NameKind.free && env.scope.kind == .function && env.kindOf n == some .cell) then (n, NameKind.cell) else (n, k)).lookup x =
      (names.lookup x).map fun k => if (k == NameKind.free && env.scope.kind == .function && env.kindOf x == some .cell) then NameKind.cell else k := by
  rw [← lookup_map (fun n k => if (k == NameKind.free && env.scope.kind == .function && env.kindOf n == some .cell) then NameKind.cell else k) names]
  congr 2
  funext nk
  obtain ⟨n, k⟩ := nk
  dsimp only
  split <;> rfl

theorem compEnv_kind (scope : Scope) (cl : List (Str × Addr)) (Cf : Addr) (env : PySem.Env) (x : Str) :
    (compEnvC scope cl Cf env).kindOf x = (scope.names.lookup x).map fun k => if (k == NameKind.free && env.scope.kind == .function && env.kindOf x == some .cell) then NameKind.cell else k :=
  lookup_relabel scope.names

theorem comp_scr (scope : Scope) (cl : List (Str × Addr)) (Cf : Addr) (env : PySem.Env) : ScR scope (compEnvC scope cl Cf env) := by
  intro x
  rw [compEnv_kind]
  cases h : scope.names.lookup x with
  | none => rfl
  | some k =>
    show kcls (some (if _ then _ else _)) = _
    split
    · rename_i hc
      simp only [Bool.and_eq_true] at hc
      rw [beq_iff_eq.mp hc.1.1]; rfl
    · rfl

theorem mem_of_lookup' {names : List (Str × NameKind)} {x : Str} {k : NameKind} (h : names.lookup x = some k) : (x, k) ∈ names := mem_of_lookup h

structure CompOk (sc scope : Scope) (xs : List Str) : Prop where
  kind : scope.kind = .function
  loc : ∀ x ∈ xs, scope.names.lookup x = some .local
  dot : ∀ x ∈ xs, x ≠ (".0" : Str)
  nocell : ∀ y ∈ scope.names, y.2 ≠ .cell
  names : ∀ y ∈ scope.names, y.2 = .local → scope.names.lookup y.1 = some .local
  only : ∀ y, (y, NameKind.local) ∈ scope.names → y ∈ xs ∨ y = (".0" : Str)
  free : ∀ y, (y, NameKind.free) ∈ scope.names → kcls (sc.names.lookup y) = 2

theorem compOk_of {sc scope : Scope} {xs : List Str} (h : compOk sc scope xs = true) : CompOk sc scope xs := by
  unfold compOk at h
  simp only [Bool.and_eq_true, decide_eq_true_eq, bne_iff_ne, List.all_eq_true] at h
  obtain ⟨⟨h1, h2⟩, h4⟩ := h
  refine ⟨h1, fun x hx => beq_iff_eq.mp (h2 x hx).1, fun x hx => (h2 x hx).2, fun y hy e => ?_, fun y hy e => ?_, fun y hy => ?_, fun y hy => ?_⟩
  · have := h4 y hy; (first | exact clash e this | exact clash this e | (rw [e] at this; cases this))
  · have := h4 y hy; rw [e] at this; simp only [Bool.and_eq_true] at this; exact beq_iff_eq.mp this.2
  · have := h4 _ hy
    simp only [Bool.and_eq_true, Bool.or_eq_true, beq_iff_eq, List.contains_iff_mem] at this
    exact this.1
  · have := h4 _ hy
    simp only at this
    split at this
    · rename_i e; rw [e]; rfl
    · rename_i e; rw [e]; rfl
    · cases this

section
variable {prog : Program} {w : World} {h₀ : Heap} {P : Prog} {fs : Tab} {mg mb : Str → Option Value} {n : Around → Prop} {C : Ctx}

theorem comp_er {sc scope : Scope} {env : PySem.Env} {ρ ρ' : Env} {β : List Addr} {h : Heap} {xs : List String} {Cf : Addr} {m : Str → Option Value} (er : ER env ρ β h) (hs : ScR sc env) (ok : CompOk sc scope (xs.map Str.ofString))
    (hn : h.Ns Cf m) (hm : ∀ y ∈ xs, ∀ v, ρ' y = some v → ∃ u, m (Str.ofString y) = some u ∧ VR β v u) (hρ : ∀ y, y ∉ xs → ρ' y = ρ y) (hC : Cf ∉ β) (hcl : ∀ y c, env.cells.lookup y = some c → c ≠ Cf) :
    ER (compEnvC scope (clFrom env.cells scope.names []) Cf env) ρ' β h := by
  have lk : ∀ {y c}, (clFrom env.cells scope.names []).lookup y = some c → env.cells.lookup y = some c := fun q => by
    rcases clFrom_lookup q with q | q
    · cases q
    · exact q
  have lk' : ∀ {y c}, env.cells.lookup y = some c → (y, NameKind.free) ∈ scope.names → (clFrom env.cells scope.names []).lookup y = some c := fun hc hf => clFrom_has hc (.inl hf) fun _ q => nomatch q
  have isFree : ∀ {y : Str}, (compEnvC scope (clFrom env.cells scope.names []) Cf env).kindOf y = some .cell ∨ (compEnvC scope (clFrom env.cells scope.names []) Cf env).kindOf y = some .free → (y, NameKind.free) ∈ scope.names := by
    intro y q
    rw [compEnv_kind] at q
    cases hk : scope.names.lookup y with
    | none => rw [hk] at q; simp at q
    | some k =>
      rw [hk] at q
      simp only [Option.map_some] at q
      have hmem := mem_of_lookup' hk
      split at q
      · rename_i hc
        simp only [Bool.and_eq_true] at hc
        rw [beq_iff_eq.mp hc.1.1] at hmem; exact hmem
      · rcases q with q | q
        · cases q; exact absurd rfl (ok.nocell _ hmem)
        · cases q; exact hmem
  have envKind : ∀ {y : Str}, (y, NameKind.free) ∈ scope.names → env.kindOf y = some .cell ∨ env.kindOf y = some .free := by
    intro y hy
    have h1 := ok.free y hy
    rw [← hs y] at h1
    cases hk : env.kindOf y with
    | none => (first | exact clash hk h1 | exact clash h1 hk | (rw [hk] at h1; cases h1))
    | some k => rw [hk] at h1; cases k <;> first | exact .inl rfl | exact .inr rfl | cases h1
  refine ⟨ok.kind, er.glob, er.bltn, ⟨m, hn, fun y v' hy hk hd => ?_⟩, fun y c hc => er.cell y c (lk hc), fun y v' hy hk => ?_, fun y hk => ?_, fun y z c h1 h2 => er.apart y z c (lk h1) (lk h2), hC, fun y c hc => ⟨(er.cells y c (lk hc)).1, hcl y c (lk hc)⟩⟩
  · have hl : (Str.ofString y, NameKind.local) ∈ scope.names := by
      rw [compEnv_kind] at hk
      cases hk' : scope.names.lookup (Str.ofString y) with
      | none => (first | exact clash hk' hk | exact clash hk hk' | (rw [hk'] at hk; cases hk))
      | some k =>
        rw [hk'] at hk
        simp only [Option.map_some, Option.some.injEq] at hk
        split at hk
        · cases hk
        · subst hk; exact mem_of_lookup' hk'
    rcases ok.only _ hl with e | e
    · obtain ⟨z, hz, ez⟩ := List.mem_map.mp e
      exact hm y (ofString_inj ez ▸ hz) v' hy
    · exact absurd e hd
  · have hf := isFree hk
    by_cases e : y ∈ xs
    · rw [compEnv_kind, ok.loc _ (List.mem_map.mpr ⟨y, e, rfl⟩)] at hk
      simp at hk
    · have hy' : ρ y = some v' := (hρ y e).symm.trans hy
      obtain ⟨c, u', hc, hic, hr⟩ := er.held y v' hy' (envKind hf)
      exact ⟨c, u', lk' hc hf, hic, hr⟩
  · have hf := isFree hk
    obtain ⟨c, hc⟩ := er.has y (envKind hf)
    exact ⟨c, lk' hc hf⟩

end
end Mine

namespace Mine
open PySem

section
variable {prog : Program} {w : World} {h₀ : Heap} {P : Prog} {fs : Tab} {mg mb : Str → Option Value} {n : Around → Prop} {C : Ctx}

theorem SR.adopt {h : Heap} {β : List Addr} {H : Hp} (x : SR h₀ β H h) {r : Addr} {o : O} {ob : Obj} (hr : r ∉ β) (hn : h₀.get? r = Option.none) (hg : h.get? r = some ob) (ho : OR β o ob) : SR h₀ (β ++ [r]) (H ++ [o]) h := by
  have hp : β <+: β ++ [r] := List.prefix_append _ _
  refine ⟨x.kept, ?_, (x.objs.mono fun _ _ => Slot1.grow hp).append (.cons (.own hn hg (ho.mono hp)) .nil)⟩
  rw [List.nodup_append]
  refine ⟨x.nodup, by simp, fun a ha b hb => ?_⟩
  simp at hb; subst hb; rintro rfl; exact hr ha

theorem SR.other {h h' : Heap} {β : List Addr} {H : Hp} (x : SR h₀ β H h) (hk : ∀ b o, h.get? b = some o → (b ∈ β ∨ ∃ o', h₀.get? b = some o') → h'.get? b = some o) : SR h₀ β H h' := by
  refine ⟨fun b o e => hk b o (x.kept b o e) (.inr ⟨o, e⟩), x.nodup, ?_⟩
  have : ∀ (H : Hp) (γ : List Addr), (∀ b ∈ γ, b ∈ β) → All2 (Slot1 h₀ h β) H γ → All2 (Slot1 h₀ h' β) H γ := by
    intro H γ hs hA
    induction hA with
    | nil => exact .nil
    | cons q _ ih =>
      refine .cons ?_ (ih fun b hb => hs b (List.mem_cons_of_mem _ hb))
      exact q.at fun o e => hk _ o e (.inl (hs _ List.mem_cons_self))
  exact this H β (fun _ hb => hb) x.objs

theorem ER.other {env : PySem.Env} {ρ : Env} {β : List Addr} {h h' : Heap} (x : ER env ρ β h) (hl : KAt h h' env.locals) (hc : ∀ y c, env.cells.lookup y = some c → KAt h h' c) : ER env ρ β h' := by
  obtain ⟨m, hn, hm⟩ := x.ns
  refine ⟨x.kind, x.glob, x.bltn, ⟨m, Heap_Ns_at hn hl, hm⟩, fun y c hy => ?_, fun y v hv hk => ?_, x.has, x.apart, x.locs, x.cells⟩
  · obtain ⟨u, hu⟩ := x.cell y c hy; exact ⟨u, Heap_IsCell_at hu (hc y c hy)⟩
  · obtain ⟨c, u, hy, hu, hr⟩ := x.held y v hv hk; exact ⟨c, u, hy, Heap_IsCell_at hu (hc _ c hy), hr⟩

theorem ER.grow {env : PySem.Env} {ρ : Env} {β β' : List Addr} {h : Heap} (x : ER env ρ β h) (hp : β <+: β') (hl : env.locals ∉ β') (hc : ∀ y c, env.cells.lookup y = some c → c ∉ β') : ER env ρ β' h := by
  obtain ⟨m, hn, hm⟩ := x.ns
  refine ⟨x.kind, x.glob, x.bltn, ⟨m, hn, fun y v hv hk hd => ?_⟩, x.cell, fun y v hv hk => ?_, x.has, x.apart, hl, fun y c hy => ⟨hc y c hy, (x.cells y c hy).2⟩⟩
  · obtain ⟨u, hu, hr⟩ := hm y v hv hk hd; exact ⟨u, hu, hr.mono hp⟩
  · obtain ⟨c, u, hy, hu, hr⟩ := x.held y v hv hk; exact ⟨c, u, hy, hu, hr.mono hp⟩

noncomputable def compStep (C : Ctx) (elt : E) (conds : List E) (bd : V → Hp → Option Env) (X : XP) : V → Hp → (Option V → Hp → Prop) → Prop := fun v H2 k =>
  oE (bd v H2) fun ρ' => wAnd C conds ρ' H2 (fun b H3 => wIf b (wE C elt ρ' H3 (fun u H4 => k (some u) H4) X) (k none H3)) X

noncomputable def Asg (prog : Program) (w : World) (A : Around) (h₀ : Heap) (cenv : PySem.Env) (Cf : Addr) (tgt : Expr) (xs : List String) (bd : V → Hp → Option Env) : Prop :=
  ∀ (β : List Addr) (H : Hp) (v : V) (ρ' : Env) (u : Value) (s : Shared) (m : Str → Option Value) (Q : Unit → Shared → Prop) (E : Value → Shared → Prop), bd v H = some ρ' → SR h₀ β H s.heap → VR β v u → s.heap.Ns Cf m →
    (∀ h₂ tk m₂, h₂.Ns Cf m₂ → (∀ b o, b ≠ Cf → s.heap.get? b = some o → h₂.get? b = some o) → (∀ y ∈ xs, ∀ v', ρ' y = some v' → ∃ u', m₂ (Str.ofString y) = some u' ∧ VR β v' u') → Q () { s with heap := h₂, toks := tk }) →
    wpAny (model prog w) A (assign tgt cenv u) Q E s

theorem comp_kind {sc scope : Scope} {env : PySem.Env} {Cf : Addr} {xs : List Str} {x : Str} (ok : CompOk sc scope xs) (hx : x ∈ xs) : (compEnvC scope (clFrom env.cells scope.names []) Cf env).kindOf x = some .local ∧
    ((compEnvC scope (clFrom env.cells scope.names []) Cf env).scope.kind == .class || ((compEnvC scope (clFrom env.cells scope.names []) Cf env).scope.kind == .module && (compEnvC scope (clFrom env.cells scope.names []) Cf env).locals != (compEnvC scope (clFrom env.cells scope.names []) Cf env).globals)) = false := by
  refine ⟨by rw [compEnv_kind, ok.loc x hx]; simp, ?_⟩
  show (scope.kind == .class || (scope.kind == .module && _)) = false
  rw [ok.kind]; rfl

theorem asg_one {A : Around} {sc scope : Scope} {env : PySem.Env} {ρ : Env} {Cf : Addr} {x : String} {px : Pos} (ok : CompOk sc scope ([x].map Str.ofString)) : Asg prog w A h₀ (compEnvC scope (clFrom env.cells scope.names []) Cf env) Cf (.Name (Str.ofString x) px) [x] (fun v _ => some (ρ.set x v)) := by
  intro β H v ρ' u s m Q E hb sr hv hn h
  cases hb
  obtain ⟨kind, hp⟩ := comp_kind (env := env) (Cf := Cf) ok (.head _)
  refine wpAny_assign_Name (wpAny_storeName_local (m := m) kind hn (fun h₂ hn₂ hs₂ => h h₂ _ _ hn₂ (fun b o hb e => hs₂.extBut b o hb e) fun y hy v' e => ?_) hp)
  cases List.mem_singleton.mp hy
  have : v' = v := by simpa [Env.set] using e.symm
  subst this
  exact ⟨u, by simp, hv⟩
theorem one_only {ρ : Env} {x : String} {v : V} {H : Hp} {ρ' : Env} (hb : (fun (v : V) (_ : Hp) => some (Env.set ρ x v)) v H = some ρ') : ∀ y, y ∉ [x] → ρ' y = ρ y := fun y hy => by
  cases hb
  have : y ≠ x := fun e => hy (e ▸ .head _)
  simp [Env.set, beq_eq_false_iff_ne.mpr this]

noncomputable def SoundIfs (prog : Program) (w : World) (h₀ : Heap) (P : Prog) (fs : Tab) (mg mb : Str → Option Value) (n : Around → Prop) (C : Ctx) (conds : List E) (ifs : List Expr) (sc : Scope) : Prop :=
  ∀ env ρ β H s A k X E', At P fs mg mb h₀ n sc env ρ β H s A X E' → wAnd C conds ρ H k X →
    wpAny (model prog w) A (forIn ifs true fun c r => if r = true then do let ok ← isTrue c env (eval c env); pure (ForInStep.yield ok) else pure (ForInStep.yield r)) (PB h₀ β s k) E' s

structure CompInv (h₀ : Heap) (β₂ : List Addr) (s₂ : Shared) (I D Cf : Addr) (St : Nat → Heap → Prop) (i : Nat) (β : List Addr) (H : Hp) (acc : List V) (s : Shared) : Prop where
  same : ∃ h tk, s = { s₂ with heap := h, toks := tk }
  st : St i s.heap
  sr : SR h₀ β H s.heap
  grow : β₂ <+: β
  keep : ∀ b, b ∉ β₂ → b ≠ I → KAt s₂.heap s.heap b
  fresh : ∀ b ∈ β, b ∈ β₂ ∨ s₂.heap.get? b = Option.none
  dout : D ∉ β
  cout : Cf ∉ β
  iout : I ∉ β
  list : ∃ us, s.heap.PlainList D us.toArray ∧ VRs β acc us
  len : acc.length ≤ i
  ns : ∃ m, s.heap.Ns Cf m

noncomputable def TgtQuiet : Expr → Prop
  | .Name .. => True
  | _ => False
theorem own_go {A : Around} {β : List Addr} {I : Addr} {G : Hp → Prop} {items : List V} {St : Nat → Heap → Prop} (itr : Itr prog w A h₀ β I G items St) {tgt : Expr} (ht : TgtQuiet tgt) {i : Nat} {u : Value} {s : Shared} {Q : Unit → Shared → Prop} {E : Value → Shared → Prop} (st : St i s.heap) (hQ : Q () s) :
    wpAny (model prog w) A (letOwnedTupleGo tgt (.ref I) u) Q E s := by
  cases tgt with
  | Name _ _ => exact wpAny_pure hQ
  | _ => exact ht.elim
theorem compLoop_own {A : Around} {s : Shared} {R : Result → Shared → Prop} {elt target iter : Expr} {ifs : List Expr} {scope : Scope} {pos : Pos} {it acc : Value} {env : PySem.Env} (I : Nat → Shared → Prop)
    (turn : ∀ n s, I n s → wpAny (model prog w) A (pyNext it) (fun r s₁ => match r with
      | none => R (.ok .next) s₁
      | some v => wpAny (model prog w) A (letOwnedTupleGo target it v) (fun _ s₁ => wpAny (model prog w) A (assign target env v) (fun _ s₂ =>
          wpAny (model prog w) A (forIn ifs true fun c r => if r = true then do let ok ← isTrue c env (eval c env); pure (ForInStep.yield ok) else pure (ForInStep.yield r)) (fun ok s₃ =>
            if ok = true then wpAny (model prog w) A (eval elt env) (fun x s₄ =>
              wpAny (model prog w) A (call (.builtin "list.append") [acc, x]) (fun _ s₅ => ∃ m, m < n ∧ I m s₅) (notedBy (model prog w) A env fun e s' => R (.error e) s') s₄) (notedBy (model prog w) A env fun e s' => R (.error e) s') s₃
            else ∃ m, m < n ∧ I m s₃) (notedBy (model prog w) A env fun e s' => R (.error e) s') s₂) (notedBy (model prog w) A env fun e s' => R (.error e) s') s₁) (notedBy (model prog w) A env fun e s' => R (.error e) s') s₁) (notedBy (model prog w) A env fun e s' => R (.error e) s') s)
    (n : Nat) (h : I n s) :
    codeAny (model prog w) A (.compLoop (.ListComp elt [⟨target, iter, ifs, 0⟩] scope pos) 0 it acc env) R s := by
  refine codeAny_loop rfl I (fun n s hI => ?_) n h
  show wpAny _ A ((compTurn (.ListComp elt [⟨target, iter, ifs, 0⟩] scope pos) 0 it acc env).onRaise (fun x => do noteFrame x env; theTreesLotGoes x)) _ _ s
  refine wpAny_noted ?_
  rw [compTurn_list]
  refine wpAny_bind (wpAny_standAt (wpAny_bind (wpAny_mono (turn n s hI) (fun r s₁ h₁ => ?_) fun _ _ h' => h')))
  cases r with
  | none => exact wpAny_pure h₁
  | some v =>
    refine wpAny_bind (wpAny_mono h₁ (fun _ s₁ h₁ => ?_) fun _ _ h' => h')
    refine wpAny_bind (wpAny_mono h₁ (fun _ s₂ h₂ => wpAny_bind (wpAny_mono h₂ (fun ok s₃ h₃ => ?_) fun _ _ h' => h')) fun _ _ h' => h')
    cases ok with
    | false => exact wpAny_pure ⟨rfl, h₃⟩
    | true =>
      exact wpAny_bind (wpAny_bind (wpAny_mono h₃ (fun x s₄ h₄ => wpAny_bind (wpAny_mono h₄ (fun _ s₅ h₅ => wpAny_pure (wpAny_pure ⟨rfl, h₅⟩)) fun _ _ h' => h')) fun _ _ h' => h'))

theorem comp_loop {A : Around} {sc scope : Scope} {env : PySem.Env} {ρ : Env} {β : List Addr} {H : Hp} {s₂ s₄ : Shared} {xs : List String} {bd : V → Hp → Option Env} {tgt : Expr} {elt : E} {conds : List E} {el iter : Expr} {ifs : List Expr} {pos : Pos} {X : XP} {E' : Value → Shared → Prop}
    {G : Hp → Prop} {items : List V} {I D Cf : Addr} {St : Nat → Heap → Prop} {kfin : List V → Hp → Prop} {R : Result → Shared → Prop}
    (a : At P fs mg mb h₀ n sc env ρ β H s₂ A X E') (hIF : ∀ l, A.frames = some l → ∀ e ∈ l, e.frame ≠ some I) (itr : Itr prog w A h₀ β I G items St) (hIn : I ∉ β) (hIL : env.locals ≠ I) (hIc : ∀ y c, env.cells.lookup y = some c → c ≠ I)
    (ok : CompOk sc scope (xs.map Str.ofString)) (hTq : TgtQuiet tgt) (hAsg : Asg prog w A h₀ (compEnvC scope (clFrom env.cells scope.names []) Cf env) Cf tgt xs bd) (hρ : ∀ v H ρ', bd v H = some ρ' → ∀ y, y ∉ xs → ρ' y = ρ y) (hlen : items.length ≤ lim) (hE : SoundE prog w h₀ P fs mg mb n C elt el scope) (hT : SoundIfs prog w h₀ P fs mg mb n C conds ifs scope)
    (hI₀ : h₀.get? I = Option.none) (hD : s₂.heap.get? D = Option.none) (hC : s₂.heap.get? Cf = Option.none) (hDC : D ≠ Cf) (hDI : D ≠ I) (hCI : Cf ≠ I)
    (inv0 : CompInv h₀ β s₂ I D Cf St 0 β H [] s₄)
    (hw : wLoop G (compStep C elt conds bd noX) items [] H kfin)
    (hR : ∀ s' β' H' acc, CompInv h₀ β s₂ I D Cf (fun _ _ => True) items.length β' H' acc s' → kfin acc H' → R (.ok .next) s') :
    codeAny (model prog w) A (.compLoop (.ListComp el [⟨tgt, iter, ifs, 0⟩] scope pos) 0 (.ref I) (.ref D) (compEnvC scope (clFrom env.cells scope.names []) Cf env)) R s₄ := by
  have envO : ∃ o, s₂.heap.get? env.locals = some o := by obtain ⟨m, ⟨o, _, _, e, _⟩, _⟩ := a.er.ns; exact ⟨o, e⟩
  have cellO : ∀ y c, env.cells.lookup y = some c → ∃ o, s₂.heap.get? c = some o := fun y c hc => by obtain ⟨u, o, e, _⟩ := a.er.cell y c hc; exact ⟨o, e⟩
  have hCL : env.locals ≠ Cf := by obtain ⟨o, e⟩ := envO; rintro rfl; (first | exact clash hC e | exact clash e hC | (rw [hC] at e; cases e))
  have hCc : ∀ y c, env.cells.lookup y = some c → c ≠ Cf := fun y c hc => by obtain ⟨o, e⟩ := cellO y c hc; rintro rfl; (first | exact clash hC e | exact clash e hC | (rw [hC] at e; cases e))
  refine compLoop_own (fun k s' => ∃ i β' H' acc, k = items.length + 1 - i ∧ i ≤ items.length ∧ CompInv h₀ β s₂ I D Cf St i β' H' acc s' ∧ wLoop G (compStep C elt conds bd noX) (items.drop i) acc H' kfin) ?_ (items.length + 1)
    ⟨0, β, H, [], by omega, by omega, inv0, hw⟩
  rintro k s' ⟨i, β', H', acc, rfl, hi, inv, hwl⟩
  obtain ⟨h', tk', rfl⟩ := inv.same
  by_cases hlt : i < items.length
  · -- one more
    obtain ⟨v, hv⟩ : ∃ v, items[i]? = some v := ⟨_, List.getElem?_eq_getElem hlt⟩
    have hdrop : items.drop i = v :: items.drop (i + 1) := by
      rw [List.drop_eq_getElem_cons hlt]
      congr 1
      rw [List.getElem?_eq_getElem hlt] at hv; exact Option.some.inj hv
    rw [hdrop] at hwl
    obtain ⟨hG, hstep⟩ := hwl
    refine itr.item i v β' H' _ _ _ hv inv.st inv.grow inv.sr hG inv.iout fun u h₁ tk₁ hvu hst₁ hk₁ => ?_
    obtain ⟨m, hns⟩ := inv.ns
    have hns₁ : h₁.Ns Cf m := Heap_Ns_at hns (.of fun o e => hk₁ _ o hCI e)
    have sr₁ : SR h₀ β' H' h₁ := inv.sr.other fun b o e q => hk₁ b o (by
      rcases q with q | ⟨o', q⟩
      · rintro rfl; exact inv.iout q
      · rintro rfl; exact clash q hI₀) e
    obtain ⟨ρ', hbd, hstep⟩ := oE_ex hstep
    refine own_go itr hTq hst₁ ?_
    refine hAsg β' H' v ρ' u { s₂ with heap := h₁, toks := tk₁ } m _ _ hbd sr₁ hvu hns₁ fun h₂ tk₂ m₂ hn₂ hs₂ hb₂ => ?_
    -- the state at the element
    have k2 : ∀ b o, b ≠ I → b ≠ Cf → h'.get? b = some o → h₂.get? b = some o := fun b o hb hb' e => hs₂ b o hb' (hk₁ b o hb e)
    have notI : ∀ b ∈ β', b ≠ I := fun b hb e => inv.iout (e ▸ hb)
    have notC : ∀ b ∈ β', b ≠ Cf := fun b hb e => inv.cout (e ▸ hb)
    have hC₀ : h₀.get? Cf = Option.none := by
      cases e : h₀.get? Cf with
      | none => rfl
      | some o => have := a.sr.kept _ _ e; (first | exact clash hC this | exact clash this hC | (rw [hC] at this; cases this))
    have sr₂ : SR h₀ β' H' h₂ := inv.sr.other fun b o e q => by
      refine k2 b o ?_ ?_ e
      · rcases q with q | ⟨o', q⟩
        · exact notI b q
        · rintro rfl; (first | exact clash hI₀ q | exact clash q hI₀ | (rw [hI₀] at q; cases q))
      · rcases q with q | ⟨o', q⟩
        · exact notC b q
        · rintro rfl; (first | exact clash hC₀ q | exact clash q hC₀ | (rw [hC₀] at q; cases q))
    have hDk : h₂.get? D = h'.get? D → True := fun _ => trivial
    obtain ⟨us, hpl, hus⟩ := inv.list
    have hpl₂ : h₂.PlainList D us.toArray := let ⟨q, e⟩ := hpl; ⟨q, k2 D _ hDI hDC e⟩
    have hst₂ : St (i + 1) h₂ := itr.frame _ _ _ hst₁ fun o e => hs₂ I o (Ne.symm hCI) e
    have keep₂ : ∀ b, b ∉ β → b ≠ I → KAt s₂.heap h₂ b := fun b hb hbI o e =>
      (KAt.trans (inv.keep b hb hbI) (.of fun o' e' => k2 b o' hbI (by rintro rfl; (first | exact clash hC e | exact clash e hC | (rw [hC] at e; cases e))) e')) o e
    have er₂ : ER env ρ β' h₂ := by
      have hl' : env.locals ∉ β' := fun hm => by
        rcases inv.fresh _ hm with q | q
        · exact a.er.locs q
        · obtain ⟨o, e⟩ := envO; (first | exact clash e q | exact clash q e | (rw [e] at q; cases q))
      have hc' : ∀ y c, env.cells.lookup y = some c → c ∉ β' := fun y c hy hm => by
        rcases inv.fresh _ hm with q | q
        · exact (a.er.cells y c hy).1 q
        · obtain ⟨o, e⟩ := cellO y c hy; (first | exact clash e q | exact clash q e | (rw [e] at q; cases q))
      exact (a.er.other (keep₂ _ a.er.locs hIL) (fun y c hy => keep₂ c (a.er.cells y c hy).1 (hIc y c hy))).grow inv.grow hl' hc'
    have er' := comp_er er₂ a.sc ok hn₂ hb₂ (hρ v H' ρ' hbd) inv.cout hCc
    have at₂ : ∀ Ex, At P fs mg mb h₀ n scope (compEnvC scope (clFrom env.cells scope.names []) Cf env) ρ' β' H' { s₂ with heap := h₂, toks := tk₂ } A noX Ex := fun Ex =>
      ⟨a.names, a.amb, sr₂, er', comp_scr _ _ _ _, let ⟨l, e1, e2⟩ := a.frs; ⟨l, e1, e2.at (fun _ _ L _ hL ⟨o, e⟩ hm => by
        rcases inv.fresh L hm with q | q
        · exact hL q
        · (first | exact clash e q | exact clash q e | (rw [e] at q; cases q))) fun env' he L hL hb _ => keep₂ L hb fun e => hIF l e1 env' he (e ▸ hL)⟩, fun _ _ _ _ _ h => h.elim⟩
    have base₂ : CompInv h₀ β s₂ I D Cf St (i + 1) β' H' acc { s₂ with heap := h₂, toks := tk₂ } :=
      ⟨⟨_, _, rfl⟩, hst₂, sr₂, inv.grow, keep₂, inv.fresh, inv.dout, inv.cout, inv.iout, ⟨us, hpl₂, hus⟩, Nat.le_succ_of_le inv.len, ⟨_, hn₂⟩⟩
    -- a step of the mini heap keeps the invariant
    have go : ∀ {β₁ β₃ : List Addr} {H₁ H₃ : Hp} {s₁ s₃ : Shared}, CompInv h₀ β s₂ I D Cf St (i + 1) β₁ H₁ acc s₁ → Step β₁ s₁ β₃ s₃ → SR h₀ β₃ H₃ s₃.heap → CompInv h₀ β s₂ I D Cf St (i + 1) β₃ H₃ acc s₃ := by
      intro β₁ β₃ H₁ H₃ s₁ s₃ c t sr₃
      obtain ⟨h1, t1, rfl⟩ := c.same
      obtain ⟨h3, t3, rfl⟩ := t.same
      have out : ∀ b, b ∉ β₁ → (∃ o, h1.get? b = some o) → b ∉ β₃ := fun b hb ⟨o, e⟩ hm => by
        rcases t.fresh b hm with q | q
        · exact hb q
        · have e' : h1.get? b = Option.none := q
          (first | exact clash e e' | exact clash e' e | (rw [e] at e'; cases e'))
      obtain ⟨us, hpl, hus⟩ := c.list
      obtain ⟨m, hn⟩ := c.ns
      refine ⟨⟨_, _, rfl⟩, itr.stay c.st (t.keep I c.iout), sr₃, c.grow.trans t.grow, fun b hb hbI o e => ?_, fun b hb => ?_, out D c.dout ?_, out Cf c.cout ?_, out I c.iout (itr.live _ _ c.st),
        ⟨us, let ⟨q, e⟩ := hpl; ⟨q, (t.keep D c.dout).exact e (fun _ _ q => by cases q)⟩, VRs.mono t.grow hus⟩, c.len, ⟨m, Heap_Ns_at hn (t.keep Cf c.cout)⟩⟩
      · refine KAt.trans (c.keep b hb hbI) (t.keep b fun hm => ?_) o e
        rcases c.fresh b hm with q | q
        · exact hb q
        · (first | exact clash e q | exact clash q e | (rw [e] at q; cases q))
      · rcases t.fresh b hb with q | q
        · exact c.fresh b q
        · by_cases hm : b ∈ β
          · exact .inl hm
          · by_cases hbI : b = I
            · subst hbI; obtain ⟨o, e⟩ := itr.live _ _ c.st; have q' : h1.get? b = Option.none := q; have e' : h1.get? b = some o := e; (first | exact clash e' q' | exact clash q' e' | (rw [e'] at q'; cases q'))
            · refine .inr ?_
              cases e : s₂.heap.get? b with
              | none => rfl
              | some o => obtain ⟨o', this, _⟩ := c.keep b hm hbI o e; have q' : h1.get? b = Option.none := q; have this' : h1.get? b = some o' := this; (first | exact clash this' q' | exact clash q' this' | (rw [this'] at q'; cases q'))
      · obtain ⟨q, e⟩ := hpl; exact ⟨_, e⟩
      · obtain ⟨o, _, _, e, _⟩ := hn; exact ⟨o, e⟩
    refine wpAny_mono (hT _ _ _ _ _ _ _ noX _ (at₂ _) hstep) (fun b s₃ h₃ => ?_) fun _ _ e => e
    obtain ⟨β₃, H₃, hb, t₃, sr₃⟩ := h₃
    have inv₃ := go base₂ t₃ sr₃
    cases b with
    | false =>
      simp only [Bool.false_eq_true, if_false]
      exact ⟨items.length + 1 - (i + 1), by omega, i + 1, β₃, H₃, acc, rfl, by omega, inv₃, hb.2 rfl⟩
    | true =>
      simp only [if_true]
      refine wpAny_mono (hE _ _ _ _ _ _ _ noX _ ((at₂ _).step t₃ sr₃) (hb.1 rfl)) (fun y s₄ h₄ => ?_) fun _ _ e => e
      obtain ⟨β₄, u', H₄, hk₄, t₄, sr₄, vr₄⟩ := h₄
      have inv₄ := go inv₃ t₄ sr₄
      obtain ⟨us₄, hpl₄, hus₄⟩ := inv₄.list
      have hD₀ : h₀.get? D = Option.none := by
        cases e : h₀.get? D with
        | none => rfl
        | some o => have := a.sr.kept _ _ e; (first | exact clash hD this | exact clash this hD | (rw [hD] at this; cases this))
      refine wpAny_list_append_plain hpl₄ (fun h₅ hl₅ hs₅ => ?_) (by rw [List.size_toArray, ← hus₄.length]; have := inv₄.len; unfold sizeLine; unfold lim at hlen; omega)
      obtain ⟨h4, t4, rfl⟩ := inv₄.same
      refine ⟨items.length + 1 - (i + 1), by omega, i + 1, β₄, H₄, acc ++ [u'], rfl, by omega, ?_, hk₄⟩
      obtain ⟨m₄, hn₄⟩ := inv₄.ns
      refine ⟨⟨_, _, rfl⟩, itr.frame _ _ _ inv₄.st fun o e => hs₅.extBut I o (Ne.symm hDI) e, sr₄.other fun b o e q => hs₅.extBut b o ?_ e, inv₄.grow, fun b hb hbI o e => KAt.trans (inv₄.keep b hb hbI) (.of fun o' e' => hs₅.extBut b o' ?_ e') o e, inv₄.fresh, inv₄.dout, inv₄.cout, inv₄.iout,
        ⟨us₄ ++ [y], by rw [List.push_toArray] at hl₅; exact hl₅, hus₄.append (.cons vr₄ .nil)⟩, by rw [List.length_append]; have := inv.len; simp; omega, ⟨m₄, Heap_Ns_at hn₄ (.of fun o e => hs₅.extBut Cf o (Ne.symm hDC) e)⟩⟩
      · rcases q with q | ⟨o', q⟩
        · rintro rfl; exact inv₄.dout q
        · rintro rfl; (first | exact clash hD₀ q | exact clash q hD₀ | (rw [hD₀] at q; cases q))
      · rintro rfl; (first | exact clash hD e | exact clash e hD | (rw [hD] at e; cases e))
  · -- the end
    have hie : i = items.length := by omega
    subst hie
    rw [List.drop_length] at hwl
    obtain ⟨hG, hk⟩ := hwl
    refine itr.done β' H' _ _ _ inv.st inv.grow inv.sr hG inv.iout fun h₁ tk₁ hk₁ => ?_
    obtain ⟨us, ⟨q, hpl⟩, hus⟩ := inv.list
    obtain ⟨m, hn⟩ := inv.ns
    refine hR _ β' H' acc ⟨⟨_, _, rfl⟩, trivial, inv.sr.other fun b o e q => hk₁ b o ?_ e, inv.grow, fun b hb hbI => KAt.trans (inv.keep b hb hbI) (.of fun o e => hk₁ b o hbI e), inv.fresh, inv.dout, inv.cout, inv.iout, ⟨us, ⟨q, hk₁ D _ hDI hpl⟩, hus⟩, inv.len,
      ⟨m, Heap_Ns_at hn (.of fun o e => hk₁ Cf o hCI e)⟩⟩ hk
    rcases q with q | ⟨o', q⟩
    · rintro rfl; exact inv.iout q
    · rintro rfl; (first | exact clash hI₀ q | exact clash q hI₀ | (rw [hI₀] at q; cases q))

end
end Mine

namespace Mine
open PySem

section
variable {prog : Program} {w : World} {h₀ : Heap} {P : Prog} {fs : Tab} {mg mb : Str → Option Value} {n : Around → Prop} {C : Ctx}

inductive SrcReady (prog : Program) (w : World) (A : Around) (h₀ : Heap) (β : List Addr) (s : Shared) (W : (Hp → Prop) → List V → Hp → Prop) (it : Value) (s₂ : Shared) : Prop
  | mk (β₁ : List Addr) (H₁ : Hp) (s₁ : Shared) (G : Hp → Prop) (items : List V) : Made prog w A h₀ β₁ s₁ G items it s₂ → Step β s β₁ s₁ → SR h₀ β₁ H₁ s₁.heap → items.length ≤ lim → W G items H₁ → SrcReady prog w A h₀ β s W it s₂

structure CompOut (h₀ : Heap) (β : List Addr) (s : Shared) (D Cf : Addr) (β' : List Addr) (H' : Hp) (acc : List V) (s' : Shared) : Prop where
  step : Step β s β' s'
  sr : SR h₀ β' H' s'.heap
  dout : D ∉ β'
  dnew : s.heap.get? D = Option.none
  cnew : s.heap.get? Cf = Option.none
  list : ∃ us, s'.heap.PlainList D us.toArray ∧ VRs β' acc us
  len : acc.length ≤ lim
  dc : D ≠ Cf
  cout : Cf ∉ β'

theorem comp_whole {A : Around} {Ex : Value → Shared → Prop} {sc scope : Scope} {env : PySem.Env} {ρ : Env} {β : List Addr} {H : Hp} {s : Shared} {xs : List String} {bd : V → Hp → Option Env} {tgt : Expr} {elt : E} {conds : List E} {el iter : Expr} {ifs : List Expr} {pos pos' : Pos} {X : XP} {E₂ : Value → Shared → Prop}
    {kfin : List V → Hp → Prop} {use : Option (Value → Sem Unit)} {Q : Value → Shared → Prop}
    (a : At P fs mg mb h₀ n sc env ρ β H s A X E₂) (ok : CompOk sc scope (xs.map Str.ofString)) (hTq : TgtQuiet tgt) (hAsg : ∀ Cf, Asg prog w A h₀ (compEnvC scope (clFrom env.cells scope.names []) Cf env) Cf tgt xs bd) (hρ : ∀ v H ρ', bd v H = some ρ' → ∀ y, y ∉ xs → ρ' y = ρ y) (hE : SoundE prog w h₀ P fs mg mb n C elt el scope) (hT : SoundIfs prog w h₀ P fs mg mb n C conds ifs scope)
    (hs : ∀ x, foldedSetIterable iter env x = pure x)
    (hsrc : wpAny (model prog w) A (eval iter env) (fun xv s₁ => wpAny (model prog w) A (pyIter xv) (SrcReady prog w A h₀ β s fun G items H₁ => wLoop G (compStep C elt conds bd noX) items [] H₁ kfin) Ex s₁) Ex s)
    (hQ : ∀ D Cf β' H' acc s', CompOut h₀ β s D Cf β' H' acc s' → (∃ m, s'.heap.Ns Cf m) → kfin acc H' → compPost (model prog w) A Ex use Q (.ref D) Cf (.ok .next) s') :
    wpAny (model prog w) A (comprehension (.ListComp el [⟨tgt, iter, ifs, 0⟩] scope pos) scope env pos' (newList []) false (eval iter env) use) Q Ex s := by
  have hclos : closureFor scope env = pure (clFrom env.cells scope.names []) := closure_eq fun y hy => a.er.has y (by
    have h1 := ok.free y hy
    rw [← a.sc y] at h1
    cases hk : env.kindOf y with
    | none => (first | exact clash hk h1 | exact clash h1 hk | (rw [hk] at h1; cases h1))
    | some k => rw [hk] at h1; cases k <;> first | exact .inl rfl | exact .inr rfl | cases h1)
  refine wpAny_comprehension_free rfl hs hclos ok.kind ok.names (wpAny_mono hsrc (fun xv s₁ h₁ => wpAny_mono h₁ (fun it s₂ h₂ => ?_) fun _ _ e => e) fun _ _ e => e)
  obtain ⟨β₁, H₁, s₁, G, items, ⟨I, St, hI, tkI, rfl, rfl, kI, nI, st0, itr⟩, t₁, sr₁, hlen, hw⟩ := h₂
  have a₁ := a.step t₁ sr₁
  have notNew : ∀ b, (∃ o, s₁.heap.get? b = some o) → b ≠ I := fun b ⟨o, e⟩ q => by rw [q, nI] at e; cases e
  have hIβ : I ∉ β₁ := fun hm => notNew I (sr₁.mem hm) rfl
  have hI₀ : h₀.get? I = Option.none := by
    cases e : h₀.get? I with
    | none => rfl
    | some o => exact absurd rfl (notNew I ⟨o, sr₁.kept _ _ e⟩)
  -- the list and the frame
  refine wpAny_newObj_type (wpAny_newFunctionEnv ok.nocell (by intro y hy; simp at hy) (fun h₃ hns₃ hsb₃ => ?_) ok.kind)
  dsimp only at hns₃ hsb₃ ⊢
  generalize hD : hI.objs.size = D at *
  have hCsz : (hI.push { cls := .type "list", dict := none, data := .seq ([] : List Value).toArray }).objs.size = D + 1 := by rw [Heap.size_push, hD]
  rw [hCsz] at hns₃ hsb₃ ⊢
  have old : ∀ b o, hI.get? b = some o → h₃.get? b = some o := fun b o e => by
    have hb : b ≠ D + 1 := by have := Heap.lt_size e; rw [hD] at this; exact Nat.ne_of_lt (Nat.lt_succ_of_lt this)
    exact hsb₃.extBut b o hb (Heap.get?_push_of_some _ (Heap.get?_push_of_some _ e))
  have hDnew : hI.get? D = Option.none := get_none_of_le (by rw [hD]; exact Nat.le_refl _)
  have hCnew : hI.get? (D + 1) = Option.none := get_none_of_le (by rw [hD]; exact Nat.le_succ _)
  have hDlist : h₃.PlainList D ([] : List Value).toArray := ⟨0, by
    have : (hI.push { cls := .type "list", dict := none, data := .seq ([] : List Value).toArray }).get? D = some { cls := .type "list", dict := none, data := .seq ([] : List Value).toArray } := by
      rw [← hD]; exact Heap.get?_push_size _ rfl
    exact hsb₃.extBut D _ (Nat.ne_of_lt (Nat.lt_succ_self _)) (Heap.get?_push_of_some _ this)⟩
  have hIex : ∃ o, hI.get? I = some o := itr.live _ _ st0
  have hDI : D ≠ I := fun e => by obtain ⟨o, q⟩ := hIex; rw [← e, hDnew] at q; cases q
  have hCI : D + 1 ≠ I := fun e => by obtain ⟨o, q⟩ := hIex; rw [← e, hCnew] at q; cases q
  have sr₂ : SR h₀ β₁ H₁ hI := sr₁.keeps kI
  have er₂ : ER env ρ β₁ hI := a₁.er.other (.of fun o e => kI _ _ e) (fun _ _ _ => .of fun o e => kI _ _ e)
  have hdβ : D ∉ β₁ := fun hm => by obtain ⟨o, e⟩ := sr₂.mem hm; (first | exact clash hDnew e | exact clash e hDnew | (rw [hDnew] at e; cases e))
  have hcβ : D + 1 ∉ β₁ := fun hm => by obtain ⟨o, e⟩ := sr₂.mem hm; (first | exact clash hCnew e | exact clash e hCnew | (rw [hCnew] at e; cases e))
  have inv0 : CompInv h₀ β₁ { s₁ with heap := hI, toks := tkI } I D (D + 1) St 0 β₁ H₁ [] { s₁ with heap := h₃, toks := tkI + 0 } :=
    ⟨⟨_, _, rfl⟩, itr.frame _ _ _ st0 fun o e => old I o e, sr₂.keeps old, List.prefix_refl _, fun b _ _ => .of fun o e => old b o e, fun b hb => .inl hb, hdβ, hcβ, hIβ, ⟨[], hDlist, .nil⟩, Nat.le_refl _, ⟨_, hns₃⟩⟩
  have a₂ : At P fs mg mb h₀ n sc env ρ β₁ H₁ { s₁ with heap := hI, toks := tkI } A X E₂ := a₁.step (Step.of_heap kI) sr₂
  have envO : ∃ o, s₁.heap.get? env.locals = some o := by obtain ⟨m, ⟨o, _, _, e, _⟩, _⟩ := a₁.er.ns; exact ⟨o, e⟩
  have loop := comp_loop (iter := iter) (pos := pos) (R := compPost (model prog w) A Ex use Q (.ref D) (D + 1)) a₂ (fun l hl e he q => by
      obtain ⟨l', e1, e2⟩ := a₁.frs
      (first | exact clash hl e1 | exact clash e1 hl | (rw [hl] at e1; cases e1))
      obtain ⟨_, L, hL, _, _, o, _, _, eo, _⟩ := e2 e he
      (first | exact clash q hL | exact clash hL q | (rw [q] at hL; cases hL))
      exact notNew _ ⟨o, eo⟩ rfl) itr hIβ (notNew _ envO) (fun y c hy => notNew c (by obtain ⟨u, o, e, _⟩ := a₁.er.cell y c hy; exact ⟨o, e⟩)) ok hTq (hAsg _) hρ hlen hE hT hI₀ hDnew hCnew (Nat.ne_of_lt (Nat.lt_succ_self _)) hDI hCI inv0 hw
    (fun s' β' H' acc inv hk => hQ D (D + 1) β' H' acc s' (by
      obtain ⟨h', tk', rfl⟩ := inv.same
      obtain ⟨h1, t1, rfl⟩ := t₁.same
      have up : ∀ b, b ∉ β → KAt s.heap hI b := fun b hb => KAt.trans (t₁.keep b hb) (.of fun o e => kI b o e)
      refine ⟨⟨⟨_, _, rfl⟩, t₁.grow.trans inv.grow, fun b hb o e => ?_, fun b hb => ?_⟩, inv.sr, inv.dout, ?_, ?_, inv.list, Nat.le_trans inv.len hlen, Nat.ne_of_lt (Nat.lt_succ_self _), inv.cout⟩
      · have hb1 : b ∉ β₁ := fun hm => by
          rcases t₁.fresh b hm with q | q
          · exact hb q
          · (first | exact clash e q | exact clash q e | (rw [e] at q; cases q))
        exact KAt.trans (up b hb) (inv.keep b hb1 (notNew b ((t₁.keep b hb).live ⟨o, e⟩))) o e
      · rcases inv.fresh b hb with q | q
        · exact t₁.fresh b q
        · by_cases hm : b ∈ β
          · exact .inl hm
          · refine .inr ?_
            cases e : s.heap.get? b with
            | none => rfl
            | some o => obtain ⟨o', this, _⟩ := up b hm o e; have q' : hI.get? b = Option.none := q; (first | exact clash this q' | exact clash q' this | (rw [this] at q'; cases q'))
      · cases e : s.heap.get? D with
        | none => rfl
        | some o =>
          by_cases hm : D ∈ β
          · exact absurd (t₁.grow.subset hm) hdβ
          · obtain ⟨o', this, _⟩ := up D hm o e; (first | exact clash hDnew this | exact clash this hDnew | (rw [hDnew] at this; cases this))
      · cases e : s.heap.get? (D + 1) with
        | none => rfl
        | some o =>
          by_cases hm : D + 1 ∈ β
          · exact absurd (t₁.grow.subset hm) hcβ
          · obtain ⟨o', this, _⟩ := up _ hm o e; (first | exact clash hCnew this | exact clash this hCnew | (rw [hCnew] at this; cases this))) inv.ns hk)
  exact codeAny_compStart_list loop (itr.self 0 _ _ _ inv0.st loop)

theorem CompOut.adopt {β : List Addr} {s : Shared} {D Cf : Addr} {β' : List Addr} {H' : Hp} {acc : List V} {s' : Shared} (c : CompOut h₀ β s D Cf β' H' acc s') (kept : ∀ b o, h₀.get? b = some o → s.heap.get? b = some o) :
    Step β s (β' ++ [D]) s' ∧ SR h₀ (β' ++ [D]) (H' ++ [.list acc]) s'.heap ∧ VR (β' ++ [D]) (.ref H'.length) (.ref D) := by
  obtain ⟨us, ⟨q, hpl⟩, hus⟩ := c.list
  have hD₀ : h₀.get? D = Option.none := by
    cases e : h₀.get? D with
    | none => rfl
    | some o => have := kept _ _ e; (first | exact clash c.dnew this | exact clash this c.dnew | (rw [c.dnew] at this; cases this))
  refine ⟨⟨c.step.same, c.step.grow.trans (List.prefix_append _ _), c.step.keep, fun b hb => ?_⟩, c.sr.adopt c.dout hD₀ hpl (.list hus c.len), .ref (by rw [c.sr.len]; simp)⟩
  rcases List.mem_append.mp hb with q | q
  · exact c.step.fresh b q
  · simp at q; subst q; exact .inr c.dnew

theorem comp_value {A : Around} {Ex : Value → Shared → Prop} {sc scope : Scope} {env : PySem.Env} {ρ : Env} {β : List Addr} {H : Hp} {s : Shared} {xs : List String} {bd : V → Hp → Option Env} {tgt : Expr} {elt : E} {conds : List E} {el iter : Expr} {ifs : List Expr} {pos : Pos} {X : XP} {E₂ : Value → Shared → Prop} {Q : Post}
    (a : At P fs mg mb h₀ n sc env ρ β H s A X E₂) (ok : CompOk sc scope (xs.map Str.ofString)) (hTq : TgtQuiet tgt) (hAsg : ∀ Cf, Asg prog w A h₀ (compEnvC scope (clFrom env.cells scope.names []) Cf env) Cf tgt xs bd) (hρ : ∀ v H ρ', bd v H = some ρ' → ∀ y, y ∉ xs → ρ' y = ρ y) (hE : SoundE prog w h₀ P fs mg mb n C elt el scope) (hT : SoundIfs prog w h₀ P fs mg mb n C conds ifs scope)
    (hs : ∀ x, foldedSetIterable iter env x = pure x)
    (hsrc : wpAny (model prog w) A (eval iter env) (fun xv s₁ => wpAny (model prog w) A (pyIter xv) (SrcReady prog w A h₀ β s fun G items H₁ => wLoop G (compStep C elt conds bd noX) items [] H₁ (fun acc H5 => Q (.ref H5.length) (H5 ++ [.list acc]))) Ex s₁) Ex s) :
    wpAny (model prog w) A (eval (.ListComp el [⟨tgt, iter, ifs, 0⟩] scope pos) env) (PE h₀ β s Q) Ex s := by
  rw [eval_ListComp]
  refine comp_whole (use := none) a ok hTq hAsg hρ hE hT hs hsrc fun D Cf β' H' acc s' c hns hk => ?_
  obtain ⟨m, hn⟩ := hns
  refine ⟨m, hn, fun h'' hs'' => ?_⟩
  obtain ⟨h', tk', rfl⟩ := c.step.same
  obtain ⟨us, ⟨q, hpl⟩, hus⟩ := c.list
  have hC₀ : h₀.get? Cf = Option.none := by
    cases e : h₀.get? Cf with
    | none => rfl
    | some o => have := a.sr.kept _ _ e; (first | exact clash c.cnew this | exact clash this c.cnew | (rw [c.cnew] at this; cases this))
  have c' : CompOut h₀ β s D Cf β' H' acc { s with heap := h'', toks := tk' } := by
    refine ⟨⟨⟨_, _, rfl⟩, c.step.grow, fun b hb o e => KAt.trans (c.step.keep b hb) (.of fun o' e' => hs''.extBut b o' ?_ e') o e, c.step.fresh⟩, c.sr.other fun b o e q => hs''.extBut b o ?_ e, c.dout, c.dnew, c.cnew, ⟨us, ⟨q, hs''.extBut D _ c.dc hpl⟩, hus⟩, c.len, c.dc, c.cout⟩
    · rintro rfl; (first | exact clash c.cnew e | exact clash e c.cnew | (rw [c.cnew] at e; cases e))
    · rcases q with q | ⟨o', q⟩
      · rintro rfl; exact c.cout q
      · rintro rfl; (first | exact clash hC₀ q | exact clash q hC₀ | (rw [hC₀] at q; cases q))
  obtain ⟨st, sr, vr⟩ := c'.adopt a.sr.kept
  exact ⟨_, _, _, hk, st, sr, vr⟩

end
end Mine

namespace Mine
open PySem

section
variable {prog : Program} {w : World} {h₀ : Heap} {P : Prog} {fs : Tab} {mg mb : Str → Option Value} {n : Around → Prop} {C : Ctx}

noncomputable def Snd (prog : Program) (w : World) (h₀ : Heap) (P : Prog) (fs : Tab) (mg mb : Str → Option Value) (n : Around → Prop) (C : Ctx) (sc : Scope) (e : E) (x : Expr) : Prop :=
  SoundE prog w h₀ P fs mg mb n C e x sc ∧ SoundT prog w h₀ P fs mg mb n C e x sc

theorem PE.now {β : List Addr} {H : Hp} {s : Shared} {Q : Post} {v : V} {u : Value} (hq : Q v H) (sr : SR h₀ β H s.heap) (vr : VR β v u) : PE h₀ β s Q u s := ⟨β, v, H, hq, Step.refl β s, sr, vr⟩
theorem PE.tok {β : List Addr} {H : Hp} {s : Shared} {Q : Post} {v : V} {u : Value} {t : Nat} (hq : Q v H) (sr : SR h₀ β H s.heap) (vr : VR β v u) : PE h₀ β s Q u { s with toks := t } := ⟨β, v, H, hq, Step.toks β s t, sr, vr⟩

variable {sc : Scope} {env : PySem.Env} {ρ : Env} {A : Around} {E' : Value → Shared → Prop}

theorem list_of {es : List E} {xs : List Expr} (hA : All2 (Snd prog w h₀ P fs mg mb n C sc) es xs) : ∀ {β : List Addr} {H : Hp} {s : Shared} {Q : List V → Hp → Prop} {X : XP}, At P fs mg mb h₀ n sc env ρ β H s A X E' → wEs C es ρ H Q X →
    wpList prog w A env xs (PEs h₀ β s Q) E' s := by
  induction hA with
  | nil => intro β H s Q X a hw; exact ⟨β, [], H, hw, Step.refl β s, a.sr, .nil⟩
  | cons h _ ih =>
    intro β H s Q X a hw
    refine wpAny_mono (h.1 env ρ β H s A _ X E' a hw) (fun u s1 h1 => ?_) fun _ _ e => e
    obtain ⟨β1, v, H1, hw1, t1, sr1, vr1⟩ := h1
    refine wpList_mono (ih (a.step t1 sr1) hw1) fun us s2 h2 => ?_
    obtain ⟨β2, vs, H2, hq, t2, sr2, vr2⟩ := h2
    exact ⟨β2, v :: vs, H2, hq, t1.trans t2, sr2, .cons (vr1.mono t2.grow) vr2⟩

theorem ready_of {p : Prim} {β : List Addr} {s s1 : Shared} {Q : Post} {us : List Value} (h : PEs h₀ β s (fun vs H1 => wP p vs H1 Q) us s1) : Ready h₀ p (PE h₀ β s Q) us s1 := by
  obtain ⟨β1, vs, H1, hw, t1, sr1, vr1⟩ := h
  obtain ⟨⟨v, H2⟩, hp, hw⟩ := oE_ex hw
  exact ⟨β1, vs, H1, v, H2, hp, vr1, sr1, fun u s' β' st sr vr => (⟨β', v, H2, hw, t1.trans st, sr, vr⟩ : PE h₀ β s Q u s')⟩

theorem and_true {es : List E} {xs : List Expr} (hA : All2 (Snd prog w h₀ P fs mg mb n C sc) es xs) : ∀ {β : List Addr} {H : Hp} {s : Shared} {k : Bool → Hp → Prop} {X : XP}, At P fs mg mb h₀ n sc env ρ β H s A X E' → wAnd C es ρ H k X →
    wpAny (model prog w) A (allTrue .And xs env) (PB h₀ β s k) E' s := by
  induction hA with
  | nil => intro β H s k X a hw; exact wpAny_allTrue_And_nil ⟨β, H, hw, Step.refl β s, a.sr⟩
  | cons h _ ih =>
    intro β H s k X a hw
    refine wpAny_allTrue_And_cons (wpAny_mono (h.2 env ρ β H s A _ X E' a hw) (fun b s1 h1 => ?_) fun _ _ e => e)
    obtain ⟨β1, H1, hb, t1, sr1⟩ := h1
    cases b with
    | true => exact wpAny_mono (ih (a.step t1 sr1) (hb.1 rfl)) (fun _ _ q => q.after t1) fun _ _ e => e
    | false => exact ⟨β1, H1, hb.2 rfl, t1, sr1⟩

theorem or_true {es : List E} {xs : List Expr} (hA : All2 (Snd prog w h₀ P fs mg mb n C sc) es xs) : ∀ {β : List Addr} {H : Hp} {s : Shared} {k : Bool → Hp → Prop} {X : XP}, At P fs mg mb h₀ n sc env ρ β H s A X E' → wOr C es ρ H k X →
    wpAny (model prog w) A (allTrue .Or xs env) (PB h₀ β s k) E' s := by
  induction hA with
  | nil => intro β H s k X a hw; exact wpAny_allTrue_Or_nil ⟨β, H, hw, Step.refl β s, a.sr⟩
  | cons h _ ih =>
    intro β H s k X a hw
    refine wpAny_allTrue_Or_cons (wpAny_mono (h.2 env ρ β H s A _ X E' a hw) (fun b s1 h1 => ?_) fun _ _ e => e)
    obtain ⟨β1, H1, hb, t1, sr1⟩ := h1
    cases b with
    | true => exact ⟨β1, H1, hb.1 rfl, t1, sr1⟩
    | false => exact wpAny_mono (ih (a.step t1 sr1) (hb.2 rfl)) (fun _ _ q => q.after t1) fun _ _ e => e

theorem boolOp_one {M : Model} {pos : Pos} {op : BoolOp} {x : Sem Value} {Q : Value → Shared → Prop} {s : Shared} (h : wpAny M A x Q E' s) : wpAny M A (boolOp pos op [x]) Q E' s := h
theorem boolOp_cons {M : Model} {pos : Pos} {op : BoolOp} {x y : Sem Value} {rest : List (Sem Value)} {Q : Value → Shared → Prop} {s : Shared}
    (h : wpAny M A x (fun v s1 => wpAny M A (truthy v) (fun t s2 => match op, t with | .And, false | .Or, true => Q v s2 | _, _ => wpAny M A (boolOp pos op (y :: rest)) Q E' s2) E' s1) E' s) :
    wpAny M A (boolOp pos op (x :: y :: rest)) Q E' s := by
  unfold boolOp
  refine wpAny_bind (wpAny_mono h (fun v s1 h1 => wpAny_bind (wpAny_standAt (wpAny_bind (wpAny_holding (wpAny_mono h1 (fun t s2 h2 => ?_) fun _ _ e => e))))) fun _ _ e => e)
  cases op <;> cases t <;> first | exact wpAny_pure h2 | exact h2

theorem bool_of {v : V} {β : List Addr} {u : Value} {k : Bool → Prop} (h : wB v k) (vr : VR β v u) : ∃ b, v = .bool b ∧ u = .bool b ∧ k b := by
  cases vr with
  | bool b => exact ⟨b, rfl, rfl, h⟩
  | _ => exact h.elim

theorem and_val {es : List E} {xs : List Expr} (hA : All2 (Snd prog w h₀ P fs mg mb n C sc) es xs) : ∀ {β : List Addr} {H : Hp} {s : Shared} {Q : Post} {X : XP} {pos : Pos}, xs ≠ [] → At P fs mg mb h₀ n sc env ρ β H s A X E' →
    wAnd C es ρ H (fun b H1 => Q (.bool b) H1) X → wpAny (model prog w) A (boolOp pos .And (evalEach xs env)) (PE h₀ β s Q) E' s := by
  induction hA with
  | nil => intro β H s Q X pos hne; exact absurd rfl hne
  | @cons e x es xs h t ih =>
    intro β H s Q X pos _ a hw
    cases t with
    | nil =>
      show wpAny _ _ (boolOp pos .And [eval x env]) _ _ _
      refine boolOp_one (wpAny_mono (h.1 env ρ β H s A _ X E' a hw) (fun u s1 h1 => ?_) fun _ _ e => e)
      obtain ⟨β1, v, H1, hb, t1, sr1, vr1⟩ := h1
      obtain ⟨b, rfl, rfl, hk⟩ := bool_of hb vr1
      cases b with
      | true => exact ⟨β1, _, H1, hk.1 rfl, t1, sr1, .bool _⟩
      | false => exact ⟨β1, _, H1, hk.2 rfl, t1, sr1, .bool _⟩
    | @cons e' x' es' xs' h' t' =>
      show wpAny _ _ (boolOp pos .And (eval x env :: eval x' env :: evalEach xs' env)) _ _ _
      refine boolOp_cons (wpAny_mono (h.1 env ρ β H s A _ X E' a hw) (fun u s1 h1 => ?_) fun _ _ e => e)
      obtain ⟨β1, v, H1, hb, t1, sr1, vr1⟩ := h1
      obtain ⟨b, rfl, rfl, hk⟩ := bool_of hb vr1
      refine wpAny_truthy_bool ?_
      cases b with
      | true => exact wpAny_mono (ih (by simp) (a.step t1 sr1) (hk.1 rfl)) (fun _ _ q => q.after t1) fun _ _ e => e
      | false => exact ⟨β1, _, H1, hk.2 rfl, t1, sr1, .bool _⟩

theorem or_val {es : List E} {xs : List Expr} (hA : All2 (Snd prog w h₀ P fs mg mb n C sc) es xs) : ∀ {β : List Addr} {H : Hp} {s : Shared} {Q : Post} {X : XP} {pos : Pos}, xs ≠ [] → At P fs mg mb h₀ n sc env ρ β H s A X E' →
    wOr C es ρ H (fun b H1 => Q (.bool b) H1) X → wpAny (model prog w) A (boolOp pos .Or (evalEach xs env)) (PE h₀ β s Q) E' s := by
  induction hA with
  | nil => intro β H s Q X pos hne; exact absurd rfl hne
  | @cons e x es xs h t ih =>
    intro β H s Q X pos _ a hw
    cases t with
    | nil =>
      show wpAny _ _ (boolOp pos .Or [eval x env]) _ _ _
      refine boolOp_one (wpAny_mono (h.1 env ρ β H s A _ X E' a hw) (fun u s1 h1 => ?_) fun _ _ e => e)
      obtain ⟨β1, v, H1, hb, t1, sr1, vr1⟩ := h1
      obtain ⟨b, rfl, rfl, hk⟩ := bool_of hb vr1
      cases b with
      | true => exact ⟨β1, _, H1, hk.1 rfl, t1, sr1, .bool _⟩
      | false => exact ⟨β1, _, H1, hk.2 rfl, t1, sr1, .bool _⟩
    | @cons e' x' es' xs' h' t' =>
      show wpAny _ _ (boolOp pos .Or (eval x env :: eval x' env :: evalEach xs' env)) _ _ _
      refine boolOp_cons (wpAny_mono (h.1 env ρ β H s A _ X E' a hw) (fun u s1 h1 => ?_) fun _ _ e => e)
      obtain ⟨β1, v, H1, hb, t1, sr1, vr1⟩ := h1
      obtain ⟨b, rfl, rfl, hk⟩ := bool_of hb vr1
      refine wpAny_truthy_bool ?_
      cases b with
      | true => exact ⟨β1, _, H1, hk.1 rfl, t1, sr1, .bool _⟩
      | false => exact wpAny_mono (ih (by simp) (a.step t1 sr1) (hk.2 rfl)) (fun _ _ q => q.after t1) fun _ _ e => e

theorem ifs_of {es : List E} {xs : List Expr} (hA : All2 (Snd prog w h₀ P fs mg mb n C sc) es xs) (hl : xs.length ≤ 1) : SoundIfs prog w h₀ P fs mg mb n C es xs sc := by
  intro env ρ β H s A k X E' a hw
  cases hA with
  | nil => exact wpAny_tests_nil ⟨β, H, hw, Step.refl β s, a.sr⟩
  | cons h t =>
    cases t with
    | nil =>
      refine wpAny_tests_one (wpAny_mono (h.2 env ρ β H s A _ X E' a hw) (fun b s1 h1 => ?_) fun _ _ e => e)
      obtain ⟨β1, H1, hb, t1, sr1⟩ := h1
      cases b with
      | true => exact ⟨β1, H1, hb.1 rfl, t1, sr1⟩
      | false => exact ⟨β1, H1, hb.2 rfl, t1, sr1⟩
    | cons _ _ => simp at hl

theorem seqOf_len {β : List Addr} {H : Hp} {s : Shared} {a : Nat} {r : Addr} {xs : List V} (sr : SR h₀ β H s.heap) (ha : seqOf H a = some xs) (hr : β[a]? = some r) : xs.length ≤ lim := let ⟨_, _, _, h⟩ := sr.isSeq ha hr; h

theorem rangeOf_len {vs : List V} {is : List Int} (h : rangeOf vs = some is) : is.length ≤ lim := by
  have key : ∀ a b c : Int, 0 ≤ a → b.natAbs ≤ lim → 0 < c → (rangeI a b c).length ≤ lim := by
    intro a b c ha hb hc
    rw [rangeI_length]
    split
    · have h2 : (b - a - 1) / c ≤ b - a - 1 := Int.ediv_le_self _ (by omega)
      omega
    · simp
  unfold rangeOf at h
  split at h
  · split at h
    · rename_i hb; cases h; exact key _ _ _ (by omega) hb (by omega)
    · cases h
  · split at h
    · rename_i hb; cases h; exact key _ _ _ hb.1 hb.2.2 (by omega)
    · cases h
  · split at h
    · rename_i hb; cases h; exact key _ _ _ hb.1 hb.2.2.1 hb.2.2.2.1
    · cases h
  · cases h

theorem isTrue_op {p : Prim} {x : Expr} {xs : List Expr} (ho : OpA sc p x xs) (hp : ∀ o, p ≠ .cmp o) : ∀ env, isTrue x env (eval x env) = (do let v ← eval x env; standAt x.pos; holding [v] (truthy v)) := (op_facts ho).2.2 hp

theorem range_folded {g : Expr} {xs : List Expr} {pos : Pos} : ∀ v, foldedSetIterable (.Call g xs [] pos) env v = pure v := fun _ => rfl

theorem src_range {l : Nat} {args : List E} {xs : List Expr} {p pos : Pos} {β : List Addr} {H : Hp} {s : Shared} {W : (Hp → Prop) → List V → Hp → Prop} {X : XP} (hA : All2 (Snd prog w h₀ P fs mg mb (Amb l) C sc) args xs) (hp : xs.all plainE = true) (hgl : isGlb sc (Str.ofString "range") = true)
    (a : At P fs mg mb h₀ (Amb l) sc env ρ β H s A X E') (hw : wEs C args ρ H (fun vs H1 => oE (rangeOf vs) fun is => W (fun _ => True) (is.map .int) H1) X) :
    wpAny (model prog w) A (eval (.Call (.Name (Str.ofString "range") p) xs [] pos) env) (fun xv s₁ => wpAny (model prog w) A (pyIter xv) (SrcReady prog w A h₀ β s W) E' s₁) E' s := by
  refine (a.frm.keeps a.sr.kept).callT hgl rfl hp (wpList_mono (list_of hA a hw) fun us s1 h1 => ?_)
  obtain ⟨β1, vs, H1, hr, t1, sr1, vr1⟩ := h1
  obtain ⟨is, hr', hr⟩ := oE_ex hr
  refine wpAny_mono (iter_range (h₀ := h₀) a.amb.handled vr1 hr') (fun x s2 h2 => wpAny_mono h2 (fun it s3 h3 => ?_) fun _ _ e => e) fun _ _ e => e
  exact ⟨β1, H1, s1, _, _, h3, t1, sr1, by rw [List.length_map]; exact rangeOf_len hr', hr⟩

theorem src_seq {l : Nat} {src : E} {x : Expr} {β : List Addr} {H : Hp} {s : Shared} {W : (Hp → Prop) → List V → Hp → Prop} {X : XP} (hE : Snd prog w h₀ P fs mg mb (Amb l) C sc src x) (a : At P fs mg mb h₀ (Amb l) sc env ρ β H s A X E')
    (hw : wE C src ρ H (fun vs H1 => oE (oSeq vs H1) fun p => W (fun H' => H'[p.1]? = H1[p.1]?) p.2 H1) X) :
    wpAny (model prog w) A (eval x env) (fun xv s₁ => wpAny (model prog w) A (pyIter xv) (SrcReady prog w A h₀ β s W) E' s₁) E' s := by
  refine wpAny_mono (hE.1 env ρ β H s A _ X E' a hw) (fun u s1 h1 => ?_) fun _ _ e => e
  obtain ⟨β1, v, H1, hr, t1, sr1, vr1⟩ := h1
  cases vr1 with
  | @ref b r hb =>
    obtain ⟨_, ho, hr⟩ := oE_ex hr
    obtain ⟨items, hs, rfl⟩ := Option.map_eq_some_iff.mp ho
    refine wpAny_mono (iter_seq (h₀ := h₀) a.amb.handled sr1 hb hs) (fun it s3 h3 => ?_) fun _ _ e => e
    exact ⟨β1, H1, s1, _, _, h3, t1, sr1, seqOf_len sr1 hs hb, hr⟩
  | _ => exact hr.elim

theorem folded_of {e : E} {x : Expr} (h : ME fs sc e x) : ∀ v, foldedSetIterable x env v = pure v := h.facts.2 env

end
end Mine

namespace Mine
open PySem

section
variable {prog : Program} {w : World} {h₀ : Heap} {P : Prog} {fs : Tab} {mg mb : Str → Option Value} {n : Nat} {C : Ctx}

theorem call_sound {sc : Scope} {f : String} {args : List E} {xs : List Expr} {p pos : Pos} (hC : CallOK prog w h₀ fs mg n C.call) (hf : f ∈ fs.fns) (hg : isGlb sc (Str.ofString f) = true) (hp : xs.all plainE = true) (hA : All2 (Snd prog w h₀ P fs mg mb (Amb n) C sc) args xs) :
    Snd prog w h₀ P fs mg mb (Amb n) C sc (.call f args) (.Call (.Name (Str.ofString f) p) xs [] pos) := by
  have hE : SoundE prog w h₀ P fs mg mb (Amb n) C (.call f args) (.Call (.Name (Str.ofString f) p) xs [] pos) sc := by
    intro env ρ β H s A Q X E' a hw
    dsimp only [e_none, e_bool, e_int, e_str, e_var, e_glob, e_op, e_mcall, e_and, e_or, e_not, e_ife, e_chain, e_call, e_compR, e_compS] at hw
    obtain ⟨r, ob, fd, hr, ho, hd⟩ := a.names.fn f hf
    obtain ⟨hk, hdb⟩ := isGlb_kind hg a.sc
    refine wpAny_Call_Name_kw (name_global a.er.kind a.er.glob (a.names.keeps a.sr.kept).g hk hdb hr ?_)
    refine Calls.callWith_function (o := ob) (fd := fd) (wpList_args hp (wpList_mono (list_of hA a hw) fun us s1 h1 => ?_))
    obtain ⟨β1, vs, H1, hcall, t1, sr1, vr1⟩ := h1
    refine ⟨⟨sr1.kept _ _ ho, hd⟩, ?_⟩
    rw [List.nil_append]
    have a1 := a.step t1 sr1
    exact wpAny_mono (hC.1 f hf r hr vs H1 Q X hcall A β1 s1 E' us a.amb.c sr1 vr1 a1.frs fun c β' H' s' e hx t sr ex => a1.exc c β' H' s' e hx (t.toF a1.er.disj) sr ex) (fun _ _ q => q.after t1) fun _ _ e => e
  exact ⟨hE, hE.toT fun _ => rfl⟩

theorem newX_sound {sc : Scope} {c : String} {args : List E} {x : Expr} {xs : List Expr} {p pos : Pos} (hC : CallOK prog w h₀ fs mg n C.call) (hc : c ∈ fs.cls) (hg : isGlb sc (Str.ofString c) = true) (hp : (x :: xs).all plainE = true) (hA : All2 (Snd prog w h₀ P fs mg mb (Amb n) C sc) args (x :: xs)) :
    Snd prog w h₀ P fs mg mb (Amb n) C sc (.newX c args) (.Call (.Name (Str.ofString c) p) (x :: xs) [] pos) := by
  have hE : SoundE prog w h₀ P fs mg mb (Amb n) C (.newX c args) (.Call (.Name (Str.ofString c) p) (x :: xs) [] pos) sc := by
    intro env ρ β H s A Q X E' a hw
    rw [e_newX] at hw
    have hI := a.names.init c hc
    obtain ⟨r, C', N, mN, o, hC', X', hi, ho, hfc⟩ := hI
    obtain ⟨hk, hdb⟩ := isGlb_kind hg a.sc
    have hp' := hp
    rw [List.all_cons, Bool.and_eq_true] at hp'
    refine wpAny_Call_Name_kw (name_global a.er.kind a.er.glob (a.names.keeps a.sr.kept).g hk hdb hC' ?_)
    refine PyProof.Rows.callWith_cls (h₀ := h₀) X' (wpList_spliced hp (wpList_mono (list_of hA a hw) fun us s1 h1 => ?_)) (starEach_plain hp'.1) (backTo_any hp'.2)
    obtain ⟨β1, vs, H1, hcall, t1, sr1, vr1⟩ := h1
    refine ⟨sr1.kept, ?_⟩
    have a1 := a.step t1 sr1
    obtain ⟨hh, g, d, t, os⟩ := s1
    obtain ⟨nm, q, bs, sn, sub, col, dd, k0, k1, k2, k3, k5, hCo⟩ := (X'.keeps sr1.kept).obj
    refine wpAny_call_obj_init PySem.F.objNew hCo (X'.keeps sr1.kept).ns hi (sr1.kept _ _ ho) hfc fun h' y dx Mk => ?_
    have a2 := a1.step (s' := ⟨h', g, d, t, os⟩) (Step.of_heap (s := ⟨hh, g, d, t, os⟩) (h := h') (tk := t) Mk.keeps) (sr1.keeps Mk.keeps)
    refine wpAny_mono (hC.2.1 c hc r ⟨C', N, mN, o, hC', X', hi, ho, hfc⟩ y vs H1 _ X hcall (A.under (.builtin "type.__call__" ⟨.ref C' :: us, []⟩)) β1 ⟨h', g, d, t, os⟩ E' us ⟨a.amb.handled, ?_, ?_⟩ a2.sr vr1 a2.frs fun c β' H' s' e hx t sr ex => a2.exc c β' H' s' e hx (t.toF a2.er.disj) sr ex) (fun _ _ q => ?_) fun _ _ e => e
    · have := a.amb.depth; show A.depth + 1 + 2 * n < 900; omega
    · have := a.amb.units
      have hu : (Code.builtin "type.__call__" ⟨.ref C' :: us, []⟩).cUnits ≤ 10 := by first | decide | (show 1 ≤ 10; decide) | (show 2 ≤ 10; decide) | (show 3 ≤ 10; decide) | (show 4 ≤ 10; decide)
      show A.units + _ + 20 * n < 9000; omega
    · obtain ⟨_, _, _, hf, _⟩ := q; exact hf.elim
  exact ⟨hE, hE.toT fun _ => rfl⟩

theorem oInst_some {v : V} {H : Hp} {p : Nat × String} (h : oInst v H = some p) : v = .ref p.1 ∧ ∃ d fs, H[p.1]? = some (.inst p.2 d) ∧ H[d]? = some (.fdict fs) := by
  cases v with
  | ref a =>
    obtain ⟨o, h1, h2⟩ := Option.bind_eq_some_iff.mp h
    cases o with
    | inst c d =>
      obtain ⟨o', h3, h4⟩ := Option.bind_eq_some_iff.mp h2
      cases o' with
      | fdict fs => cases h4; exact ⟨rfl, d, fs, h1, h3⟩
      | _ => exact no_ns h4
    | _ => exact no_ns h2
  | _ => exact no_ns h

theorem call_own {env : PySem.Env} {A : Around} {s : Shared} {E : Value → Shared → Prop} {o : Expr} {name : Str} {apos pos : Pos} {args : List Expr} {Q : Value → Shared → Prop}
    (hbase : attributeBase o name env (eval o env) = eval o env)
    (hfew : ((backTo pos (starEach args env)).all (fun x => !x.1) && (backToKw pos (keywordEach [] env)).all (fun x => x.1.isSome)
      && decide (args.length + ([] : List Keyword).length + (if ([] : List Keyword).isEmpty then 0 else 1) < 30)) = true)
    (hline : (apos.endLine == pos.line) = true)
    (h : wpAny (model prog w) A (eval o env) (fun ov s₁ => ∃ f x, ov = .ref x ∧ (∀ {pl : Sem Bool} {Q : Value × List Value → Shared → Prop} {E : Value → Shared → Prop}, Q (.ref f, [.ref x]) s₁ → wpAny (model prog w) A (getMethod (.ref x) name pl) Q E s₁) ∧
      wpAny (model prog w) A (callWith pos (.ref f) [.ref x] (backTo pos (starEach args env)) []) Q E s₁) E s) :
    wpAny (model prog w) A (eval (.Call (.Attribute o name apos) args [] pos) env) Q E s := by
  rw [arm_eval_Call, hbase]
  refine wpAny_bind (wpAny_mono h (fun ov s₁ h₁ => ?_) fun _ _ e => e)
  obtain ⟨f, x, rfl, hm, hc⟩ := h₁
  refine wpAny_bind (wpAny_standAt ?_)
  have hform : methodCallForm (args.length + ([] : List Keyword).length) (backTo pos (starEach args env)) (backToKw pos (keywordEach [] env)) = true := hfew
  have hpos : methodCallPos true o env apos pos = pure pos := by unfold methodCallPos; simp [hline]
  unfold methodCall
  rw [hform]
  refine wpAny_bind (wpAny_holding (hm ?_))
  exact wpAny_bind (wpAny_of_eq hpos hc)

theorem few {env : PySem.Env} {pos : Pos} : ∀ {xs : List Expr}, xs.all plainE = true → (backTo pos (starEach xs env)).all (fun x => !x.1) = true
  | [], _ => rfl
  | x :: xs, h => by
    rw [List.all_cons, Bool.and_eq_true] at h
    rw [starEach_plain h.1]
    show (!false && (backTo pos (starEach xs env)).all (fun x => !x.1)) = true
    rw [few h.2]; rfl

theorem meth_own {sc : Scope} {m : String} {o : E} {o' : Expr} {args : List E} {xs : List Expr} {apos pos : Pos} (hC : CallOK prog w h₀ fs mg n C.call) (hm : m ∈ methNames) (hmm : ("Inn", m) ∈ fs.meths) (hl : (apos.endLine == pos.line) = true) (hb : plainBase o' = true) (hlen : xs.length < 29) (hp : xs.all plainE = true)
    (hO : Snd prog w h₀ P fs mg mb (Amb n) C sc o o') (hA : All2 (Snd prog w h₀ P fs mg mb (Amb n) C sc) args xs) : Snd prog w h₀ P fs mg mb (Amb n) C sc (.meth m o args) (.Call (.Attribute o' (Str.ofString m) apos) xs [] pos) := by
  have hE : SoundE prog w h₀ P fs mg mb (Amb n) C (.meth m o args) (.Call (.Attribute o' (Str.ofString m) apos) xs [] pos) sc := by
    intro env ρ β H s A Q X E' a hw
    rw [e_meth] at hw
    refine call_own (plainBase_eq hb) (by rw [few hp]; show (true && true && decide (xs.length + 0 + 0 < 30)) = true; simp; omega) hl (wpAny_mono (hO.1 env ρ β H s A _ X E' a hw) (fun ov s1 h1 => ?_) fun _ _ e => e)
    obtain ⟨β1, v, H1, hq, t1, sr1, vr1⟩ := h1
    obtain ⟨p, hpp, hq2⟩ := oE_ex hq
    obtain ⟨rfl, d, fs', e1, e2⟩ := oInst_some hpp
    obtain ⟨x, rfl, hr⟩ := vr1.ref_inv
    obtain ⟨ec, f, ob, fd, hM, ho, hd, getM⟩ := p_method (prog := prog) (w := w) (A := A) a.names.inn a.names.g hm e1 e2 hr sr1
    refine ⟨f, x, rfl, getM, ?_⟩
    have a1 := a.step t1 sr1
    refine Calls.callWith_function (o := ob) (fd := fd) (wpList_args hp (wpList_mono (list_of hA a1 hq2) fun us s2 h2 => ?_))
    obtain ⟨β2, vs, H2, hcall, t2, sr2, vr2⟩ := h2
    refine ⟨⟨sr2.kept _ _ ho, hd⟩, ?_⟩
    have a2 := a1.step t2 sr2
    rw [ec] at hcall
    exact wpAny_mono (hC.2.2 ("Inn", m) hmm f hM (.ref p.1 :: vs) H2 Q X hcall A β2 s2 E' (.ref x :: us) a.amb.c sr2 (.cons (.ref (pre_at t2.grow hr)) vr2) a2.frs fun c β' H' s' e hx t sr ex => a2.exc c β' H' s' e hx (t.toF a2.er.disj) sr ex) (fun _ _ q => q.after (t1.trans t2)) fun _ _ e => e
  exact ⟨hE, hE.toT fun _ => rfl⟩

theorem SR.adoptS {h : Heap} {β : List Addr} {H : Hp} (x : SR h₀ β H h) {r : Addr} {o : O} (hr : r ∉ β) (ho : Slot1 h₀ h (β ++ [r]) o r) : SR h₀ (β ++ [r]) (H ++ [o]) h := by
  have hp : β <+: β ++ [r] := List.prefix_append _ _
  refine ⟨x.kept, ?_, (x.objs.mono fun _ _ => Slot1.grow hp).append (.cons ho .nil)⟩
  rw [List.nodup_append]
  refine ⟨x.nodup, by simp, fun a ha b hb => ?_⟩
  simp at hb; subst hb; rintro rfl; exact hr ha

theorem new_sound {sc : Scope} {args : List E} {x : Expr} {xs : List Expr} {p pos : Pos} (hC : CallOK prog w h₀ fs mg n C.call) (hm : ("Inn", "__init__") ∈ fs.meths) (hg : isGlb sc (Str.ofString "Inn") = true) (hp : (x :: xs).all plainE = true) (hA : All2 (Snd prog w h₀ P fs mg mb (Amb n) C sc) args (x :: xs)) :
    Snd prog w h₀ P fs mg mb (Amb n) C sc (.new "Inn" args) (.Call (.Name (Str.ofString "Inn") p) (x :: xs) [] pos) := by
  have hE : SoundE prog w h₀ P fs mg mb (Amb n) C (.new "Inn" args) (.Call (.Name (Str.ofString "Inn") p) (x :: xs) [] pos) sc := by
    intro env ρ β H s A Q X E' a hw
    rw [e_new] at hw
    obtain ⟨C', N, mN, hC', X', i3, i4, i5⟩ := a.names.inn
    obtain ⟨r, o, fd, hi, ho, hfc, hfd⟩ := i5 "__init__" (.head _)
    obtain ⟨hk, hdb⟩ := isGlb_kind hg a.sc
    have hp' := hp
    rw [List.all_cons, Bool.and_eq_true] at hp'
    refine wpAny_Call_Name_kw (name_global a.er.kind a.er.glob (a.names.keeps a.sr.kept).g hk hdb hC' ?_)
    refine PyProof.Rows.callWith_cls (h₀ := h₀) X' (wpList_spliced hp (wpList_mono (list_of hA a hw) fun us s1 h1 => ?_)) (starEach_plain hp'.1) (backTo_any hp'.2)
    obtain ⟨β1, vs, H1, hcall, t1, sr1, vr1⟩ := h1
    refine ⟨sr1.kept, ?_⟩
    have a1 := a.step t1 sr1
    obtain ⟨hh, g, d, t, os⟩ := s1
    obtain ⟨nm, q, bs, sn, sub, col, dd, k0, k1, k2, k3, k5, hCo⟩ := (X'.keeps sr1.kept).obj
    refine wpAny_call_obj_init PySem.F.objNew hCo (X'.keeps sr1.kept).ns hi (sr1.kept _ _ ho) hfc fun h' y dx Mk => ?_
    obtain ⟨oy, hy, hcy, hny, hdy⟩ := Mk.inst
    have hdd := Mk.dict oy hy
    have hnsd : dx ≠ y ∧ h'.Ns1 dx fun _ => none := by
      rcases hdy with ⟨hn0, _⟩ | ⟨d', hd', hne, hns'⟩
      · rw [hn0] at hdd; cases hdd
      · cases hd'.symm.trans hdd; exact ⟨hne, hns'⟩
    have new0 : ∀ {b : Addr}, hh.get? b = none → h₀.get? b = none := fun {b} hb => by
      cases e : h₀.get? b with
      | none => rfl
      | some o => exact clash (sr1.kept _ _ e) hb
    have notin : ∀ {b : Addr}, hh.get? b = none → b ∉ β1 := fun {b} hb hm => by obtain ⟨o, e⟩ := sr1.mem hm; exact clash e hb
    have len1 : H1.length = β1.length := sr1.len
    have srA : SR h₀ (β1 ++ [dx]) (H1 ++ [.fdict []]) h' := (sr1.keeps Mk.keeps).adoptS (notin Mk.newD) (.fdict (new0 Mk.newD) hnsd.2 ⟨(fun n v hl => by cases hl), fun y hy => absurd rfl hy⟩)
    have srB : SR h₀ (β1 ++ [dx] ++ [y]) (H1 ++ [.fdict []] ++ [.inst "Inn" H1.length]) h' := srA.adoptS (fun hm => by
      rcases List.mem_append.mp hm with q | q
      · exact notin Mk.newX q
      · exact hnsd.1 (List.mem_singleton.mp q).symm) (.inst (new0 Mk.newX) (by rw [len1]; simp) hnsd.1 hy hcy a.names.g hC' hdd hny)
    have gr : β1 <+: β1 ++ [dx] ++ [y] := (List.prefix_append _ _).trans (List.prefix_append _ _)
    have st : Step β1 ⟨hh, g, d, t, os⟩ (β1 ++ [dx] ++ [y]) ⟨h', g, d, t, os⟩ := ⟨⟨h', t, rfl⟩, gr, fun b _ => .of fun o e => Mk.keeps b o e, fun b hb => by
      rcases List.mem_append.mp hb with q | q
      · rcases List.mem_append.mp q with q | q
        · exact .inl q
        · rw [List.mem_singleton.mp q]; exact .inr Mk.newD
      · rw [List.mem_singleton.mp q]; exact .inr Mk.newX⟩
    have a2 := a1.step st srB
    have hself : (β1 ++ [dx] ++ [y])[H1.length + 1]? = some y := by rw [len1]; simp
    have hcall' : C.call ("Inn" ++ "." ++ "__init__") (.ref (H1.length + 1) :: vs) (H1 ++ [.fdict []] ++ [.inst "Inn" H1.length]) (fun r H2 => r = .none ∧ Q (.ref (H1.length + 1)) H2) X := by
      rw [List.append_assoc]; exact hcall
    refine wpAny_mono (hC.2.2 ("Inn", "__init__") hm r ⟨C', N, mN, o, hC', X', hi, ho, hfc⟩ _ _ _ X hcall' (A.under (.builtin "type.__call__" ⟨.ref C' :: us, []⟩)) (β1 ++ [dx] ++ [y]) ⟨h', g, d, t, os⟩ E' (.ref y :: us) ⟨a.amb.handled, ?_, ?_⟩ srB (.cons (.ref hself) (VRs.mono gr vr1)) a2.frs fun c β' H' s' e hx t sr ex => a2.exc c β' H' s' e hx (t.toF a2.er.disj) sr ex) (fun u s4 q => ?_) fun _ _ e => e
    · have := a.amb.depth; show A.depth + 1 + 2 * n < 900; omega
    · have := a.amb.units
      have hu : (Code.builtin "type.__call__" ⟨.ref C' :: us, []⟩).cUnits ≤ 10 := by first | decide | (show 1 ≤ 10; decide) | (show 2 ≤ 10; decide) | (show 3 ≤ 10; decide) | (show 4 ≤ 10; decide)
      show A.units + _ + 20 * n < 9000; omega
    · obtain ⟨β4, v4, H4, ⟨rfl, hq4⟩, t4, sr4, vr4⟩ := q
      cases vr4
      exact ⟨rfl, β4, .ref (H1.length + 1), H4, hq4, t1.trans (st.trans t4), sr4, .ref (pre_at t4.grow hself)⟩
  exact ⟨hE, hE.toT fun _ => rfl⟩

theorem op_snd {sc : Scope} {p : Prim} {args : List E} {x : Expr} {xs : List Expr} (ho : OpA sc p x xs) (hp : xs.all plainE = true) (hA : All2 (Snd prog w h₀ P fs mg mb (Amb n) C sc) args xs) : Snd prog w h₀ P fs mg mb (Amb n) C sc (.op p args) x := by
  have hE : SoundE prog w h₀ P fs mg mb (Amb n) C (.op p args) x sc := by
    intro env ρ β H s A Q X E' a hw
    dsimp only [e_none, e_bool, e_int, e_str, e_var, e_glob, e_op, e_mcall, e_and, e_or, e_not, e_ife, e_chain, e_call, e_compR, e_compS] at hw
    exact op_sound ho hp a.frm a.sr.kept a.amb (wpList_mono (list_of hA a hw) fun us s1 h1 => ready_of h1)
  refine ⟨hE, ?_⟩
  by_cases hc : ∃ o, p = .cmp o
  · obtain ⟨o, rfl⟩ := hc
    intro env ρ β H s A k X E' a hw
    dsimp only [e_none, e_bool, e_int, e_str, e_var, e_glob, e_op, e_mcall, e_and, e_or, e_not, e_ife, e_chain, e_call, e_compR, e_compS] at hw
    cases ho with
    | cmp _ hm =>
      refine wpAny_isTrue_Compare1 (wpAny_mono (list_of hA a hw) (fun a' s1 h1 => wpAny_mono h1 (fun b' s2 h2 => ?_) fun _ _ e => e) fun _ _ e => e) hm
      obtain ⟨β1, vs, H1, v, H2, hpr, vr, sr, kk⟩ := ready_of h2
      obtain ⟨v1, v2, rfl, va, vb⟩ := vrs2 vr
      obtain ⟨rr, hr, e⟩ := Option.map_eq_some_iff.mp hpr
      cases e
      refine cmp_sound hr va vb a.amb.room (fun u s' β' st sr' vr' => ?_) sr
      obtain ⟨β3, v3, H3, hb3, t3, sr3, vr3⟩ := kk u s' β' st sr' vr'
      exact truthy_of hb3 t3 sr3 vr3
  · exact hE.toT (isTrue_op ho fun o e => hc ⟨o, e⟩)

theorem sound (hC : CallOK prog w h₀ fs mg n C.call) (hG : C.glob = P.glob) (e : E) (x : Expr) (sc : Scope) (h : ME fs sc e x) : Snd prog w h₀ P fs mg mb (Amb n) C sc e x := by
  refine ME.rec (motive_1 := fun sc e x _ => Snd prog w h₀ P fs mg mb (Amb n) C sc e x) (motive_2 := fun sc es xs _ => All2 (Snd prog w h₀ P fs mg mb (Amb n) C sc) es xs) ?_ ?_ ?_ ?_ ?_ ?_ ?_ ?_ ?_ ?_ ?_ ?_ ?_ ?_ ?_ ?_ ?_ ?_ ?_ ?_ ?_ h
  · intro sc kk pos
    have hE : SoundE prog w h₀ P fs mg mb (Amb n) C .none (.Constant .none kk pos) sc := fun env ρ β H s A Q X E' a hw => wpAny_Constant_none (PE.now hw a.sr .none)
    exact ⟨hE, hE.toT fun _ => rfl⟩
  · intro sc b kk pos
    have hE : SoundE prog w h₀ P fs mg mb (Amb n) C (.bool b) (.Constant (.bool b) kk pos) sc := fun env ρ β H s A Q X E' a hw => wpAny_Constant_bool (PE.now hw a.sr (.bool _))
    exact ⟨hE, hE.toT fun _ => rfl⟩
  · intro sc i kk pos
    have hE : SoundE prog w h₀ P fs mg mb (Amb n) C (.int i) (.Constant (.int i) kk pos) sc := fun env ρ β H s A Q X E' a hw => wpAny_Constant_int (PE.tok hw a.sr (.int _ _))
    exact ⟨hE, hE.toT fun _ => rfl⟩
  · intro sc y kk pos
    have hE : SoundE prog w h₀ P fs mg mb (Amb n) C (.str y) (.Constant (.str (Str.ofString y)) kk pos) sc := fun env ρ β H s A Q X E' a hw => wpAny_Constant_str (PE.tok hw a.sr (.str _ _))
    exact ⟨hE, hE.toT fun _ => rfl⟩
  · intro sc y pos h
    have hE : SoundE prog w h₀ P fs mg mb (Amb n) C (.var y) (.Name (Str.ofString y) pos) sc := by
      intro env ρ β H s A Q X E' a hw
      dsimp only [e_none, e_bool, e_int, e_str, e_var, e_glob, e_op, e_mcall, e_and, e_or, e_not, e_ife, e_chain, e_call, e_compR, e_compS] at hw
      obtain ⟨v, hv, hw⟩ := oE_ex hw
      exact sound_var a h hv fun u hu => PE.now hw a.sr hu
    exact ⟨hE, hE.toT fun _ => rfl⟩
  · intro sc y pos hg
    have hE : SoundE prog w h₀ P fs mg mb (Amb n) C (.glob y) (.Name (Str.ofString y) pos) sc := by
      intro env ρ β H s A Q X E' a hw
      dsimp only [e_none, e_bool, e_int, e_str, e_var, e_glob, e_op, e_mcall, e_and, e_or, e_not, e_ife, e_chain, e_call, e_compR, e_compS] at hw
      obtain ⟨v, hv, hw⟩ := oE_ex hw
      rw [hG] at hv
      obtain ⟨u, hu, hr⟩ := a.names.glob y v hv
      obtain ⟨hk, hd⟩ := isGlb_kind hg a.sc
      exact name_global a.er.kind a.er.glob (a.names.keeps a.sr.kept).g hk hd hu (PE.now hw a.sr hr.nil_any)
    exact ⟨hE, hE.toT fun _ => rfl⟩
  · intro sc p args x xs ho h ih
    exact op_snd ho h.plain ih
  · intro sc p m o o' x1 args apos pos hm h2 h4 h5 h6 hO hA
    have hpl := h6.plain
    have hE : SoundE prog w h₀ P fs mg mb (Amb n) C (.mcall p o args) (.Call (.Attribute o' (Str.ofString m) apos) [x1] [] pos) sc := by
      intro env ρ β H s A Q X E' a hw
      dsimp only [e_none, e_bool, e_int, e_str, e_var, e_glob, e_op, e_mcall, e_and, e_or, e_not, e_ife, e_chain, e_call, e_compR, e_compS] at hw
      refine meth_sound (h₀ := h₀) hm h2 (by simpa using hpl) h4 (wpAny_mono (hO.1 env ρ β H s A _ X E' a hw) (fun ov s1 h1 => ?_) fun _ _ e => e)
      obtain ⟨β1, v, H1, ⟨hr, hw1⟩, t1, sr1, vr1⟩ := h1
      refine ⟨⟨β1, v, H1, hr, vr1, sr1⟩, wpAny_mono (list_of hA (a.step t1 sr1) hw1) (fun u s2 h2 => ?_) fun _ _ e => e⟩
      obtain ⟨β2, vs, H2, hp2, t2, sr2, vr2⟩ := h2
      exact ready_of ⟨β2, v :: vs, H2, hp2, t1.trans t2, sr2, .cons (vr1.mono t2.grow) vr2⟩
    exact ⟨hE, hE.toT fun _ => rfl⟩
  · intro sc es x xs p h hA
    refine ⟨fun env ρ β H s A Q X E' a hw => ?_, fun env ρ β H s A k X E' a hw => ?_⟩
    · dsimp only [e_none, e_bool, e_int, e_str, e_var, e_glob, e_op, e_mcall, e_and, e_or, e_not, e_ife, e_chain, e_call, e_compR, e_compS] at hw
      exact and_val hA (List.cons_ne_nil _ _) a hw
    · dsimp only [e_none, e_bool, e_int, e_str, e_var, e_glob, e_op, e_mcall, e_and, e_or, e_not, e_ife, e_chain, e_call, e_compR, e_compS] at hw
      exact wpAny_isTrue_BoolOp (and_true hA a hw)
  · intro sc es x xs p h hA
    refine ⟨fun env ρ β H s A Q X E' a hw => ?_, fun env ρ β H s A k X E' a hw => ?_⟩
    · dsimp only [e_none, e_bool, e_int, e_str, e_var, e_glob, e_op, e_mcall, e_and, e_or, e_not, e_ife, e_chain, e_call, e_compR, e_compS] at hw
      exact or_val hA (List.cons_ne_nil _ _) a hw
    · dsimp only [e_none, e_bool, e_int, e_str, e_var, e_glob, e_op, e_mcall, e_and, e_or, e_not, e_ife, e_chain, e_call, e_compR, e_compS] at hw
      exact wpAny_isTrue_BoolOp (or_true hA a hw)
  · intro sc e y p h hS
    refine ⟨fun env ρ β H s A Q X E' a hw => ?_, fun env ρ β H s A k X E' a hw => ?_⟩
    · dsimp only [e_none, e_bool, e_int, e_str, e_var, e_glob, e_op, e_mcall, e_and, e_or, e_not, e_ife, e_chain, e_call, e_compR, e_compS] at hw
      refine wpAny_UnaryOp (wpAny_mono (hS.1 env ρ β H s A _ X E' a hw) (fun u s1 h1 => ?_) fun _ _ e => e)
      obtain ⟨β1, v, H1, hb, t1, sr1, vr1⟩ := h1
      obtain ⟨b, rfl, rfl, hk⟩ := bool_of hb vr1
      exact not_value (wpAny_truthy_bool ⟨β1, _, H1, hk, t1, sr1, .bool _⟩)
    · dsimp only [e_none, e_bool, e_int, e_str, e_var, e_glob, e_op, e_mcall, e_and, e_or, e_not, e_ife, e_chain, e_call, e_compR, e_compS] at hw
      refine wpAny_isTrue_Not (wpAny_mono (hS.2 env ρ β H s A (fun b H1 => k (!b) H1) X E' a hw) (fun b s1 ⟨b1, b2, b3, b4, b5⟩ => ⟨b1, b2, b3, b4, b5⟩) fun _ _ e => e)
  · intro sc c t f y1 y2 y3 p a1 a2 a3 h1 h2 h3
    refine ⟨fun env ρ β H s A Q X E' a hw => ?_, fun env ρ β H s A k X E' a hw => ?_⟩
    · dsimp only [e_none, e_bool, e_int, e_str, e_var, e_glob, e_op, e_mcall, e_and, e_or, e_not, e_ife, e_chain, e_call, e_compR, e_compS] at hw
      refine wpAny_IfExp (wpAny_mono (h1.2 env ρ β H s A _ X E' a hw) (fun b s1 hb => ?_) fun _ _ e => e)
      obtain ⟨β1, H1, hb, t1, sr1⟩ := hb
      cases b with
      | true => exact wpAny_mono (h2.1 env ρ β1 H1 s1 A Q X E' (a.step t1 sr1) (hb.1 rfl)) (fun _ _ q => q.after t1) fun _ _ e => e
      | false => exact wpAny_mono (h3.1 env ρ β1 H1 s1 A Q X E' (a.step t1 sr1) (hb.2 rfl)) (fun _ _ q => q.after t1) fun _ _ e => e
    · dsimp only [e_none, e_bool, e_int, e_str, e_var, e_glob, e_op, e_mcall, e_and, e_or, e_not, e_ife, e_chain, e_call, e_compR, e_compS] at hw
      refine PyProof.Rows.isTrue_IfExp (wpAny_mono (h1.2 env ρ β H s A _ X E' a hw) (fun b s1 hb => ?_) fun _ _ e => e)
      obtain ⟨β1, H1, hb, t1, sr1⟩ := hb
      cases b with
      | true => exact wpAny_mono (h2.2 env ρ β1 H1 s1 A k X E' (a.step t1 sr1) (hb.1 rfl)) (fun _ _ q => q.after t1) fun _ _ e => e
      | false => exact wpAny_mono (h3.2 env ρ β1 H1 s1 A k X E' (a.step t1 sr1) (hb.2 rfl)) (fun _ _ q => q.after t1) fun _ _ e => e
  · intro sc e1 e2 e3 o1 o2 l r r' p hm hm' h1 h2 h3 s1 s2 s3
    have hlm : lastMarks [cmpOf o1, cmpOf o2] [r, r'] = false := by simpa [lastMarks] using hm'
    refine ⟨fun env ρ β H s A Q X E' a hw => ?_, fun env ρ β H s A k X E' a hw => ?_⟩
    · dsimp only [e_none, e_bool, e_int, e_str, e_var, e_glob, e_op, e_mcall, e_and, e_or, e_not, e_ife, e_chain, e_call, e_compR, e_compS] at hw
      refine PyProof.Rows.Compare_chain (wpAny_mono (s1.1 env ρ β H s A _ X E' a hw) (fun ua q1 hq1 => ?_) fun _ _ e => e) hlm
      obtain ⟨β1, va, H1, hw1, t1, sr1, vr1⟩ := hq1
      have a1 := a.step t1 sr1
      refine PyProof.Rows.chain_link (wpAny_mono (s2.1 env ρ β1 H1 q1 A _ X E' a1 hw1) (fun ub q2 hq2 => ?_) fun _ _ e => e)
      obtain ⟨β2, vb, H2, hw2, t2, sr2, vr2⟩ := hq2
      unfold wP at hw2
      rw [p_cmpP] at hw2
      cases hcv : cmpV o1 va vb H2 with
      | none => rw [hcv] at hw2; exact hw2.elim
      | some bb =>
        rw [hcv] at hw2
        refine cmp_sound hcv (vr1.mono t2.grow) vr2 a.amb.room (fun u s' β' st sr' vr' => ?_) sr2
        cases vr' with
        | bool _ =>
          refine wpAny_truthy_bool ?_
          have hk : wIf bb _ _ := hw2
          have t12 := t1.trans (t2.trans st)
          cases bb with
          | false => exact ⟨β', _, H2, hk.2 rfl, t12, sr', .bool _⟩
          | true =>
            have a3 := a.step t12 sr'
            refine PyProof.Rows.chain_last (wpAny_mono (s3.1 env ρ β' H2 s' A _ X E' a3 (hk.1 rfl)) (fun uc q3 hq3 => ?_) fun _ _ e => e)
            obtain ⟨β3, vc, H3, hw3, t3, sr3, vr3⟩ := hq3
            try unfold wP at hw3
            try rw [p_cmpP] at hw3
            cases hcv3 : cmpV o2 vb vc H3 with
            | none => rw [hcv3] at hw3; exact hw3.elim
            | some b3 =>
              rw [hcv3] at hw3
              exact cmp_sound hcv3 (vr2.mono (st.grow.trans t3.grow)) vr3 a.amb.room (fun u s'' β'' st'' sr'' vr'' => ⟨β'', _, H3, hw3, (t12.trans t3).trans st'', sr'', vr''⟩) sr3
    · dsimp only [e_none, e_bool, e_int, e_str, e_var, e_glob, e_op, e_mcall, e_and, e_or, e_not, e_ife, e_chain, e_call, e_compR, e_compS] at hw
      refine PyProof.Rows.isTrue_chain (wpAny_mono (s1.1 env ρ β H s A _ X E' a hw) (fun ua q1 hq1 => ?_) fun _ _ e => e) hlm
      obtain ⟨β1, va, H1, hw1, t1, sr1, vr1⟩ := hq1
      have a1 := a.step t1 sr1
      refine PyProof.Rows.test_link (wpAny_mono (s2.1 env ρ β1 H1 q1 A _ X E' a1 hw1) (fun ub q2 hq2 => ?_) fun _ _ e => e)
      obtain ⟨β2, vb, H2, hw2, t2, sr2, vr2⟩ := hq2
      unfold wP at hw2
      rw [p_cmpP] at hw2
      cases hcv : cmpV o1 va vb H2 with
      | none => rw [hcv] at hw2; exact hw2.elim
      | some bb =>
        rw [hcv] at hw2
        refine cmp_sound hcv (vr1.mono t2.grow) vr2 a.amb.room (fun u s' β' st sr' vr' => ?_) sr2
        cases vr' with
        | bool _ =>
          refine wpAny_truthy_bool ?_
          have hk : wIf bb _ _ := hw2
          have t12 := t1.trans (t2.trans st)
          cases bb with
          | false => exact ⟨β', H2, hk.2 rfl, t12, sr'⟩
          | true =>
            have a3 := a.step t12 sr'
            refine PyProof.Rows.test_last (wpAny_mono (s3.1 env ρ β' H2 s' A _ X E' a3 (hk.1 rfl)) (fun uc q3 hq3 => ?_) fun _ _ e => e)
            obtain ⟨β3, vc, H3, hw3, t3, sr3, vr3⟩ := hq3
            try unfold wP at hw3
            try rw [p_cmpP] at hw3
            cases hcv3 : cmpV o2 vb vc H3 with
            | none => rw [hcv3] at hw3; exact hw3.elim
            | some b3 =>
              rw [hcv3] at hw3
              exact cmp_sound hcv3 (vr2.mono (st.grow.trans t3.grow)) vr3 a.amb.room (fun u s'' β'' st'' sr'' vr'' => by
                cases vr'' with | bool _ => exact wpAny_truthy_bool ⟨β'', H3, hw3, (t12.trans t3).trans st'', sr''⟩) sr3
  · intro sc f args xs p pos hf hg h ih
    exact call_sound hC hf hg h.plain ih
  · intro sc c args x xs p pos hc hg h ih
    exact newX_sound hC hc hg h.plain ih
  · intro sc args x xs p pos hm hg h ih
    exact new_sound hC hm hg h.plain ih
  · intro sc m o o' args xs apos pos hm hmm hl hb hlen h1 h2 i1 i2
    exact meth_own hC hm hmm hl hb hlen h2.plain i1 i2
  · intro sc scope elt y args conds el xs ifs px gp rp pos h2 h4 h8 h5 h6 h7 sA sE sI0
    have sI := ifs_of sI0 h8
    have hE : SoundE prog w h₀ P fs mg mb (Amb n) C (.compR elt y args conds) (.ListComp el [⟨.Name (Str.ofString y) px, .Call (.Name (Str.ofString "range") gp) xs [] rp, ifs, 0⟩] scope pos) sc := by
      intro env ρ β H s A Q X E' a hw
      dsimp only [e_none, e_bool, e_int, e_str, e_var, e_glob, e_op, e_mcall, e_and, e_or, e_not, e_ife, e_chain, e_call, e_compR, e_compS] at hw
      exact comp_value (xs := [y]) a (compOk_of h4) trivial (fun Cf => asg_one (compOk_of h4)) (fun _ H _ hb => one_only (H := H) hb) sE.1 sI range_folded (src_range (X := X) (W := fun G items H₁ => wLoop G (compStep C elt conds (fun v _ => some (Env.set ρ y v)) noX) items [] H₁ (fun acc H5 => Q (V.ref (List.length H5)) (H5 ++ [O.list acc]))) sA h5.plain h2 a hw)
    exact ⟨hE, hE.toT fun _ => rfl⟩
  · intro sc scope elt src y conds el it ifs px pos h4 h8 h5 h6 h7 sS sE sI0
    have sI := ifs_of sI0 h8
    have hE : SoundE prog w h₀ P fs mg mb (Amb n) C (.compS elt (.one y) src conds) (.ListComp el [⟨.Name (Str.ofString y) px, it, ifs, 0⟩] scope pos) sc := by
      intro env ρ β H s A Q X E' a hw
      dsimp only [e_compS, t_one, oE_some] at hw
      exact comp_value (xs := [y]) a (compOk_of h4) trivial (fun Cf => asg_one (compOk_of h4)) (fun _ H _ hb => one_only (H := H) hb) sE.1 sI (folded_of h5) (src_seq (X := X) (W := fun G items H₁ => wLoop G (compStep C elt conds (fun v _ => some (Env.set ρ y v)) noX) items [] H₁ (fun acc H5 => Q (V.ref (List.length H5)) (H5 ++ [O.list acc]))) sS a hw)
    exact ⟨hE, hE.toT fun _ => rfl⟩
  · intro sc; exact .nil
  · intro sc e es x xs h1 h2 i1 i2; exact .cons i1 i2

theorem soundAll (hC : CallOK prog w h₀ fs mg n C.call) (hG : C.glob = P.glob) : ∀ (es : List E) (xs : List Expr) (sc : Scope), MEs fs sc es xs → All2 (Snd prog w h₀ P fs mg mb (Amb n) C sc) es xs
  | [], xs, sc, h => by cases h; exact .nil
  | e :: es, xs, sc, h => by
    cases h with
    | cons h1 h2 => exact .cons (sound hC hG e _ sc h1) (soundAll hC hG es _ sc h2)

end
end Mine

namespace Mine
open PySem

noncomputable def isLoc (sc : Scope) (x : Str) : Bool := match sc.names.lookup x with
  | some .local | some .cell => x != (".0" : Str)
  | _ => false

noncomputable def isComp : Expr → Bool
  | .ListComp .. | .SetComp .. | .DictComp .. => true
  | _ => false

inductive MC : E → Expr → Prop where
  | none {k : Nat} {p : Pos} : MC .none (.Constant .none k p)
  | bool {b : Bool} {k : Nat} {p : Pos} : MC (.bool b) (.Constant (.bool b) k p)
  | int {i : Int} {k : Nat} {p : Pos} : MC (.int i) (.Constant (.int i) k p)
noncomputable def isLcl (sc : Scope) (x : Str) : Bool := match sc.names.lookup x with
  | some .local => x != (".0" : Str) && x != ("__debug__" : Str) && x != ("__classdict__" : Str)
  | _ => false
noncomputable def allIn (fs : Tab) : Bool := ["BadWishes", "BadGuest", "BadMates", "BadParties", "NoNote", "BedError"].all fun c => fs.excs.contains c
inductive MX (fs : Tab) (sc : Scope) (n : String) : E → Expr → Prop where
  | const {e : E} {x : Expr} : MC e x → MX fs sc n e x
  | one {c : String} {p1 p2 p3 p : Pos} : isGlb sc (Str.ofString "isinstance") = true → c ∈ fs.excs → isGlb sc (Str.ofString c) = true → MX fs sc n (.op (.isinst [c]) [.var n]) (.Call (.Name (Str.ofString "isinstance") p1) [.Name (Str.ofString n) p2, .Name (Str.ofString c) p3] [] p)
  | val {p1 p2 p3 p : Pos} : isGlb sc (Str.ofString "isinstance") = true → isGlb sc (Str.ofString "ValueError") = true → MX fs sc n (.op (.isinst ["ValueError"]) [.var n]) (.Call (.Name (Str.ofString "isinstance") p1) [.Name (Str.ofString n) p2, .Name (Str.ofString "ValueError") p3] [] p)
noncomputable def IsI (fs : Tab) (sc : Scope) (c : String) (x : Expr) : Prop := MX fs sc "error" (.op (.isinst [c]) [.var "error"]) x ∧ plainE x = true
inductive MK (sc : Scope) (kd : String) : Expr → Prop where
  | mk {scope : Scope} {k : Nat} {q1 q2 q3 tp gp kp cp lp : Pos} : kd ≠ "_law_place" → isGlb sc (Str.ofString "range") = true → compOk sc scope [Str.ofString "_law_place"] = true → isVar scope (Str.ofString "_law_place") = true → isVar scope (Str.ofString kd) = true →
      MK sc kd (.ListComp (.Compare (.Name (Str.ofString "_law_place") q1) [.Eq] [.Name (Str.ofString kd) q2] q3) [⟨.Name (Str.ofString "_law_place") tp, .Call (.Name (Str.ofString "range") gp) [.Constant (.int 5) k kp] [] cp, [], 0⟩] scope lp)
inductive MB (fs : Tab) (sc : Scope) (kd : String) : List Stmt → Prop where
  | mk {x1 x2 x3 x4 x5 x6 y : Expr} {p1 p2 p3 p4 p5 p6 p7 p8 p9 pa pb pc : Pos} : IsI fs sc "BadGuest" x1 → IsI fs sc "BadMates" x2 → IsI fs sc "BadParties" x3 → IsI fs sc "BadWishes" x4 → IsI fs sc "NoNote" x5 → IsI fs sc "ValueError" x6 → MK sc kd y →
      MB fs sc kd [.Assign [.Name (Str.ofString "_law_some") p1] (.List [x1, x2, x3] p2) p3, .Assign [.Name (Str.ofString "_law_some") p4] (.BinOp (.Name (Str.ofString "_law_some") p5) .Add (.List [x4, x5] p6) p7) p8, .Return (some (.BoolOp .And [x6, .Compare (.Name (Str.ofString "_law_some") p9) [.Eq] [y] pa] pb)) pc]
inductive MR (fs : Tab) (sc : Scope) : List Hd → List ExceptHandler → Prop where
  | last {c : String} {e : E} {x : Expr} {np rp p : Pos} : c ∈ fs.excs → isGlb sc (Str.ofString c) = true → MC e x → MR fs sc [.mk c none [.ret e]] [.ExceptHandler (some (.Name (Str.ofString c) np)) none [.Return (some x) rp] p]
  | next {c : String} {e : E} {x : Expr} {hs : List Hd} {np rp p : Pos} {r : List ExceptHandler} : c ∈ fs.excs → isGlb sc (Str.ofString c) = true → MC e x → MR fs sc hs r → MR fs sc (.nx c [.ret e] :: hs) (.ExceptHandler (some (.Name (Str.ofString c) np)) none [.Return (some x) rp] p :: r)
inductive MH (fs : Tab) (sc : Scope) : List Hd → List ExceptHandler → Prop where
  | ret {c : String} {e : E} {x : Expr} {hs : List Hd} {np rp p : Pos} {r : List ExceptHandler} : c ∈ fs.excs → isGlb sc (Str.ofString c) = true → MC e x → MH fs sc (.mk c none [.ret e] :: hs) (.ExceptHandler (some (.Name (Str.ofString c) np)) none [.Return (some x) rp] p :: r)
  | many {hs : List Hd} {r : List ExceptHandler} : allIn fs = true → MR fs sc hs r → MH fs sc hs r

mutual
inductive MS (fs : Tab) (sc : Scope) : S → Stmt → Prop where
  | assign {x : String} {e : E} {v : Expr} {p pos : Pos} : isLoc sc (Str.ofString x) = true → isComp v = false → ME fs sc e v → MS fs sc (.assign x e) (.Assign [.Name (Str.ofString x) p] v pos)
  | assignR {scope : Scope} {elt : E} {y x : String} {args conds : List E} {el : Expr} {xs ifs : List Expr} {tp gp cp lp p pos : Pos} : isLoc sc (Str.ofString y) = true → isGlb sc (Str.ofString "range") = true → compOk sc scope [Str.ofString x] = true → ifs.length ≤ 1 →
      MEs fs sc args xs → ME fs scope elt el → MEs fs scope conds ifs → MS fs sc (.assign y (.compR elt x args conds)) (.Assign [.Name (Str.ofString y) p] (.ListComp el [⟨.Name (Str.ofString x) tp, .Call (.Name (Str.ofString "range") gp) xs [] cp, ifs, 0⟩] scope lp) pos)
  | assignS {scope : Scope} {elt src : E} {y x : String} {conds : List E} {el it : Expr} {ifs : List Expr} {tp lp p pos : Pos} : isLoc sc (Str.ofString y) = true → compOk sc scope [Str.ofString x] = true → ifs.length ≤ 1 →
      ME fs sc src it → ME fs scope elt el → MEs fs scope conds ifs → MS fs sc (.assign y (.compS elt (.one x) src conds)) (.Assign [.Name (Str.ofString y) p] (.ListComp el [⟨.Name (Str.ofString x) tp, it, ifs, 0⟩] scope lp) pos)
  | setItem {o i e : E} {o' i' v : Expr} {p pos : Pos} : ME fs sc e v → ME fs sc o o' → ME fs sc i i' → MS fs sc (.setItem o i e) (.Assign [.Subscript o' i' p] v pos)
  | setAttr {o e : E} {n : String} {o' v : Expr} {p pos : Pos} : n ∈ attrNames → ME fs sc e v → ME fs sc o o' → MS fs sc (.setAttr o n e) (.Assign [.Attribute o' (Str.ofString n) p] v pos)
  | expr {e : E} {v : Expr} {p : Pos} : isComp v = false → ME fs sc e v → MS fs sc (.expr e) (.Expr v p)
  | ret {e : E} {v : Expr} {p : Pos} : ME fs sc e v → MS fs sc (.ret e) (.Return (some v) p)
  | retN {p : Pos} : MS fs sc .retN (.Return none p)
  | ite {c : E} {a b : List S} {t : Expr} {x y : List Stmt} {p : Pos} : ME fs sc c t → MSs fs sc a x → MSs fs sc b y → MS fs sc (.ite c a b) (.If t x y p)
  | forR {x : String} {args : List E} {body : List S} {xs : List Expr} {bd : List Stmt} {tp gp cp p : Pos} : isLoc sc (Str.ofString x) = true → isGlb sc (Str.ofString "range") = true → MEs fs sc args xs → MSs fs sc body bd →
      MS fs sc (.forR x args body) (.For (.Name (Str.ofString x) tp) (.Call (.Name (Str.ofString "range") gp) xs [] cp) bd [] p)
  | forS {x : String} {src : E} {body : List S} {it : Expr} {bd : List Stmt} {tp p : Pos} : isLoc sc (Str.ofString x) = true → ME fs sc src it → MSs fs sc body bd → MS fs sc (.forS x src body) (.For (.Name (Str.ofString x) tp) it bd [] p)
  | while_ {c : E} {body : List S} {t : Expr} {bd : List Stmt} {p : Pos} : ME fs sc c t → MSs fs sc body bd → MS fs sc (.while_ c body) (.While t bd [] p)
  | stuck {x : Stmt} : MS fs sc .stuck x
  | raise {c m : String} {k : Nat} {np kp cp p : Pos} : c ∈ fs.excs → isGlb sc (Str.ofString c) = true → MS fs sc (.raise c m) (.Raise (some (.Call (.Name (Str.ofString c) np) [.Constant (.str (Str.ofString m)) k kp] [] cp)) none p)
  | try_ {body : List S} {hs : List Hd} {b : List Stmt} {h : ExceptHandler} {r : List ExceptHandler} {p : Pos} : MSs fs sc body b → MH fs sc hs (h :: r) → MS fs sc (.try_ body hs) (.Try b (h :: r) [] [] p)
  | based {f kd : String} {args : List String} {xs : List Expr} {suite : List Stmt} {np cp ep bp hp p : Pos} : f ∈ fs.fns → isGlb sc (Str.ofString f) = true → MEs fs sc (args.map .var) xs → allIn fs = true → isGlb sc (Str.ofString "BedError") = true → (isLcl sc (Str.ofString "error") = true ∧ isLcl sc (Str.ofString "_law_some") = true) → (kd ≠ "error" ∧ kd ≠ "_law_some" ∧ isVar sc (Str.ofString kd) = true) → MB fs sc kd suite →
      MS fs sc (.based f args kd) (.Try [.Expr (.Call (.Name (Str.ofString f) np) xs [] cp) ep] [.ExceptHandler (some (.Name (Str.ofString "BedError") bp)) (some (Str.ofString "error")) suite hp] [] [] p)
inductive MSs (fs : Tab) (sc : Scope) : List S → List Stmt → Prop where
  | nil : MSs fs sc [] []
  | cons {e : S} {es : List S} {x : Stmt} {xs : List Stmt} : MS fs sc e x → MSs fs sc es xs → MSs fs sc (e :: es) (x :: xs)
end

noncomputable def chkC : (e : E) → (x : Expr) → Ok (MC e x)
  | .none, .Constant .none _ _ => some ⟨.none⟩
  | .bool b, .Constant (.bool c) _ _ => oif (b = c) fun h => some ⟨by subst h; exact .bool⟩
  | .int b, .Constant (.int c) _ _ => oif (b = c) fun h => some ⟨by subst h; exact .int⟩
  | _, _ => none
noncomputable def chkX (fs : Tab) (sc : Scope) (n : String) (e : E) (x : Expr) : Ok (MX fs sc n e x) := match e, x with
  | .op (.isinst [c]) [.var m], .Call (.Name i1 _) [.Name i2 _, .Name i3 _] [] _ => oif ((m = n ∧ i1 = Str.ofString "isinstance" ∧ i2 = Str.ofString n ∧ i3 = Str.ofString c) ∧ isGlb sc (Str.ofString "isinstance") = true ∧ isGlb sc (Str.ofString c) = true) fun h =>
      if hc : c ∈ fs.excs then some ⟨by obtain ⟨⟨rfl, rfl, rfl, rfl⟩, a, b⟩ := h; exact .one a hc b⟩ else oif (c = "ValueError") fun hv => some ⟨by obtain ⟨⟨rfl, rfl, rfl, rfl⟩, a, b⟩ := h; subst hv; exact .val a b⟩
  | e, x => o1 (chkC e x) .const
noncomputable def chkI (fs : Tab) (sc : Scope) (c : String) (x : Expr) : Ok (IsI fs sc c x) := oif (plainE x = true) fun h => o1 (chkX fs sc "error" (.op (.isinst [c]) [.var "error"]) x) fun h1 => ⟨h1, h⟩
noncomputable def chkK (sc : Scope) (kd : String) : (y : Expr) → Ok (MK sc kd y)
  | .ListComp (.Compare (.Name n1 _) [.Eq] [.Name n2 _] _) [⟨.Name n3 _, .Call (.Name n4 _) [.Constant (.int i) _ _] [] _, [], 0⟩] scope _ => oif ((n1 = Str.ofString "_law_place" ∧ n2 = Str.ofString kd ∧ n3 = Str.ofString "_law_place" ∧ n4 = Str.ofString "range" ∧ i = 5) ∧ kd ≠ "_law_place" ∧ isGlb sc (Str.ofString "range") = true ∧ compOk sc scope [Str.ofString "_law_place"] = true ∧ isVar scope (Str.ofString "_law_place") = true ∧ isVar scope (Str.ofString kd) = true) fun h =>
      some ⟨by obtain ⟨⟨rfl, rfl, rfl, rfl, rfl⟩, e, a, b, c, d⟩ := h; exact .mk e a b c d⟩
  | _ => none
noncomputable def chkB (fs : Tab) (sc : Scope) (kd : String) : (xs : List Stmt) → Ok (MB fs sc kd xs)
  | [.Assign [.Name n1 _] (.List [x1, x2, x3] _) _, .Assign [.Name n2 _] (.BinOp (.Name n3 _) .Add (.List [x4, x5] _) _) _, .Return (some (.BoolOp .And [x6, .Compare (.Name n4 _) [.Eq] [y] _] _)) _] => oif (n1 = Str.ofString "_law_some" ∧ n2 = Str.ofString "_law_some" ∧ n3 = Str.ofString "_law_some" ∧ n4 = Str.ofString "_law_some") fun h =>
      (o3 (chkI fs sc "BadGuest" x1) (chkI fs sc "BadMates" x2) (chkI fs sc "BadParties" x3) fun h1 h2 h3 => And.intro h1 (And.intro h2 h3)).bind fun q => (o3 (chkI fs sc "BadWishes" x4) (chkI fs sc "NoNote" x5) (chkI fs sc "ValueError" x6) fun h4 h5 h6 => And.intro h4 (And.intro h5 h6)).bind fun q' => o1 (chkK sc kd y) fun h7 => by obtain ⟨rfl, rfl, rfl, rfl⟩ := h; exact .mk q.down.1 q.down.2.1 q.down.2.2 q'.down.1 q'.down.2.1 q'.down.2.2 h7
  | _ => none
noncomputable def chkR (fs : Tab) (sc : Scope) : (hs : List Hd) → (xs : List ExceptHandler) → Ok (MR fs sc hs xs)
  | [.mk c none [.ret e]], [.ExceptHandler (some (.Name id _)) none [.Return (some x) _] _] => oif (id = Str.ofString c ∧ c ∈ fs.excs ∧ isGlb sc (Str.ofString c) = true) fun h => o1 (chkC e x) fun h1 => by obtain ⟨rfl, a, b⟩ := h; exact .last a b h1
  | .nx c [.ret e] :: hs, .ExceptHandler (some (.Name id _)) none [.Return (some x) _] _ :: r => oif (id = Str.ofString c ∧ c ∈ fs.excs ∧ isGlb sc (Str.ofString c) = true) fun h => o2 (chkC e x) (chkR fs sc hs r) fun h1 h2 => by obtain ⟨rfl, a, b⟩ := h; exact .next a b h1 h2
  | _, _ => none
noncomputable def chkH (fs : Tab) (sc : Scope) : (hs : List Hd) → (xs : List ExceptHandler) → Ok (MH fs sc hs xs)
  | .mk c none [.ret e] :: _, .ExceptHandler (some (.Name id _)) none [.Return (some x) _] _ :: _ => oif (id = Str.ofString c ∧ c ∈ fs.excs ∧ isGlb sc (Str.ofString c) = true) fun h => o1 (chkC e x) fun h1 => by obtain ⟨rfl, a, b⟩ := h; exact .ret a b h1
  | .nx c b :: hs, r => oif (allIn fs = true) fun h => o1 (chkR fs sc (.nx c b :: hs) r) (.many h)
  | _, _ => none

noncomputable def chkA (fs : Tab) (sc : Scope) (y : String) (e : E) (v : Expr) (p pos : Pos) : Ok (MS fs sc (.assign y e) (.Assign [.Name (Str.ofString y) p] v pos)) := match isComp v with
  | false => oif (isLoc sc (Str.ofString y) = true ∧ isComp v = false) fun h => o1 (chkE fs sc e v) fun h1 => .assign h.1 h.2 h1
  | true => match e, v with
    | .compR elt x args conds, .ListComp el [⟨.Name t _, .Call (.Name g _) xs [] _, ifs, 0⟩] scope _ => oif ((t = Str.ofString x ∧ g = Str.ofString "range") ∧ isLoc sc (Str.ofString y) = true ∧ isGlb sc (Str.ofString "range") = true ∧ compOk sc scope [Str.ofString x] = true ∧ ifs.length ≤ 1) fun h =>
        o3 (chkEs fs sc args xs) (chkE fs scope elt el) (chkEs fs scope conds ifs) fun h1 h2 h3 => by obtain ⟨⟨rfl, rfl⟩, a, b, c, d⟩ := h; exact .assignR a b c d h1 h2 h3
    | .compS elt (.one x) src conds, .ListComp el [⟨.Name t _, it, ifs, 0⟩] scope _ => oif (t = Str.ofString x ∧ isLoc sc (Str.ofString y) = true ∧ compOk sc scope [Str.ofString x] = true ∧ ifs.length ≤ 1) fun h =>
        o3 (chkE fs sc src it) (chkE fs scope elt el) (chkEs fs scope conds ifs) fun h1 h2 h3 => by obtain ⟨rfl, a, b, c⟩ := h; exact .assignS a b c h1 h2 h3
    | _, _ => none

mutual
noncomputable def chkS (fs : Tab) (sc : Scope) : (e : S) → (x : Stmt) → Ok (MS fs sc e x)
  | .assign x e, .Assign [.Name id p] v pos => oif (id = Str.ofString x) fun q => (chkA fs sc x e v p pos).map fun h => ⟨by subst q; exact h.down⟩
  | .setItem o i e, .Assign [.Subscript o' i' _] v _ => o3 (chkE fs sc e v) (chkE fs sc o o') (chkE fs sc i i') .setItem
  | .setAttr o n e, .Assign [.Attribute o' y _] v _ => oif (y = Str.ofString n ∧ n ∈ attrNames) fun h => o2 (chkE fs sc e v) (chkE fs sc o o') fun h1 h2 => by obtain ⟨rfl, h⟩ := h; exact .setAttr h h1 h2
  | .expr e, .Expr v _ => oif (isComp v = false) fun h => o1 (chkE fs sc e v) (.expr h)
  | .ret e, .Return (some v) _ => o1 (chkE fs sc e v) .ret
  | .retN, .Return none _ => some ⟨.retN⟩
  | .ite c a b, .If t x y _ => o3 (chkE fs sc c t) (chkSs fs sc a x) (chkSs fs sc b y) .ite
  | .forR x args body, .For (.Name id _) (.Call (.Name g _) xs [] _) bd [] _ => oif ((id = Str.ofString x ∧ g = Str.ofString "range") ∧ isLoc sc (Str.ofString x) = true ∧ isGlb sc (Str.ofString "range") = true) fun h =>
      o2 (chkEs fs sc args xs) (chkSs fs sc body bd) fun h1 h2 => by obtain ⟨⟨rfl, rfl⟩, a, b⟩ := h; exact .forR a b h1 h2
  | .forS x src body, .For (.Name id _) it bd [] _ => oif (id = Str.ofString x ∧ isLoc sc (Str.ofString x) = true) fun h => o2 (chkE fs sc src it) (chkSs fs sc body bd) fun h1 h2 => by obtain ⟨rfl, a⟩ := h; exact .forS a h1 h2
  | .while_ c body, .While t bd [] _ => o2 (chkE fs sc c t) (chkSs fs sc body bd) .while_
  | .stuck, _ => some ⟨.stuck⟩
  | .raise c m, .Raise (some (.Call (.Name id _) [.Constant (.str y) _ _] [] _)) none _ => oif ((id = Str.ofString c ∧ y = Str.ofString m) ∧ c ∈ fs.excs ∧ isGlb sc (Str.ofString c) = true) fun h => some ⟨by obtain ⟨⟨rfl, rfl⟩, a, b⟩ := h; exact .raise a b⟩
  | .try_ body hs, .Try b (h :: r) [] [] _ => o2 (chkSs fs sc body b) (chkH fs sc hs (h :: r)) .try_
  | .based f args kd, .Try [.Expr (.Call (.Name id _) xs [] _) _] [.ExceptHandler (some (.Name be _)) (some er) suite _] [] [] _ => oif ((id = Str.ofString f ∧ be = Str.ofString "BedError" ∧ er = Str.ofString "error") ∧ f ∈ fs.fns ∧ isGlb sc (Str.ofString f) = true ∧ allIn fs = true ∧ isGlb sc (Str.ofString "BedError") = true ∧ (isLcl sc (Str.ofString "error") = true ∧ isLcl sc (Str.ofString "_law_some") = true) ∧ kd ≠ "error" ∧ kd ≠ "_law_some" ∧ isVar sc (Str.ofString kd) = true) fun h =>
      o2 (chkEs fs sc (args.map .var) xs) (chkB fs sc kd suite) fun h1 h2 => by obtain ⟨⟨rfl, rfl, rfl⟩, a, b, c, d, e, g⟩ := h; exact .based a b h1 c d e g h2
  | _, _ => none
noncomputable def chkSs (fs : Tab) (sc : Scope) : (es : List S) → (xs : List Stmt) → Ok (MSs fs sc es xs)
  | [], [] => some ⟨.nil⟩
  | e :: es, x :: xs => o2 (chkS fs sc e x) (chkSs fs sc es xs) .cons
  | _, _ => none
end

noncomputable def FlowR (β : List Addr) : Option V → Flow → Prop
  | none, f => f = .next
  | some v, f => ∃ u, f = .ret u ∧ VR β v u

inductive PS (h₀ : Heap) (env : PySem.Env) (β : List Addr) (s : Shared) (k : SPost) (f : Flow) (s' : Shared) : Prop
  | mk (r : Option V) (β' : List Addr) (ρ' : Env) (H' : Hp) : k r ρ' H' → FlowR β' r f → StepF env β s β' s' → SR h₀ β' H' s'.heap → (r = none → ER env ρ' β' s'.heap) → PS h₀ env β s k f s'

section
variable {prog : Program} {w : World} {h₀ : Heap} {P : Prog} {fs : Tab} {mg mb : Str → Option Value} {n : Nat} {C : Ctx}

theorem PS.after {env : PySem.Env} {β β' : List Addr} {s s' s'' : Shared} {k : SPost} {f : Flow} (t : StepF env β s β' s') (h : PS h₀ env β' s' k f s'') : PS h₀ env β s k f s'' :=
  let ⟨r, b, ρ, H, a, c, d, e, g⟩ := h; ⟨r, b, ρ, H, a, c, t.trans d, e, g⟩

noncomputable def OwnNew (h₀ : Heap) (env : PySem.Env) : Prop := ∀ b, Own env b → h₀.get? b = Option.none

theorem er_local {env : PySem.Env} {ρ : Env} {β : List Addr} {h h' : Heap} {x : String} {v : V} {u : Value} {m : Str → Option Value} (er : ER env ρ β h) (hm : h.Ns env.locals m ∧ ∀ x v, ρ x = some v → env.kindOf (Str.ofString x) = some .local → Str.ofString x ≠ (".0" : Str) → ∃ u, m (Str.ofString x) = some u ∧ VR β v u)
    (hk : env.kindOf (Str.ofString x) = some .local) (hv : VR β v u) (hn : h'.Ns env.locals (fun y => if y = Str.ofString x then some u else m y)) (hs : Heap.SameBut env.locals h h') : ER env (ρ.set x v) β h' := by
  refine ⟨er.kind, er.glob, er.bltn, ⟨_, hn, fun y v' hy hky hd => ?_⟩, fun y c hc => ?_, fun y v' hy hky => ?_, er.has, er.apart, er.locs, er.cells⟩
  · by_cases e : y = x
    · subst e
      have : v' = v := by simpa [Env.set] using hy.symm
      subst this; exact ⟨u, by simp, hv⟩
    · have hy' : ρ y = some v' := by simpa [Env.set, beq_eq_false_iff_ne.mpr e] using hy
      obtain ⟨u', hu', hr⟩ := hm.2 y v' hy' hky hd
      exact ⟨u', by rw [if_neg (ofString_ne e)]; exact hu', hr⟩
  · obtain ⟨u', hu'⟩ := er.cell y c hc
    exact ⟨u', hu'.sameBut hs (er.cells y c hc).2⟩
  · by_cases e : y = x
    · subst e; rw [hk] at hky; simp at hky
    · have hy' : ρ y = some v' := by simpa [Env.set, beq_eq_false_iff_ne.mpr e] using hy
      obtain ⟨c, u', hc, hic, hr⟩ := er.held y v' hy' hky
      exact ⟨c, u', hc, hic.sameBut hs (er.cells _ c hc).2, hr⟩

theorem er_cell {env : PySem.Env} {ρ : Env} {β : List Addr} {h h' : Heap} {x : String} {v : V} {u : Value} {c : Addr} (er : ER env ρ β h) (hk : env.kindOf (Str.ofString x) = some .cell) (hc : env.cells.lookup (Str.ofString x) = some c) (hv : VR β v u)
    (hn : h'.IsCell c (some u)) (hs : Heap.SameBut c h h') : ER env (ρ.set x v) β h' := by
  obtain ⟨m, hm, hm2⟩ := er.ns
  refine ⟨er.kind, er.glob, er.bltn, ⟨m, hm.sameBut hs (Ne.symm (er.cells _ c hc).2), fun y v' hy hky hd => ?_⟩, fun y c' hc' => ?_, fun y v' hy hky => ?_, er.has, er.apart, er.locs, er.cells⟩
  · have e : y ≠ x := by rintro rfl; (first | exact clash hk hky | exact clash hky hk | (rw [hk] at hky; cases hky))
    have hy' : ρ y = some v' := by simpa [Env.set, beq_eq_false_iff_ne.mpr e] using hy
    exact hm2 y v' hy' hky hd
  · by_cases e : c' = c
    · subst e; exact ⟨_, hn⟩
    · obtain ⟨u', hu'⟩ := er.cell y c' hc'; exact ⟨u', hu'.sameBut hs e⟩
  · by_cases e : y = x
    · subst e
      have : v' = v := by simpa [Env.set] using hy.symm
      subst this; exact ⟨c, u, hc, hn, hv⟩
    · have hy' : ρ y = some v' := by simpa [Env.set, beq_eq_false_iff_ne.mpr e] using hy
      obtain ⟨c', u', hc', hic, hr⟩ := er.held y v' hy' hky
      have : c' ≠ c := by rintro rfl; exact e (ofString_inj (er.apart _ _ _ hc' hc))
      exact ⟨c', u', hc', hic.sameBut hs this, hr⟩

theorem store_sound {Am : Around → Prop} {sc : Scope} {env : PySem.Env} {ρ : Env} {β : List Addr} {H : Hp} {s : Shared} {A : Around} {x : String} {v : V} {u : Value} {Q : Unit → Shared → Prop} {E : Value → Shared → Prop} {X : XP} {E' : Value → Shared → Prop} (a : At P fs mg mb h₀ Am sc env ρ β H s A X E') (hl : isLoc sc (Str.ofString x) = true) (sceq : env.scope = sc)
    (hon : OwnNew h₀ env) (hv : VR β v u) (h : ∀ s', StepF env β s β s' → SR h₀ β H s'.heap → ER env (ρ.set x v) β s'.heap → Q () s') : wpAny (model prog w) A (storeName env (Str.ofString x) u) Q E s := by
  have hko : ∀ y, env.kindOf y = sc.names.lookup y := fun y => by rw [← sceq]; rfl
  have fin : ∀ (h' : Heap) (tk : Nat) (c : Addr), Own env c → DAt s.heap h' c → Heap.SameBut c s.heap h' → ER env (ρ.set x v) β h' → Q () { s with heap := h', toks := tk } := by
    intro h' tk c hc hex hs er'
    refine h _ ⟨⟨_, _, rfl⟩, List.prefix_refl _, fun b hb hb' => .of fun o e => hs.extBut b o (by rintro rfl; exact hb' hc) e, fun b hb => .inl hb, fun b hb => ?_⟩ (a.sr.other fun b o e q => hs.extBut b o ?_ e) er'
    · by_cases e : b = c
      · subst e; exact hex
      · exact (KAt.of fun o ho => hs.extBut b o e ho).d
    · rintro rfl
      rcases q with q | ⟨o', q⟩
      · exact a.er.disj _ hc q
      · (first | exact clash (hon _ hc) q | exact clash q (hon _ hc) | (rw [hon _ hc] at q; cases q))
  unfold isLoc at hl
  split at hl
  · rename_i e
    rw [← hko] at e
    obtain ⟨m, hn, hm⟩ := a.er.ns
    refine wpAny_storeName_local e hn (fun h' hn' hs => fin h' _ env.locals (.inl rfl) ?_ hs (er_local a.er ⟨hn, hm⟩ e hv hn' hs)) (by rw [a.er.kind]; rfl)
    obtain ⟨o, es, ep, eo, ed, ek, _⟩ := hn'; exact fun _ _ => ⟨o, eo, fun _ => ⟨es, ep, ed⟩, fun _ => ⟨es, ep, ed, ek⟩⟩
  · rename_i e
    rw [← hko] at e
    obtain ⟨c, hc⟩ := a.er.has _ (.inl e)
    obtain ⟨u', hu'⟩ := a.er.cell _ c hc
    refine wpAny_storeName_cell a.er.kind e hc hu' fun h' hn' hs => fin h' s.toks c (.inr ⟨_, hc⟩) ?_ hs (er_cell a.er e hc hv hn' hs)
    obtain ⟨o, eo, _⟩ := hn'
    obtain ⟨o1, eo1, ed1⟩ := hu'
    have no : ∀ o2, s.heap.get? c = some o2 → ∀ es ep, o2.data = .dict es ep → False := fun o2 e2 es ep q => by cases eo1.symm.trans e2; rw [ed1] at q; cases q
    exact fun o2 e2 => ⟨o, eo, fun ⟨es, ep, q⟩ => (no o2 e2 es ep q).elim, fun ⟨es, ep, q, _⟩ => (no o2 e2 es ep q).elim⟩
  · cases hl

end
end Mine

namespace Mine
open PySem
end Mine
namespace Mine
open PySem
open PyProof.Rows.TI (gone gone_get gone_none gone_some)

inductive ExcT (h₀ : Heap) (mg : Str → Option Value) (β : List Addr) (hs : Heap) (c : String) (ea : Addr) (h : Heap) : Prop
  | mk (C : Addr) (ob : Obj) (vs : Array Value) (T : Addr) (oT : Obj) (ts : Array Value) : mg (Str.ofString c) = some (.ref C) → ea ∉ β → h₀.get? ea = Option.none → hs.get? ea = Option.none → h.get? ea = some ob → ob.cls = .ref C → ob.data = .fields vs →
    vs[1]? = some (.ref T) → T ∉ β → h₀.get? T = Option.none → hs.get? T = Option.none → T ≠ ea → h.get? T = some oT → oT.data = .fields ts → ts[3]? = some .none → (vs[2]? = some .none ∨ c ∈ chained) → ExcT h₀ mg β hs c ea h
theorem ExcT.at {h₀ : Heap} {mg : Str → Option Value} {β : List Addr} {hs : Heap} {c : String} {ea : Addr} {h : Heap} (x : ExcT h₀ mg β hs c ea h) : ExcAt h₀ mg β hs c (.ref ea) h := by
  obtain ⟨C, ob, vs, T, oT, ts, a1, a2, a3, a4, a5, a6, a7, a8, a9, a10, a11, a12, a13, a14, a15, a16⟩ := x
  exact ⟨ea, C, ob, vs, rfl, a1, a2, a3, a4, a5, a6, a7, a16, .inr ⟨T, oT, ts, a8, a9, a10, a11, a12, a13, a14, a15⟩⟩

theorem FrOK.fun_ {h₀ h base : Heap} {β : List Addr} : ∀ {l : List PySem.Env}, FrOK h₀ l β h → (∀ env ∈ l, ∀ L, env.frame = some L → base.get? L = Option.none) → h.FunFrames base l
  | [], _, _ => trivial
  | env :: l, x, hb => by
    obtain ⟨a, L, b, _, _, o, es, ep, e, f⟩ := x env (.head _)
    exact ⟨a, ⟨L, o, b, hb env (.head _) L b, e, fun vs q => by (first | exact clash f q | exact clash q f | (rw [f] at q; cases q))⟩, FrOK.fun_ (fun e he => x e (.tail _ he)) fun e he => hb e (.tail _ he)⟩

inductive Noted (fr X : List Addr) (e : Addr) (cls : Value) (vs : Array Value) (h h' : Heap) : Prop
  | mk (ob oT : Obj) (T : Addr) (ts : Array Value) : h'.get? e = some ob → ob.cls = cls → ob.data = .fields (vs.setIfInBounds 1 (.ref T)) → h.get? T = none → T ≠ e → h'.get? T = some oT → oT.data = .fields ts → ts[3]? = some .none →
    (∀ b o, b ∉ X → b ∉ fr → h.get? b = some o → h'.get? b = some o) → (∀ b o, b ∉ X → h.get? b = some o → ∃ sl, h'.get? b = some { o with slots := sl }) → Noted fr X e cls vs h h'

theorem entry_tail {M : Model} {A : Around} {E : Value → Shared → Prop} {s : Shared} {h h₁ : Heap} {e : Addr} {oe tb : Obj} {vs ts : Array Value} {fr X : List Addr} {Q : Unit → Shared → Prop} (he₁ : h₁.get? e = some oe) (hd : oe.data = .fields vs) (hsz : 1 < vs.size) (htb : tb.data = .fields ts) (h3 : 3 < ts.size) (hX : e ∈ X)
    (hnew : h.get? h₁.objs.size = none) (h1 : ∀ b o, b ∉ X → b ∉ fr → h.get? b = some o → h₁.get? b = some o) (h2 : ∀ b o, b ∉ X → h.get? b = some o → ∃ sl, h₁.get? b = some { o with slots := sl })
    (q : ∀ h', Noted fr X e oe.cls vs h h' → Q () { s with heap := h' }) :
    wpAny M A (setField (.ref e) 1 (.ref h₁.objs.size)) (fun _ s' => wpAny M A (setFlight (.ref e) none) Q E s') E { s with heap := h₁.push tb } := by
  have p := Heap.get?_push_of_some tb he₁
  refine wpAny_setField p hd hsz ?_
  have hT : h₁.objs.size ≠ e := Nat.ne_of_gt (Heap.lt_size he₁)
  have d := Obj.data_mapFields hd (·.setIfInBounds 1 (Value.ref h₁.objs.size))
  have g := Heap.get?_update_self (Obj.mapFields (·.setIfInBounds 1 (Value.ref h₁.objs.size))) p (Obj.isFreed_of_fields d)
  have gT := (Heap.get?_update_other (h₁.push tb) (Obj.mapFields (·.setIfInBounds 1 (Value.ref h₁.objs.size))) (Ne.symm hT)).trans (Heap.get?_push_size h₁ (Obj.isFreed_of_fields htb))
  unfold setFlight
  refine wpAny_bind (wpAny_field g d (x := .ref h₁.objs.size) (by simp [hsz]) ?_)
  rw [if_pos (by simp)]
  have dT := Obj.data_mapFields htb (·.setIfInBounds 3 ((none : Option Addr).elim Value.none fun f => rawInt f))
  have keep : ∀ b o, b ∉ X → h₁.get? b = some o → (((h₁.push tb).update e (Obj.mapFields (·.setIfInBounds 1 (Value.ref h₁.objs.size)))).update h₁.objs.size (Obj.mapFields (·.setIfInBounds 3 ((none : Option Addr).elim Value.none fun f => rawInt f)))).get? b = some o := fun b o hb x => by
    have ne : e ≠ b := fun z => hb (z ▸ hX)
    rw [Heap.get?_update_other _ _ (Nat.ne_of_gt (Heap.lt_size x)), Heap.get?_update_other _ _ ne]
    exact Heap.get?_push_of_some _ x
  refine wpAny_setField gT htb h3 (q _ ⟨_, _, h₁.objs.size, _, (Heap.get?_update_other _ _ hT).trans g, Obj.cls_mapFields _ _, d, hnew, hT, Heap.get?_update_self _ gT (Obj.isFreed_of_fields dT), dT, by simp [h3], fun b o hb hf x => keep b o hb (h1 b o hb hf x), fun b o hb x => ?_⟩)
  obtain ⟨sl, y⟩ := h2 b o hb x
  exact ⟨sl, keep b _ hb y⟩

theorem entry_made {M : Model} {A : Around} {E : Value → Shared → Prop} {s : Shared} {h base : Heap} {env : PySem.Env} {outer : List PySem.Env} {L e : Addr} {oe : Obj} {vs : Array Value} {head : Value} {hadNext : Bool} {X : List Addr} {Q : Unit → Shared → Prop}
    (hfr : A.frames = some (env :: outer)) (hl : s.heap.FunFrames base (env :: outer)) (hf : env.frame = some L) (he : s.heap.get? e = some oe) (hd : oe.data = .fields vs) (hsz : 1 < vs.size) (hX : e ∈ X)
    (hb : ∀ b, b ∉ X → s.heap.get? b = h.get? b) (hsize : s.heap.objs.size = h.objs.size) (q : ∀ h', Noted ((env :: outer).filterMap (·.frame)) X e oe.cls vs h h' → Q () { s with heap := h' }) :
    wpAny M A (do let a ← frameOf env; let pl ← entryPlaceOf L hadNext; let b ← EntryCells.newEntry head a .none (rawInt L) .none pl; setField (.ref e) 1 b)
      (fun _ s' => wpAny M A (setFlight (.ref e) none) Q E s') E s := by
  have hne : e ∉ (env :: outer).filterMap (·.frame) := fun hm => by
    obtain ⟨_, o, ho, hn⟩ := hl.mem hm
    cases he.symm.trans ho; exact hn vs hd
  refine wpAny_bind (wpAny_frameOf_fun hfr hl hf fun h₁ hs => wpAny_bind (wpAny_entryPlaceOf fun pl hpl => ?_))
  unfold EntryCells.newEntry newFields
  refine wpAny_bind (wpAny_newObj_type ?_ (hpl.sizeOk5 _ _ _ _ _))
  exact entry_tail (s := s) (h := h) ((hs.2.1 e hne).trans he) hd hsz rfl (by simp only [List.size_toArray, List.length_append, List.length_cons, List.length_nil] <;> omega) hX (get_none_of_le (by have e1 : h₁.objs.size = s.heap.objs.size := hs.1; show h.objs.size ≤ h₁.objs.size; omega))
    (fun b o hx hf' x => (hs.2.1 b hf').trans ((hb b hx).trans x)) (fun b o hx x => hs.2.2 b o ((hb b hx).trans x)) q

theorem note_first {M : Model} {A : Around} {E : Value → Shared → Prop} {s : Shared} {base : Heap} {env : PySem.Env} {outer : List PySem.Env} {L e : Addr} {oe : Obj} {vs : Array Value} {Q : Unit → Shared → Prop}
    (hfr : A.frames = some (env :: outer)) (hl : s.heap.FunFrames base (env :: outer)) (hf : env.frame = some L) (he : s.heap.get? e = some oe) (hd : oe.data = .fields vs) (h1 : vs[1]? = some .none)
    (q : ∀ h', Noted ((env :: outer).filterMap (·.frame)) [e] e oe.cls vs s.heap h' → Q () { s with heap := h' }) : wpAny M A (noteFrame (.ref e) env) (fun _ s' => wpAny M A (setFlight (.ref e) none) Q E s') E s := by
  unfold noteFrame
  simp only [hf]
  refine wpAny_bind (wpAny_field he hd h1 ?_)
  rw [if_neg (by decide)]
  exact entry_made hfr hl hf he hd (Array.getElem?_eq_some_iff.mp h1).1 (.head _) (fun _ _ => rfl) rfl q

theorem note_next {M : Model} {A : Around} {E : Value → Shared → Prop} {s : Shared} {base : Heap} {env : PySem.Env} {outer : List PySem.Env} {L e T : Addr} {oe oT : Obj} {vs ts : Array Value} {Q : Unit → Shared → Prop}
    (hfr : A.frames = some (env :: outer)) (hl : s.heap.FunFrames base (env :: outer)) (hf : env.frame = some L) (he : s.heap.get? e = some oe) (hd : oe.data = .fields vs) (h1 : vs[1]? = some (.ref T)) (hTe : T ≠ e) (hT : s.heap.get? T = some oT) (hdT : oT.data = .fields ts) (h3 : ts[3]? = some .none)
    (q : ∀ h', Noted ((env :: outer).filterMap (·.frame)) [e, T] e oe.cls vs s.heap h' → Q () { s with heap := h' }) : wpAny M A (noteFrame (.ref e) env) (fun _ s' => wpAny M A (setFlight (.ref e) none) Q E s') E s := by
  have upd : ∀ b, b ≠ T → (s.heap.update T (Obj.mapFields (·.setIfInBounds 3 Value.none))).get? b = s.heap.get? b := fun b hb => Heap.get?_update_other _ _ (Ne.symm hb)
  unfold noteFrame
  simp only [hf]
  refine wpAny_bind (wpAny_field he hd h1 ?_)
  rw [if_pos (by simp)]
  refine wpAny_bind (wpAny_field hT hdT h3 ?_)
  rw [if_neg (by simp [rawInt])]
  refine wpAny_bind (wpAny_setField hT hdT (Array.getElem?_eq_some_iff.mp h3).1 ?_)
  refine entry_made hfr (hl.of_keeps fun b o x hn => ⟨o, (upd b ?_).trans x, rfl⟩) hf ((upd e (Ne.symm hTe)).trans he) hd (Array.getElem?_eq_some_iff.mp h1).1 (.head _) (fun b hb => upd b fun z => hb (z ▸ .tail _ (.head _))) (Heap.size_update ..) q
  rintro rfl
  cases hT.symm.trans x; exact hn ts hdT
theorem note_exc {M : Model} {A : Around} {E : Value → Shared → Prop} {env : PySem.Env} {outer : List PySem.Env} {h₀ hs : Heap} {mg : Str → Option Value} {β : List Addr} {H : Hp} {s : Shared} {c : String} {e : Value} {Q : Unit → Shared → Prop}
    (hfr : A.frames = some (env :: outer)) (fr : FrOK h₀ (env :: outer) β s.heap) (sr : SR h₀ β H s.heap) (hlive : ∀ b, (∃ o, hs.get? b = some o) → ∃ o, s.heap.get? b = some o) (ex : ExcAt h₀ mg β hs c e s.heap)
    (h : ∀ ea h', e = .ref ea → (∀ b, (∃ o, hs.get? b = some o) → KAt s.heap h' b) → SR h₀ β H h' → ExcT h₀ mg β hs c ea h' → Q () { s with heap := h' }) : wpAny M A (noteFrame e env) (fun _ s' => wpAny M A (setFlight e none) Q E s') E s := by
  obtain ⟨ea, C, ob, vs, rfl, hmg, e1, e2, e3, e4, e5, e6, e8, e7⟩ := ex
  obtain ⟨_, L, hL, _⟩ := fr env (.head _)
  have frB : ∀ b ∈ (env :: outer).filterMap (·.frame), b ∉ β ∧ h₀.get? b = Option.none ∧ ∃ o es ep, s.heap.get? b = some o ∧ o.data = .dict es ep := fun b hb => by
    obtain ⟨env', he, hf⟩ := List.mem_filterMap.mp hb
    obtain ⟨_, L', hL', a, b', o, es, ep, q, f⟩ := fr env' he
    cases hf.symm.trans hL'
    exact ⟨a, b', o, es, ep, q, f⟩
  have key : ∀ (X : List Addr), 1 < vs.size → (∀ b ∈ X, b ∉ β ∧ h₀.get? b = Option.none ∧ hs.get? b = Option.none) → ∀ h', Noted ((env :: outer).filterMap (·.frame)) X ea (.ref C) vs s.heap h' → Q () { s with heap := h' } := by
    intro X hsz hX h' ⟨ob', oT, T, ts, n1, n2, n3, n4, n5, n6, n7, n8, n9, n10⟩
    refine h ea h' rfl (fun b hb o q => ?_) (sr.other fun b o q hq => n9 b o (fun hm => ?_) (fun hm => ?_) q) ⟨C, ob', _, T, oT, ts, hmg, e1, e2, e3, n1, n2, n3, by simp [hsz], fun hm => ?_, ?_, ?_, n5, n6, n7, n8, ?_⟩
    · have hbX : b ∉ X := fun hm => hb.elim fun o' q' => clash q' (hX b hm).2.2
      by_cases hm : b ∈ (env :: outer).filterMap (·.frame)
      · obtain ⟨_, _, o', es, ep, q', f⟩ := frB b hm
        cases q.symm.trans q'
        obtain ⟨sl, y⟩ := n10 b o hbX q
        exact ⟨_, y, .inr ⟨⟨es, ep, f⟩, sl, rfl⟩⟩
      · exact ⟨o, n9 b o hbX hm q, KS.refl o⟩
    · exact hq.elim (hX b hm).1 fun ⟨o', z⟩ => clash z (hX b hm).2.1
    · exact hq.elim (frB b hm).1 fun ⟨o', z⟩ => clash z (frB b hm).2.1
    · exact (sr.mem hm).elim fun o q => clash q n4
    · cases q : h₀.get? T with
      | none => rfl
      | some o => exact clash (sr.kept _ _ q) n4
    · cases q : hs.get? T with
      | none => rfl
      | some o => exact (hlive T ⟨o, q⟩).elim fun o' q' => clash q' n4
    · rw [Array.getElem?_setIfInBounds_ne (by decide)]; exact e8
  have fun_ := fr.fun_ (base := gone s.heap ((env :: outer).filterMap (·.frame))) fun env' he L hL => gone_none (List.mem_filterMap.mpr ⟨env', he, hL⟩)
  rcases e7 with e7 | ⟨T, oT, ts, t1, t2, t3, t4, t5, t6, t7, t8⟩
  · refine note_first hfr fun_ hL e4 e6 e7 fun h' n => key [ea] (Array.getElem?_eq_some_iff.mp e7).1 (fun b hb => ?_) h' (e5 ▸ n)
    cases List.mem_singleton.mp hb; exact ⟨e1, e2, e3⟩
  · refine note_next hfr fun_ hL e4 e6 t1 t5 t6 t7 t8 fun h' n => key [ea, T] (Array.getElem?_eq_some_iff.mp t1).1 (fun b hb => ?_) h' (e5 ▸ n)
    rcases List.mem_cons.mp hb with rfl | hb
    · exact ⟨e1, e2, e3⟩
    · cases List.mem_singleton.mp hb; exact ⟨t2, t3, t4⟩

theorem leave_exc {M : Model} {A : Around} {E : Value → Shared → Prop} {env : PySem.Env} {outer : List PySem.Env} {h₀ hs : Heap} {mg : Str → Option Value} {β : List Addr} {H : Hp} {s : Shared} {c : String} {e : Value} {Q : Unit → Shared → Prop}
    (hfr : A.frames = some (env :: outer)) (fr : FrOK h₀ (env :: outer) β s.heap) (sr : SR h₀ β H s.heap) (hlive : ∀ b, (∃ o, hs.get? b = some o) → ∃ o, s.heap.get? b = some o) (ex : ExcAt h₀ mg β hs c e s.heap)
    (h : ∀ ea h', e = .ref ea → (∀ b, (∃ o, hs.get? b = some o) → KAt s.heap h' b) → SR h₀ β H h' → ExcT h₀ mg β hs c ea h' → Q () { s with heap := h' }) : wpAny M A (leaving env e) Q E s :=
  wpAny_bind (note_exc hfr fr sr hlive ex h)

inductive Landed (mg : Str → Option Value) (c : String) (ea : Addr) (h : Heap) : Prop
  | mk (ox : Obj) (ws : Array Value) (C : Addr) : h.get? ea = some ox → ox.data = .fields ws → (ws[2]? = some .none ∨ c ∈ chained) → mg (Str.ofString c) = some (.ref C) → ox.cls = .ref C → Landed mg c ea h
theorem land_exc {M : Model} {A : Around} {E : Value → Shared → Prop} {h₀ hs : Heap} {mg : Str → Option Value} {β : List Addr} {H : Hp} {s : Shared} {c : String} {ea : Addr} {Q : Unit → Shared → Prop} (sr : SR h₀ β H s.heap) (ex : ExcT h₀ mg β hs c ea s.heap)
    (h : ∀ h', (∀ b, (∃ o, hs.get? b = some o) → KAt s.heap h' b) → SR h₀ β H h' → Landed mg c ea h' → Q () { s with heap := h' }) : wpAny M A (setFlight (.ref ea) none) Q E s := by
  obtain ⟨C, ob, vs, T, oT, ts, a1, a2, a3, a4, a5, a6, a7, a8, a9, a10, a11, a12, a13, a14, a15, a16⟩ := ex
  refine wpAny_setFlight_none a5 a7 a8 a13 a14 (Array.getElem?_eq_some_iff.mp a15).1 (h _ (fun b hb => .of fun o q => ?_) (sr.other fun b o q hq => ?_) ⟨ob, vs, C, (Heap.get?_update_other _ _ a12).trans a5, a7, a16, a1, a6⟩)
  · have : T ≠ b := by rintro rfl; obtain ⟨o', q'⟩ := hb; (first | exact clash a11 q' | exact clash q' a11 | (rw [a11] at q'; cases q'))
    rw [Heap.get?_update_other _ _ this]; exact q
  · have : T ≠ b := by
      rintro rfl
      rcases hq with z | ⟨o', z⟩
      · exact a9 z
      · (first | exact clash a10 z | exact clash z a10 | (rw [a10] at z; cases z))
    rw [Heap.get?_update_other _ _ this]; exact q
section
variable {prog : Program} {w : World} {A : Around} {E : Value → Shared → Prop} {s : Shared} {env : PySem.Env}
theorem entry_unchain : entryFor table "proto.unchain" = some Builtin.«proto.unchain» := entryFor_of_fast (by kernel_rfl)

theorem raiseNew_in {α : Type} {e x : Addr} {oe ox : Obj} {vs ws : Array Value} {Q : α → Shared → Prop} (hh : A.handled = some (.ref x)) (hx : s.heap.get? x = some ox) (hdx : ox.data = .fields ws) (h2 : ws[2]? = some .none)
    (he : s.heap.get? e = some oe) (hde : oe.data = .fields vs) (hsz : 2 < vs.size) (hne : x ≠ e) (h : E (.ref e) { s with heap := s.heap.update e (Obj.mapFields (·.setIfInBounds 2 (.ref x))) }) :
    wpAny (model prog w) A (raiseNew (.ref e) : Sem α) Q E s := by
  unfold raiseNew
  refine wpAny_bind (wpAny_handled ?_)
  rw [hh]
  dsimp only
  rw [if_pos (by simpa using hne)]
  refine wpAny_bind (wpAny_holding (wpAny_runValue (codeAny_builtin entry_unchain ?_)))
  unfold Builtin.«proto.unchain»
  dsimp only
  refine wpAny_bind (wpAny_field hx hdx h2 ?_)
  rw [if_pos (by simp)]
  refine wpAny_pure ?_
  show wpAny _ _ (setField (.ref e) 2 (.ref x) >>= fun _ => throw (.ref e)) _ _ _
  exact wpAny_bind (wpAny_setField he hde hsz (wpAny_throw h))

end
end Mine

namespace Mine
open PySem

section
variable {prog : Program} {w : World} {h₀ : Heap} {P : Prog} {fs : Tab} {mg mb : Str → Option Value} {n : Nat} {C : Ctx}

theorem swaps_false {v : Expr} {t : Option Expr} {line : Nat} {env : PySem.Env} (h : isComp v = false) : swapsWith v t line env = pure false := by
  cases v <;> first | rfl | cases h

theorem swaps_sub {v o i : Expr} {p : Pos} {line : Nat} {env : PySem.Env} : swapsWith v (some (.Subscript o i p)) line env = pure false := by
  cases v <;> rfl

theorem comp_use {A : Around} {E' : Value → Shared → Prop} {sc scope : Scope} {env : PySem.Env} {ρ : Env} {β : List Addr} {H : Hp} {s : Shared} {x y : String} {elt : E} {conds : List E} {el iter : Expr} {ifs : List Expr} {px py pos : Pos} {X : XP} {E₂ : Value → Shared → Prop} {Q : Post}
    (a : At P fs mg mb h₀ (Amb n) sc env ρ β H s A X E₂) (sceq : env.scope = sc) (hon : OwnNew h₀ env) (hl : isLoc sc (Str.ofString y) = true) (ok : CompOk sc scope ([x].map Str.ofString)) (hE : SoundE prog w h₀ P fs mg mb (Amb n) C elt el scope) (hT : SoundIfs prog w h₀ P fs mg mb (Amb n) C conds ifs scope)
    (hs : ∀ x, foldedSetIterable iter env x = pure x)
    (hsrc : wpAny (model prog w) A (eval iter env) (fun xv s₁ => wpAny (model prog w) A (pyIter xv) (SrcReady prog w A h₀ β s fun G items H₁ => wLoop G (compStep C elt conds (fun v _ => some (Env.set ρ x v)) noX) items [] H₁ (fun acc H5 => Q (V.ref (List.length H5)) (H5 ++ [O.list acc]))) E' s₁) E' s) :
    wpAny (model prog w) A (evalThenUse (.ListComp el [⟨.Name (Str.ofString x) px, iter, ifs, 0⟩] scope pos) env (assign (.Name (Str.ofString y) py) env)) (fun _ s' => ∃ β' v H', Q v H' ∧ StepF env β s β' s' ∧ SR h₀ β' H' s'.heap ∧ ER env (ρ.set y v) β' s'.heap) E' s := by
  show wpAny (model prog w) A (do let _ ← comprehension (.ListComp el [⟨.Name (Str.ofString x) px, iter, ifs, 0⟩] scope pos) scope env _ (newList []) false (eval iter env) (some (assign (.Name (Str.ofString y) py) env))) _ _ s
  refine wpAny_bind (wpAny_mono (comp_whole (use := some (assign (.Name (Str.ofString y) py) env)) (Q := fun _ s' => ∃ β' v H', Q v H' ∧ StepF env β s β' s' ∧ SR h₀ β' H' s'.heap ∧ ER env (ρ.set y v) β' s'.heap) a ok trivial (fun Cf => asg_one ok) (fun _ H _ hb => one_only (H := H) hb) hE hT hs hsrc fun D Cf β' H' acc s' c hns hk => ?_) (fun _ _ q => wpAny_pure q) fun _ _ e => e)
  obtain ⟨st, sr, vr⟩ := c.adopt a.sr.kept
  have a' := a.step st sr
  show wpAny (model prog w) A (assign (.Name (Str.ofString y) py) env (.ref D)) _ _ s'
  refine wpAny_assign_Name (store_sound a' hl sceq hon vr fun s'' t sr'' er'' => ?_)
  obtain ⟨m, hn⟩ := hns
  have ownOld : ∀ b, Own env b → ∃ o, s.heap.get? b = some o := fun b hb => by
    rcases hb with rfl | ⟨z, hz⟩
    · obtain ⟨m, ⟨o, _, _, e, _⟩, _⟩ := a.er.ns; exact ⟨o, e⟩
    · obtain ⟨u, o, e, _⟩ := a.er.cell z b hz; exact ⟨o, e⟩
  have hCo : ¬ Own env Cf := fun hb => by obtain ⟨o, e⟩ := ownOld _ hb; (first | exact clash c.cnew e | exact clash e c.cnew | (rw [c.cnew] at e; cases e))
  have hCb : Cf ∉ β' ++ [D] := fun hm => by
    rcases List.mem_append.mp hm with q | q
    · exact c.cout q
    · simp at q; exact c.dc q.symm
  obtain ⟨h1, t1, rfl⟩ := t.same
  refine ⟨m, Heap_Ns_at hn (t.keep Cf hCb hCo), fun h' hs' => ?_⟩
  have hC₀ : h₀.get? Cf = Option.none := by
    cases e : h₀.get? Cf with
    | none => rfl
    | some o => have := a.sr.kept _ _ e; (first | exact clash c.cnew this | exact clash this c.cnew | (rw [c.cnew] at this; cases this))
  have tf : StepF env β s (β' ++ [D]) _ := (st.toF a.er.disj).trans t
  obtain ⟨h2, t2, e2⟩ := c.step.same
  subst e2
  refine ⟨β' ++ [D], _, _, hk, ⟨⟨_, _, rfl⟩, tf.grow, fun b hb ho o e => KAt.trans (tf.keep b hb ho) (.of fun o' e' => hs'.extBut b o' (by rintro rfl; (first | exact clash c.cnew e | exact clash e c.cnew | (rw [c.cnew] at e; cases e))) e') o e, tf.fresh, fun b ho => ?_⟩, sr''.other fun b o e q => hs'.extBut b o ?_ e,
    er''.other (.of fun o e => hs'.extBut _ o (by rintro rfl; exact hCo (.inl rfl)) e) (fun z c' hz => .of fun o e => hs'.extBut _ o (by rintro rfl; exact hCo (.inr ⟨z, hz⟩)) e)⟩
  · exact (tf.own b ho).trans (KAt.of fun o e => hs'.extBut b o (by rintro rfl; exact hCo ho) e).d
  · rintro rfl
    rcases q with q | ⟨o', q⟩
    · exact hCb q
    · (first | exact clash hC₀ q | exact clash q hC₀ | (rw [hC₀] at q; cases q))

structure AtS (prog : Program) (w : World) (P : Prog) (fs : Tab) (mg mb : Str → Option Value) (h₀ : Heap) (n : Nat) (sc : Scope) (env : PySem.Env) (ρ : Env) (β : List Addr) (H : Hp) (s : Shared) (A : Around) (X : XP) (E' : Value → Shared → Prop) : Prop where
  at_ : At P fs mg mb h₀ (Amb n) sc env ρ β H s A X E'
  sceq : env.scope = sc
  own : OwnNew h₀ env
  top : ∃ l, A.frames = some (env :: l)
  pass : ∀ hd, PassesOwnAt (model prog w) (A.mark hd) A env E'
theorem AtS.pass1 {prog : Program} {w : World} {P : Prog} {fs : Tab} {mg mb : Str → Option Value} {h₀ : Heap} {n : Nat} {sc : Scope} {env : PySem.Env} {ρ : Env} {β : List Addr} {H : Hp} {s : Shared} {A : Around} {X : XP} {E' : Value → Shared → Prop} (a : AtS prog w P fs mg mb h₀ n sc env ρ β H s A X E') : PassesOwn (model prog w) A env E' := by
  have := a.pass none
  rw [show A.mark none = A by cases A; rfl] at this
  exact this

theorem FrOK.stepF {h₀ : Heap} {l : List PySem.Env} {β β' : List Addr} {s s' : Shared} {env : PySem.Env} {ρ ρ' : Env} (x : FrOK h₀ l β s.heap) (er : ER env ρ β s.heap) (t : StepF env β s β' s') (er' : ER env ρ' β' s'.heap) : FrOK h₀ l β' s'.heap := fun e he => by
  obtain ⟨a, L, b, c, d, o, es, ep, q, f⟩ := x e he
  have hL : L ∉ β' := fun hm => by
    rcases t.fresh L hm with z | z
    · exact c z
    · (first | exact clash q z | exact clash z q | (rw [q] at z; cases z))
  by_cases ho : Own env L
  · rcases ho with rfl | ⟨y, hy⟩
    · obtain ⟨m, ⟨o', es', ep', e1, e2, _⟩, _⟩ := er'.ns
      exact ⟨a, _, b, hL, d, o', es', ep', e1, e2⟩
    · obtain ⟨u, o', e1, e2⟩ := er.cell y L hy
      (first | exact clash q e1 | exact clash e1 q | (rw [q] at e1; cases e1))
      (first | exact clash f e2 | exact clash e2 f | (rw [f] at e2; cases e2))
  · obtain ⟨o', e', k⟩ := t.keep L c ho o q
    exact ⟨a, L, b, hL, d, o', es, ep, e', k.data.trans f⟩

theorem AtS.step {sc env ρ β H s A β' H' s' ρ'} {X : XP} {E' : Value → Shared → Prop} (x : AtS prog w P fs mg mb h₀ n sc env ρ β H s A X E') (t : StepF env β s β' s') (sr : SR h₀ β' H' s'.heap) (er : ER env ρ' β' s'.heap) : AtS prog w P fs mg mb h₀ n sc env ρ' β' H' s' A X E' :=
  ⟨⟨x.at_.names, x.at_.amb, sr, er, x.at_.sc, let ⟨l, a, b⟩ := x.at_.frs; ⟨l, a, b.stepF x.at_.er t er⟩, x.at_.exc.step t sr⟩, x.sceq, x.own, x.top, x.pass⟩

noncomputable def SoundS (prog : Program) (w : World) (h₀ : Heap) (P : Prog) (fs : Tab) (mg mb : Str → Option Value) (n : Nat) (C : Ctx) (sc : Scope) (e : S) (x : Stmt) : Prop :=
  ∀ env ρ β H s A k X E', AtS prog w P fs mg mb h₀ n sc env ρ β H s A X E' → wS C e ρ H k X → wpAny (model prog w) A (exec x env) (PS h₀ env β s k) E' s
noncomputable def SoundSs (prog : Program) (w : World) (h₀ : Heap) (P : Prog) (fs : Tab) (mg mb : Str → Option Value) (n : Nat) (C : Ctx) (sc : Scope) (es : List S) (xs : List Stmt) : Prop :=
  ∀ env ρ β H s A k X E', AtS prog w P fs mg mb h₀ n sc env ρ β H s A X E' → wSs C es ρ H k X → wpAny (model prog w) A (execs xs env) (PS h₀ env β s k) E' s

theorem assign_plain {sc : Scope} {env : PySem.Env} {ρ : Env} {β : List Addr} {H : Hp} {s : Shared} {A : Around} {y : String} {e : E} {v : Expr} {p pos : Pos} {k : SPost} {X : XP} {E' : Value → Shared → Prop} (hl : isLoc sc (Str.ofString y) = true) (hm : Snd prog w h₀ P fs mg mb (Amb n) C sc e v)
    (a : AtS prog w P fs mg mb h₀ n sc env ρ β H s A X E') (hw : wE C e ρ H (fun v H1 => k none (ρ.set y v) H1) X) (hs : swapsWith v (some (.Name (Str.ofString y) p)) pos.line env = pure false) :
    wpAny (model prog w) A (exec (.Assign [.Name (Str.ofString y) p] v pos) env) (PS h₀ env β s k) E' s := by
  refine wpAny_Assign_Name (wpAny_mono (hm.1 env ρ β H s A _ _ E' a.at_ hw) (fun u s1 h1 => ?_) fun _ _ e => e) hs
  obtain ⟨β1, v1, H1, hk, t1, sr1, vr1⟩ := h1
  exact store_sound (a.at_.step t1 sr1) hl a.sceq a.own vr1 fun s' t' sr' er' => ⟨none, β1, _, H1, hk, rfl, (t1.toF a.at_.er.disj).trans t', sr', fun _ => er'⟩

theorem assign_comp {sc : Scope} {env : PySem.Env} {ρ : Env} {β : List Addr} {H : Hp} {s : Shared} {A : Around} {y : String} {e : E} {v : Expr} {p pos : Pos} {k : SPost} {X : XP} {E' : Value → Shared → Prop} (hl : isLoc sc (Str.ofString y) = true) (hm : Snd prog w h₀ P fs mg mb (Amb n) C sc e v)
    (a : AtS prog w P fs mg mb h₀ n sc env ρ β H s A X E') (hw : wE C e ρ H (fun v H1 => k none (ρ.set y v) H1) X)
    (hu : wpAny (model prog w) A (evalThenUse v env (assign (.Name (Str.ofString y) p) env)) (fun _ s' => ∃ β' v H', k none (ρ.set y v) H' ∧ StepF env β s β' s' ∧ SR h₀ β' H' s'.heap ∧ ER env (ρ.set y v) β' s'.heap) E' s) (b : Bool) (hb : swapsWith v (some (.Name (Str.ofString y) p)) pos.line env = pure b) :
    wpAny (model prog w) A (exec (.Assign [.Name (Str.ofString y) p] v pos) env) (PS h₀ env β s k) E' s := by
  cases b with
  | false => exact assign_plain hl hm a hw hb
  | true =>
    rw [exec_Assign_Name_used _ _ _ _ hb]
    refine wpAny_bind (wpAny_standAt (wpAny_bind (wpAny_mono hu (fun _ s' q => wpAny_pure ?_) fun _ _ e => e)))
    obtain ⟨β', v', H', hk, t', sr', er'⟩ := q
    exact ⟨none, β', _, H', hk, rfl, t', sr', fun _ => er'⟩

theorem swaps_attr {v o : Expr} {n : Str} {p : Pos} {line : Nat} {env : PySem.Env} : swapsWith v (some (.Attribute o n p)) line env = pure false := by
  cases v <;> rfl
theorem setAttr_sound (hC : CallOK prog w h₀ fs mg n C.call) (hG : C.glob = P.glob) {sc : Scope} {o e : E} {y : String} {o' v : Expr} {p pos : Pos} (hy : y ∈ attrNames) (h1 : ME fs sc e v) (h2 : ME fs sc o o') :
    SoundS prog w h₀ P fs mg mb n C sc (.setAttr o y e) (.Assign [.Attribute o' (Str.ofString y) p] v pos) := by
  intro env ρ β H s A k X E' a hw
  rw [s_setAttr] at hw
  refine plainObj_wpAny_Assign_Attribute (wpAny_mono ((sound (mb := mb) hC hG e v sc h1).1 env ρ β H s A _ _ E' a.at_ hw) (fun u s1 q1 => ?_) fun _ _ e => e) swaps_attr
  obtain ⟨β1, v1, H1, hw1, t1, sr1, vr1⟩ := q1
  have a1 := a.at_.step t1 sr1
  refine wpAny_mono ((sound (mb := mb) hC hG o o' sc h2).1 env ρ β1 H1 s1 A _ _ E' a1 hw1) (fun uo s2 q2 => ?_) fun _ _ e => e
  obtain ⟨β2, v2, H2, hw2, t2, sr2, vr2⟩ := q2
  have t12 := t1.trans t2
  obtain ⟨H3, hset, hw3⟩ := oE_ex hw2
  cases vr2 with
  | ref hr =>
    refine p_setAttr a.at_.names.inn a.at_.names.g hy hset hr (vr1.mono t2.grow) (fun u' s' β' st sr' vr' => ?_) sr2
    have tt := t12.trans st
    exact ⟨none, β', ρ, _, hw3, rfl, tt.toF a.at_.er.disj, sr', fun _ => a.at_.er.step tt⟩
  | _ => exact no_ns hset
theorem setItem_sound (hC : CallOK prog w h₀ fs mg n C.call) (hG : C.glob = P.glob) {sc : Scope} {o i e : E} {o' i' v : Expr} {p pos : Pos} (h1 : ME fs sc e v) (h2 : ME fs sc o o') (h3 : ME fs sc i i') :
    SoundS prog w h₀ P fs mg mb n C sc (.setItem o i e) (.Assign [.Subscript o' i' p] v pos) := by
  intro env ρ β H s A k X E' a hw
  rw [s_setItem] at hw
  refine wpAny_Assign_Subscript (wpAny_mono ((sound (mb := mb) hC hG e v sc h1).1 env ρ β H s A _ _ E' a.at_ hw) (fun u s1 q1 => ?_) fun _ _ e => e) swaps_sub
  obtain ⟨β1, v1, H1, hw1, t1, sr1, vr1⟩ := q1
  have a1 := a.at_.step t1 sr1
  refine wpAny_mono ((sound (mb := mb) hC hG o o' sc h2).1 env ρ β1 H1 s1 A _ _ E' a1 hw1) (fun uo s2 q2 => ?_) fun _ _ e => e
  obtain ⟨β2, v2, H2, hw2, t2, sr2, vr2⟩ := q2
  have a2 := a1.step t2 sr2
  refine wpAny_mono ((sound (mb := mb) hC hG i i' sc h3).1 env ρ β2 H2 s2 A _ _ E' a2 hw2) (fun ui s3 q3 => ?_) fun _ _ e => e
  obtain ⟨β3, v3, H3, hw3, t3, sr3, vr3⟩ := q3
  have a3 := a2.step t3 sr3
  have t13 := (t1.trans t2).trans t3
  obtain ⟨H4, hset, hw3⟩ := oE_ex hw3
  have vr1' := vr1.mono (t2.grow.trans t3.grow)
  have vr2' := vr2.mono t3.grow
  cases vr2' with
  | ref hr =>
    cases vr3 with
    | int idx tk =>
      simp only [setV] at hset
      split at hset
      · rename_i xs hx
        simp only [setAtV] at hset
        obtain ⟨ys, hy, rfl⟩ := Option.map_eq_some_iff.mp hset
        split at hy <;> cases hy
        rename_i hk
        refine p_setL hx hr hk.1 hk.2 vr1' (fun u' s' β' st sr' vr' => ?_) sr3
        have tt := t13.trans st
        exact ⟨none, β', ρ, _, hw3, rfl, tt.toF a.at_.er.disj, sr', fun _ => a.at_.er.step tt⟩
      · rename_i es hx
        obtain ⟨r', e', sl⟩ := sr3.at hx
        (first | exact clash hr e' | exact clash e' hr | (rw [hr] at e'; cases e'))
        cases sl with
        | own a b c => cases c
        | dict d1 d2 d3 d4 d5 d6 =>
          split at hset
          · rename_i hl; cases hset
            refine p_setD hr d1 d2 d3 d4 d5 hl vr1' (fun u' s' β' st sr' vr' => ?_) sr3
            have tt := t13.trans st
            exact ⟨none, β', ρ, _, hw3, rfl, tt.toF a.at_.er.disj, sr', fun _ => a.at_.er.step tt⟩
          · cases hset
      · cases hset
    | _ => simp [setV] at hset
  | _ => simp [setV] at hset

end
end Mine

namespace Mine
open PySem PySem.Calls PyProof.Rows
set_option maxRecDepth 100000

section
variable {M : Model} {A : Around} {E : Value → Shared → Prop}

theorem excMatches_own {x y : Str} {C D : Addr} {bmB bmD : List Value} {newId newD : String} {mg mgD : Str → Option Value} {s : Shared} {e : Addr} {oe : Obj} {m : List Value} {b : Bool} {Q : Bool → Shared → Prop}
    (O : OwnClsQ x C bmB newId mg s.heap) (OD : OwnClsQ y D bmD newD mgD s.heap) (he : s.heap.get? e = some oe) (hcls : oe.cls = .ref C) (hbase : bmD.contains (.type "BaseException") = true) (hm : mroAt s.heap C = some m) (hb : m.contains (.ref D) = b)
    (hq : Q b s) : wpAny M A (excMatches (.ref e) (.ref D)) Q E s := by
  obtain ⟨bm, N, nm, q, bs, hdct, sn, sub, ab, col, dd, k0, k1, k2, k3, k5, mN, hC, hN, hqq, T⟩ := O.obj
  obtain ⟨bm', N', nm', q', bs', hdct', sn', sub', ab', col', dd', k0', k1', k2', k3', k5', mN', hD, hN', hqq', T'⟩ := OD.obj
  have em : m = .ref C :: bm := by
    unfold mroAt at hm
    rw [hC] at hm
    exact (Option.some.inj hm).symm
  subst em
  have hcB : (Value.ref D :: bm').contains (.type "BaseException") = true := by rw [List.contains_cons, T'.tail.hasType hbase, Bool.or_true]
  have f := tc_notTuple
  obtain ⟨hp, g, d, tk, os⟩ := s
  unfold excMatches
  repeat (first | (with_reducible refine wpAny_loadPart_at he ?_; rw [hcls]) | with_reducible refine wpAny_loadPart_at hD ?_ | (with_reducible refine wpAny_isSubtype_exc hD ?_; rw [hcB]) | (with_reducible refine wpAny_isSubtype_exc hC ?_; rw [hb]) | wp_step)
  cases b <;> (wp_walk; exact hq)
end

theorem lk_ve_class : typeLookup (.type "ValueError") "__class__" = pure (some (.builtin "object.__class__")) := by rw [typeLookup_type, builtinLookup_eq_fast]; kernel_rfl
theorem along_class : lookupAlong excBm "__class__" = pure (some (.builtin "object.__class__")) := by
  have := lk_ve_class
  rw [typeLookup_eq, F.attrBase_ValueError.mro] at this; exact this

theorem plain_none {h : Heap} {a : Addr} {c0 : Value} {dd : Option Addr} {cd : ClassData} {sl : Array (Option Value)} {m : Str → Option Value} (p : plainAt h a = true) (e : h.get? a = some { cls := c0, dict := dd, data := .cls cd, slots := sl }) (hn : h.Ns cd.ns m) : m "__class__" = none := by
  unfold plainAt at p
  rw [e] at p
  have p' : (isNs h cd.ns && (nsAt h cd.ns "__class__").isNone) = true := p
  rw [Bool.and_eq_true, nsAt_ns hn] at p'
  exact Option.isNone_iff_eq_none.mp p'.2

inductive XO (h : Heap) (a C B : Addr) : Prop
  | mk (x : Str) (mg : Str → Option Value) (o : Obj) : OwnClsQ x C excBm "ValueError.__new__" mg h → mroAt h C = some (.ref C :: .ref B :: excBm) → plainAt h C = true → plainAt h B = true → h.get? a = some o → o.cls = .ref C → XO h a C B
inductive XC (h : Heap) (a C B : Addr) : Prop
  | mk (N : Addr) (nm q : Str) (bs : List Value) (hdct : Bool) (sn : List Str) (sub : List Value) (ab : Bool) (col : Option Bool) (dd : Option Addr) (k0 k1 k2 k3 k5 : Option Value) (mN : Str → Option Value) (o : Obj) :
      h.get? C = some (excClassObj nm q C N bs (.ref B :: excBm) hdct sn sub ab col dd k0 k1 k2 k3 k5 "ValueError.__new__") → h.Ns N mN → (∀ n ∈ quietNames, mN n = none) → mN "__class__" = none → OwnTailQ h excBm (.ref B :: excBm) → plainAt h B = true → h.get? a = some o → o.cls = .ref C → XC h a C B
theorem XO.open {h : Heap} {a C B : Addr} (X : XO h a C B) : XC h a C B := by
  obtain ⟨x, mg, o, O, hm, pC, pB, hx, hc⟩ := X
  obtain ⟨bm, N, nm, q, bs, hdct, sn, sub, ab, col, dd, k0, k1, k2, k3, k5, mN, hC, hN, hq, T⟩ := O.obj
  have em : bm = .ref B :: excBm := by
    unfold mroAt at hm
    rw [hC] at hm
    exact (List.cons.inj (Option.some.inj hm)).2
  subst em
  exact ⟨N, nm, q, bs, hdct, sn, sub, ab, col, dd, k0, k1, k2, k3, k5, mN, o, hC, hN, hq, plain_none pC hC hN, T, pB, hx, hc⟩

section
variable {prog : Program} {w : World} {A : Around} {E : Value → Shared → Prop} {h : Heap} {g : Array GenState} {d : Drawn} {t : Nat} {os : OsState} {a C B : Addr}

theorem xo_lookup {M : Model} {Q : Option Value → Shared → Prop} (X : XC h a C B) (hq : Q (some (.builtin "object.__class__")) ⟨h, g, d, t, os⟩) : wpAny M A (typeLookup (.ref C) "__class__") Q E ⟨h, g, d, t, os⟩ := by
  obtain ⟨N, nm, q, bs, hdct, sn, sub, ab, col, dd, k0, k1, k2, k3, k5, mN, o, hC, hN, hqN, h0, T, pB, hx, hc⟩ := X
  rw [typeLookup_eq]
  refine wpAny_bind (wpAny_mroOf_exc hC ?_)
  rw [lookupAlong_cons]
  refine wpAny_bind (wpAny_classOwn_exc hC hN ?_)
  rw [h0]
  show wpAny _ _ (lookupAlong (.ref B :: excBm) _) _ _ _
  rw [lookupAlong_cons]
  generalize hl : (Value.ref B :: excBm) = l at T
  cases T with
  | base => exact absurd (congrArg List.length hl) (by simp [excBm])
  | own hA hNA hqA T' =>
    obtain ⟨e1, e2⟩ := List.cons.inj hl
    cases e1
    refine wpAny_bind (wpAny_classOwn_cls hA hNA ?_)
    rw [plain_none pB hA hNA]
    show wpAny _ _ (lookupAlong excBm "__class__") _ _ _
    rw [along_class]
    exact wpAny_pure hq

theorem xo_get {R : Result → Shared → Prop} (X : XC h a C B) (hq : R (.ok (.ret (.ref C))) ⟨h, g, d, t, os⟩) :
    codeAny (model prog w) A (.call (.builtin "getset_descriptor.__get__") ⟨[.builtin "object.__class__", .ref a, .ref C], []⟩) R ⟨h, g, d, t, os⟩ := by
  obtain ⟨N, nm, q, bs, hdct, sn, sub, ab, col, dd, k0, k1, k2, k3, k5, mN, o, hC, hN, hqN, h0, T, pB, hx, hc⟩ := X
  have hT5 : (⟨h, g, d, t, os⟩ : Shared).TypeIs (.builtin "object.__class__") "getset_descriptor" := F.typeOf_object_class
  have hcB : (Value.ref C :: .ref B :: excBm).contains (.type (".".intercalate ("object.__class__".cutAt '.').dropLast)) = true := by
    rw [F.owner_object_class, List.contains_cons, T.tail.hasType rfl]; rfl
  refine codeAny_call_builtin F.slot_gs_get.plain F.entry_gs_get (F.slot_gs_get.check _ _ _ _ _ _ _ _ hT5 (F.args_gs_get _ _ _) ?_)
  repeat (any_goals (first | assumption | (with_reducible refine wpAny_loadPart_at hx ?_; rw [hc]) | (with_reducible refine wpAny_isSubtype_exc hC ?_; rw [hcB]) | wp_step))
  refine ⟨Code.quiet_builtin _ (by decide +kernel), codeAny_builtin F.entry_object_class ?_⟩
  repeat (any_goals (first | assumption | (with_reducible refine wpAny_loadPart_at hx ?_; rw [hc]) | wp_step))

theorem xo_entry {tk : Tok} {Q : Fin → Shared → Prop} (X : XC h a C B) (hq : Q (.done (.ret (.ref C))) ⟨h, g, d, t, os⟩) :
    wpAny (model prog w) A (Builtin.«object.__getattribute__» ⟨[.ref a, .str "__class__" tk], []⟩) Q E ⟨h, g, d, t, os⟩ := by
  have X' := X
  obtain ⟨N, nm, q, bs, hdct, sn, sub, ab, col, dd, k0, k1, k2, k3, k5, mN, o, hC, hN, hqN, h0, T, pB, hx, hc⟩ := X'
  have hT5 : (⟨h, g, d, t, os⟩ : Shared).TypeIs (.builtin "object.__class__") "getset_descriptor" := F.typeOf_object_class
  have f5 := F.typeOf_object_class
  have f6 := F.slot_gs_get.lookup
  have f7 := F.slot_gs_set.lookup
  repeat (any_goals (first | assumption | (with_reducible refine wpAny_loadPart_at hx ?_; rw [hc]) | with_reducible refine xo_lookup X ?_ | wp_step))
  refine xo_get X ?_
  repeat (any_goals (first | assumption | wp_step))

theorem xo_call {tk : Tok} {R : Result → Shared → Prop} (X : XC h a C B) (hq : R (.ok (.ret (.ref C))) ⟨h, g, d, t, os⟩) :
    codeAny (model prog w) A (.call (.builtin "BaseException.__getattribute__") ⟨[.ref a, .str "__class__" tk], []⟩) R ⟨h, g, d, t, os⟩ := by
  have X' := X
  obtain ⟨N, nm, q, bs, hdct, sn, sub, ab, col, dd, k0, k1, k2, k3, k5, mN, o, hC, hN, hqN, h0, T, pB, hx, hc⟩ := X'
  exact codeAny_call_builtin F.attrBase_ValueError.ga.plain F.entry_bexc_ga (wpAny_check_ga_own F.attrBase_ValueError hC T hx hc (xo_entry X hq))

theorem xo_by {tk : Tok} {Q : Value → Shared → Prop} (X : XC h a C B) (hq : Q (.ref C) ⟨h, g, d, t, os⟩) :
    wpAny (model prog w) A (getAttrBy (.ref a) (.str "__class__" tk) false) Q E ⟨h, g, d, t, os⟩ := by
  have X' := X
  obtain ⟨N, nm, q, bs, hdct, sn, sub, ab, col, dd, k0, k1, k2, k3, k5, mN, o, hC, hN, hqN, h0, T, pB, hx, hc⟩ := X'
  have FB := F.attrBase_ValueError
  have f3 := FB.ga.bind (.ref a)
  have hx2 : (Value.builtin "BaseException.__getattribute__" == Value.builtin "object.__getattribute__") = false := by decide +kernel
  have hx1 : (onTheHeap (Value.ref C) && Value.builtin "BaseException.__getattribute__" == Value.builtin "object.__getattribute__") = false := by rw [hx2]; rfl
  have hm1 : ("__getattribute__" : Str) ∈ quietNames := .tail _ (.head _)
  have hm2 : ("__getattr__" : Str) ∈ quietNames := .tail _ (.tail _ (.head _))
  repeat (any_goals (first | assumption | (with_reducible refine wpAny_loadPart_at hx ?_; rw [hc]) | with_reducible refine wpAny_typeLookup_tailQ hm1 hC hN hqN T FB.mro FB.ga.lookup ?_ | with_reducible refine wpAny_typeLookup_tailQ hm2 hC hN hqN T FB.mro FB.noGetattr ?_ | wp_step))
  refine xo_call X ?_
  repeat (any_goals (first | assumption | wp_step))

theorem xo_attr {Q : Option Value → Shared → Prop} (X : XC h a C B) (hq : Q (some (.ref C)) ⟨h, g, d, t + 1, os⟩) : wpAny (model prog w) A (getAttr? (.ref a) "__class__") Q E ⟨h, g, d, t, os⟩ := by
  unfold getAttr? getAttrBy?
  repeat (any_goals (first | assumption | with_reducible apply xo_by X | wp_step))

theorem xo_nested {D : Addr} {y : Str} {bmD : List Value} {newD : String} {mg : Str → Option Value} {b : Bool} {dep : Int} {tk : Tok} {Q : Fin → Shared → Prop} (X : XO h a C B) (OD : OwnClsQ y D bmD newD mg h) (hb : (Value.ref C :: .ref B :: excBm).contains (.ref D) = b)
    (hq : ∀ tk', Q (.done (.ret (.bool b))) ⟨h, g, d, tk', os⟩) : wpAny (model prog w) A (Builtin.«isinstance.nested» ⟨[.ref a, .ref D, .int dep tk], []⟩) Q E ⟨h, g, d, t, os⟩ := by
  have X1 := X.open
  obtain ⟨N, nm, q, bs, hdct, sn, sub, ab, col, dd, k0, k1, k2, k3, k5, mN, o, hC, hN, hqN, h0, T, pB, hx, hc⟩ := X.open
  obtain ⟨bm', N', nm', q', bs', hdct', sn', sub', ab', col', dd', k0', k1', k2', k3', k5', mN', hD, hN', hqq', T'⟩ := OD.obj
  have hq0 := hq t
  have hq1 := hq (t + 1)
  by_cases e : C = D
  · subst e
    have : b = true := by rw [← hb]; simp
    subst this
    repeat (any_goals (first | assumption | (with_reducible refine wpAny_loadPart_at hx ?_; rw [hc]) | wp_step))
  · have hne : (Value.ref C == Value.ref D) = false := by simpa using e
    cases b with
    | true => repeat (any_goals (first | assumption | (with_reducible refine wpAny_loadPart_at hx ?_; rw [hc]) | with_reducible refine wpAny_loadPart_at hD ?_ | (with_reducible refine wpAny_isSubtype_exc hC ?_; rw [hb]) | wp_step))
    | false => repeat (any_goals (first | assumption | (with_reducible refine wpAny_loadPart_at hx ?_; rw [hc]) | with_reducible refine wpAny_loadPart_at hD ?_ | with_reducible refine wpAny_loadPart_at hC ?_ | (with_reducible refine wpAny_isSubtype_exc hC ?_; rw [hb]) | with_reducible apply xo_attr X1 | wp_step))

theorem xo_value {dep : Int} {tk : Tok} {Q : Fin → Shared → Prop} (X : XO h a C B)
    (hq : Q (.done (.ret (.bool true))) ⟨h, g, d, t, os⟩) : wpAny (model prog w) A (Builtin.«isinstance.nested» ⟨[.ref a, .type "ValueError", .int dep tk], []⟩) Q E ⟨h, g, d, t, os⟩ := by
  obtain ⟨N, nm, q, bs, hdct, sn, sub, ab, col, dd, k0, k1, k2, k3, k5, mN, o, hC, hN, hqN, h0, T, pB, hx, hc⟩ := X.open
  have hne : (Value.ref C == Value.type "ValueError") = false := by rfl
  have hb : (Value.ref C :: .ref B :: excBm).contains (.type "ValueError") = true := by rw [List.contains_cons, T.tail.hasType rfl]; rfl
  have hty : typeOf (.type "ValueError") = pure (.type "type") := by kernel_rfl
  repeat (any_goals (first | assumption | (with_reducible refine wpAny_loadPart_at hx ?_; rw [hc]) | (with_reducible refine wpAny_isSubtype_exc hC ?_; rw [hb]) | wp_step))


noncomputable def OwnE (h : Heap) (D : Addr) : Prop := ∃ y mg, OwnClsQ y D excBm "ValueError.__new__" mg h
variable {s : Shared} {Q : Value → Shared → Prop}
theorem call_one {D : Addr} {b : Bool} (X : XO s.heap a C B) (OD : OwnE s.heap D) (hb : (Value.ref C :: .ref B :: excBm).contains (.ref D) = b) (hq : ∀ tk', Q (.bool b) { s with toks := tk' }) : wpAny (model prog w) A (call (.builtin "isinstance") [.ref a, .ref D]) Q E s :=
  call_isinstance (S := fun _ R s => (XO s.heap a C B ∧ OwnE s.heap D) ∧ ∀ tk', R (.ok (.ret (.bool b))) { s with toks := tk' })
    (fun _ _ _ _ s hs => by
      obtain ⟨h, g, d, t, os⟩ := s
      obtain ⟨⟨X, y, mg, OD⟩, hR⟩ := hs
      exact isinstance_outer (xo_nested X OD hb hR) (by intro e; cases e)) ⟨⟨X, OD⟩, hq⟩
theorem call_val (X : XO s.heap a C B) (hq : Q (.bool true) s) : wpAny (model prog w) A (call (.builtin "isinstance") [.ref a, .type "ValueError"]) Q E s :=
  call_isinstance (S := fun _ R s => XO s.heap a C B ∧ R (.ok (.ret (.bool true))) s)
    (fun _ _ _ _ s hs => by
      obtain ⟨h, g, d, t, os⟩ := s
      exact isinstance_outer (xo_value hs.1 hs.2) (by intro e; cases e)) ⟨X, hq⟩
end

theorem supers_of {c x : String} (h : (supers c).contains x = true) : c ∈ ["BadWishes", "BadGuest", "BadMates", "BadParties", "NoNote", "BedError"] ∧ c ≠ "BedError" ∧ supers c = [c, "BedError", "ValueError"] := by
  unfold supers at h
  split at h <;> first | exact ⟨by decide, by decide, rfl⟩ | exact absurd h (by simp)
theorem allIn_of {fs : Tab} (h : allIn fs = true) {c : String} (hc : c ∈ ["BadWishes", "BadGuest", "BadMates", "BadParties", "NoNote", "BedError"]) : c ∈ fs.excs := by
  have := List.all_eq_true.mp h c hc
  simpa using this

section
variable {prog : Program} {w : World} {h₀ : Heap} {P : Prog} {fs : Tab} {mg mb : Str → Option Value}

theorem sup_eq {h : Heap} (N : Names P fs mg mb h) {c c' : String} {C B D : Addr} (hc : c ∈ fs.excs) (hn : c ≠ "BedError") (hs : supers c = [c, "BedError", "ValueError"]) (hc' : c' ∈ fs.excs) (eC : mg (Str.ofString c) = some (.ref C)) (eB : mg (Str.ofString "BedError") = some (.ref B)) (eD : mg (Str.ofString c') = some (.ref D)) :
    (Value.ref C :: .ref B :: excBm).contains (.ref D) = (supers c).contains c' := by
  obtain ⟨b1, b2⟩ := N.bases
  have mem : c ∈ fs.excs.filter (· != "BedError") := List.mem_filter.mpr ⟨hc, by simpa using hn⟩
  rw [hs]
  by_cases e1 : c' = c
  · subst e1; cases eC.symm.trans eD; simp
  by_cases e2 : c' = "BedError"
  · subst e2; cases eB.symm.trans eD; simp
  have e3 : c' ≠ "ValueError" := by rintro rfl; exact clash eD (N.blt "ValueError" _ rfl).1
  have mem' : c' ∈ fs.excs.filter (· != "BedError") := List.mem_filter.mpr ⟨hc', by simpa using e2⟩
  have d1 : D ≠ C := by rintro rfl; exact b2 c' mem' c mem e1 (by rw [nsAt_ns N.g, nsAt_ns N.g, eD, eC])
  have d2 : D ≠ B := by
    obtain ⟨C2, B2, q1, q2, _, _, _, ne⟩ := b1 c' mem'
    rw [nsAt_ns N.g] at q1 q2
    cases q1.symm.trans eD
    cases q2.symm.trans eB
    exact ne
  simp [excBm, d1, d2, e1, e2, e3]

theorem xo_of {h : Heap} (N : Names P fs mg mb h) {c : String} {C a : Addr} {o : Obj} (hc : c ∈ fs.excs) (hn : c ≠ "BedError") (eC : mg (Str.ofString c) = some (.ref C)) (hx : h.get? a = some o) (ho : o.cls = .ref C) : ∃ B, mg (Str.ofString "BedError") = some (.ref B) ∧ XO h a C B := by
  obtain ⟨b1, _⟩ := N.bases
  obtain ⟨C2, B2, q1, q2, q3, q4, q5, ne⟩ := b1 c (List.mem_filter.mpr ⟨hc, by simpa using hn⟩)
  rw [nsAt_ns N.g] at q1 q2
  cases q1.symm.trans eC
  obtain ⟨C3, O⟩ := N.cls c hc
  cases O.bound.symm.trans eC
  exact ⟨B2, q2, _, mg, o, O, q3, q4, q5, hx, ho⟩

structure HN (P : Prog) (fs : Tab) (mg mb : Str → Option Value) (h₀ : Heap) (sc : Scope) (env : PySem.Env) (n c : String) (ea : Addr) (h : Heap) : Prop where
  frm : Frm P fs mg mb sc env h₀
  kept : ∀ b o, h₀.get? b = some o → h.get? b = some o
  loc : env.kindOf (Str.ofString n) = some .local ∧ (Str.ofString n == ("__debug__" : Str)) = false
  ns : ∃ m, h.Ns env.locals m ∧ m (Str.ofString n) = some (.ref ea)
  land : Landed mg c ea h
  exc : c ∈ fs.excs
  own : c ≠ "BedError" ∧ supers c = [c, "BedError", "ValueError"]

theorem x_eval {sc : Scope} {env : PySem.Env} {n c : String} {ea : Addr} {A : Around} {E : Value → Shared → Prop} {Q : Value → Shared → Prop} {s : Shared} {e : Mine.E} {x : Expr} {v : V} (k : HN P fs mg mb h₀ sc env n c ea s.heap) (hM : MX fs sc n e x) (hv : hE (some n) c e = some v)
    (hq : ∀ u h' tk, VR [] v u → (∀ b o, s.heap.get? b = some o → h'.get? b = some o) → Q u { s with heap := h', toks := tk }) : wpAny (model prog w) A (eval x env) Q E s := by
  have f := k.frm.keeps k.kept
  obtain ⟨m, hns, hm⟩ := k.ns
  obtain ⟨ox, ws, C, x1, x2, _, eC, ec⟩ := k.land
  obtain ⟨B, eB, X⟩ := xo_of f.names k.exc k.own.1 eC x1 ec
  have self : ∀ {p : Pos} {Q : Value → Shared → Prop}, Q (.ref ea) s → wpAny (model prog w) A (eval (.Name (Str.ofString n) p) env) Q E s := fun h => wpAny_Name (wpAny_loadName_local f.kind k.loc.1 hns hm h) k.loc.2
  cases hM with
  | const hc =>
    cases hc with
    | none => obtain rfl : V.none = v := Option.some.inj hv; exact wpAny_Constant_none (hq _ s.heap s.toks .none fun _ _ e => e)
    | bool => obtain rfl : V.bool _ = v := Option.some.inj hv; exact wpAny_Constant_bool (hq _ s.heap s.toks (.bool _) fun _ _ e => e)
    | int => obtain rfl : V.int _ = v := Option.some.inj hv; exact wpAny_Constant_int (hq _ s.heap _ (.int _ _) fun _ _ e => e)
  | one hg hc' hgc =>
    refine f.callB hg rfl rfl ?_
    refine self ?_
    obtain ⟨D, OD⟩ := f.names.cls _ hc'
    obtain ⟨hk, hd⟩ := isGlb_kind hgc f.sc
    refine name_global f.kind f.glob f.names.g hk hd OD.bound ?_
    refine call_one X ⟨_, _, OD⟩ (sup_eq f.names k.exc k.own.1 k.own.2 hc' eC eB OD.bound) fun tk' => ?_
    rw [hE_isi, List.any_cons, List.any_nil, Bool.or_false] at hv
    cases hv
    exact hq _ s.heap tk' (.bool _) fun _ _ e => e
  | val hg hgc =>
    refine f.callB hg rfl rfl ?_
    refine self ?_
    refine f.builtin hgc rfl ?_
    refine call_val X ?_
    rw [hE_isi, k.own.2] at hv
    have e : v = .bool true := by
      rw [← Option.some.inj hv]; congr 1; simp
    subst e
    exact hq _ s.heap s.toks (.bool _) fun _ _ e => e
end
end Mine

namespace Mine
open PySem PySem.Calls

section
variable {prog : Program} {w : World} {A : Around} {E : Value → Shared → Prop} {s : Shared}

inductive Alone (x : Addr) (h : Heap) : Prop
  | mk (ox : Obj) (ws : Array Value) : h.get? x = some ox → ox.data = .fields ws → ws[2]? = some .none → Alone x h

theorem range_end_in {it x : Addr} {i left step : Int} {Q : Option Value → Shared → Prop} (hh : A.handled = some (.ref x)) (al : Alone x s.heap) (hit : IsRangeIter s.heap it i left step) (hleft : left ≤ 0)
    (hQ : ∀ h', Heap.ExtBut it s.heap h' → Q none { s with heap := h' }) : wpAny (model prog w) A (pyNext (.ref it)) Q E s := by
  obtain ⟨ox, ws, hx, hdx, h2⟩ := al
  have hT : s.TypeIs (.ref it) "range_iterator" := ⟨_, hit, rfl⟩
  unfold pyNext
  refine wpAny_bind (wpAny_attempt (wpAny_callSpecial?_slot (name := Str.ofString "__next__") hT F.slot_range_iterator_next
    (wpAny_call_entry F.slot_range_iterator_next hT F.entry_range_iterator_next ?_ (F.args_range_iterator_next_1 _))))
  show wpAny _ _ (field (.ref it) 0 >>= _) _ _ s
  refine wpAny_bind (wpAny_field hit rfl (x := rawInt i) rfl ?_)
  show wpAny _ _ (field (.ref it) 1 >>= _) _ _ s
  refine wpAny_bind (wpAny_field hit rfl (x := rawInt left) rfl ?_)
  show wpAny _ _ (field (.ref it) 2 >>= _) _ _ s
  refine wpAny_bind (wpAny_field hit rfl (x := rawInt step) rfl ?_)
  show wpAny _ _ (if left ≤ 0 then _ else _) _ _ s
  rw [if_pos hleft]
  refine wpAny_bind (wpAny_rule ?_)
  refine wpAny_bind ?_
  show wpAny _ _ (newExc (.type "StopIteration") [] >>= _) _ _ _
  refine wpAny_bind ?_
  simp only [newExc, newTuple]
  refine wpAny_bind (wpAny_newObj_type ?_ (by size_fits))
  refine wpAny_bind (m := firstArgMember _ _) (wpAny_of_eq (a := Value.none) (by first | rfl | (simp only [firstArgMember]; rfl)) ?_)
  refine wpAny_newObj_type ?_ (by size_fits)
  have hlt := Heap.lt_size hx
  refine raiseNew_in (A := A.in1) hh (Heap.get?_push_of_some _ (Heap.get?_push_of_some _ hx)) hdx h2 (Heap.get?_push_size _ rfl) rfl (by simp only [Array.size_append, List.size_toArray, List.length_cons, List.length_nil]; omega) ?_ ?_
  · rw [Heap.size_push]; exact Nat.ne_of_lt (Nat.lt_succ_of_lt hlt)
  refine wpAny_bind (wpAny_isInstance (T := "StopIteration") (b := true) ⟨_, Heap.get?_update_self _ (Heap.get?_push_size _ rfl) rfl, Obj.cls_mapFields _ _⟩ isSubtype_stop ?_)
  refine wpAny_pure (hQ _ fun b o hb e => ?_)
  rw [Heap.get?_update_other _ _ (by rw [Heap.size_push]; exact Ne.symm (Nat.ne_of_lt (Nat.lt_succ_of_lt (Heap.lt_size e))))]
  exact Heap.get?_push_of_some _ (Heap.get?_push_of_some _ e)

theorem itr_range_in {h₀ : Heap} {β₀ : List Addr} {I x : Addr} (hh : A.handled = some (.ref x)) (al : Alone x h₀) (a b c : Int) :
    Itr prog w A h₀ β₀ I (fun _ => True) ((rangeI a b c).map .int) (fun i h => IsRangeIter h I (a + (i : Nat) * c) (((rangeI a b c).length : Int) - (i : Nat)) c) where
  frame := fun _ _ _ st hk => hk _ st
  live := fun _ _ st => ⟨_, st⟩
  nd := fun _ _ st o e es ep q => by
    have e' := st
    unfold IsRangeIter at e'
    (first | exact clash e e' | exact clash e' e | (rw [e] at e'; cases e')); cases q
  item := fun i v β H s Q E hv st hp sr hG hI hQ => by
    obtain ⟨rfl, hlt⟩ := rangeI_get hv
    refine wpAny_pyNext_range_item st (by omega) fun h' hit' hs' => ?_
    refine hQ _ h' _ (.int _ _) ?_ fun b o hb e => hs'.extBut b o hb e
    have e1 : a + ((i + 1 : Nat) : Int) * c = a + (i : Int) * c + c := by rw [Int.natCast_add, Int.add_mul]; simp; omega
    have e2 : ((rangeI a b c).length : Int) - ((i + 1 : Nat) : Int) = ((rangeI a b c).length : Int) - (i : Int) - 1 := by omega
    rw [e1, e2]; exact hit'
  done := fun β H s Q E st hp sr hG hI hQ => by
    rw [List.length_map] at st
    obtain ⟨ox, ws, x1, x2, x3⟩ := al
    exact range_end_in hh ⟨ox, ws, sr.kept _ _ x1, x2, x3⟩ st (by omega) fun h' he' => hQ h' s.toks fun b o hb e => he' b o hb e
  self := fun _ _ _ _ st hQ => wpAny_pyIter_rangeiter st hQ

theorem iter_range_in {h₀ : Heap} {β : List Addr} {x : Addr} {b : Int} {t : Tok} (hh : A.handled = some (.ref x)) (al : Alone x h₀) (hb : b.natAbs ≤ lim) :
    wpAny (model prog w) A (call (.type "range") [.int b t]) (fun x s1 => wpAny (model prog w) A (pyIter x) (Made prog w A h₀ β s (fun _ => True) ((rangeI 0 b 1).map .int)) E s1) E s := by
  refine call_range_1 ?_
  refine wpAny_pyIter_range (IsRange.new ..) (small_lim (by decide) hb (by decide) (by decide)) ⟨_, _, _, _, rfl, rfl, fun b o e => Heap.get?_push_of_some _ (Heap.get?_push_of_some _ e), get_none_of_le (by simp [Heap.size_push]), ?_, itr_range_in hh al 0 b 1⟩
  have e1 : ((0 : Int) + ((0 : Nat) : Int) * 1) = 0 := by simp
  have e2 : (((rangeI 0 b 1).length : Int) - ((0 : Nat) : Int)) = Builtin.Range.rangeSize 0 b 1 := by rw [rangeSize_pos (by decide)]; simp
  rw [e1, e2]
  exact Heap.get?_push_size _ rfl
end

section
variable {prog : Program} {w : World} {h₀ : Heap} {P : Prog} {fs : Tab} {mg mb : Str → Option Value} {C : Ctx}

structure BS (P : Prog) (fs : Tab) (mg mb : Str → Option Value) (h₀ : Heap) (sc : Scope) (env : PySem.Env) (A : Around) (ea : Addr) (ρ : Env) (β : List Addr) (H : Hp) (s : Shared) : Prop where
  at_ : ∀ E', At P fs mg mb h₀ (· = A) sc env ρ β H s A noX E'
  ns : ∃ m, s.heap.Ns env.locals m ∧ m (Str.ofString "error") = some (.ref ea)

structure BC (P : Prog) (fs : Tab) (mg mb : Str → Option Value) (h₀ : Heap) (sc : Scope) (env : PySem.Env) (A : Around) (ea : Addr) (c : String) : Prop where
  sceq : env.scope = sc
  own : OwnNew h₀ env
  handled : A.handled = some (.ref ea)
  alone : Alone ea h₀
  units : A.units + 100 < cLine
  land : Landed mg c ea h₀
  exc : c ∈ fs.excs
  sup : c ≠ "BedError" ∧ supers c = [c, "BedError", "ValueError"]
  err : isLcl sc (Str.ofString "error") = true
  some_ : isLcl sc (Str.ofString "_law_some") = true

theorem isLcl_kind {sc : Scope} {env : PySem.Env} {x : Str} (h : isLcl sc x = true) (sceq : env.scope = sc) : env.kindOf x = some .local ∧ (x == ("__debug__" : Str)) = false := by
  have hko : ∀ y, env.kindOf y = sc.names.lookup y := fun y => by rw [← sceq]; rfl
  unfold isLcl at h
  split at h
  · rename_i q
    simp only [Bool.and_eq_true, bne_iff_ne] at h
    exact ⟨(hko _).trans q, by simpa using h.1.2⟩
  · cases h

variable {sc : Scope} {env : PySem.Env} {A : Around} {ea : Addr} {c : String} {ρ : Env} {β : List Addr} {H : Hp} {s : Shared}

theorem BS.step {β' : List Addr} {H' : Hp} {s' : Shared} (b : BS P fs mg mb h₀ sc env A ea ρ β H s) (t : Step β s β' s') (sr : SR h₀ β' H' s'.heap) : BS P fs mg mb h₀ sc env A ea ρ β' H' s' := by
  refine ⟨fun E' => (b.at_ E').step t sr, ?_⟩
  obtain ⟨m, hn, hm⟩ := b.ns
  exact ⟨m, Heap_Ns_at hn (t.keep _ (b.at_ fun _ _ => True).er.locs), hm⟩

theorem BS.hn (b : BS P fs mg mb h₀ sc env A ea ρ β H s) (k : BC P fs mg mb h₀ sc env A ea c) : HN P fs mg mb h₀ sc env "error" c ea s.heap := by
  have a := b.at_ fun _ _ => True
  obtain ⟨ox, ws, C, x1, x2, x3, x4, x5⟩ := k.land
  exact ⟨a.frm, a.sr.kept, isLcl_kind k.err k.sceq, b.ns, ⟨ox, ws, C, a.sr.kept _ _ x1, x2, x3, x4, x5⟩, k.exc, k.sup⟩

theorem bs_isi {d : String} {x : Expr} {Q : Value → Shared → Prop} {E : Value → Shared → Prop} (b : BS P fs mg mb h₀ sc env A ea ρ β H s) (k : BC P fs mg mb h₀ sc env A ea c) (hx : IsI fs sc d x)
    (h : ∀ s', Step β s β s' → SR h₀ β H s'.heap → Q (.bool ((supers c).contains d)) s') : wpAny (model prog w) A (eval x env) Q E s := by
  refine x_eval (b.hn k) hx.1 (v := .bool ((supers c).contains d)) ?_ fun u h' tk vr kp => ?_
  · rw [hE_isi]; simp
  · cases vr
    exact h _ (Step.of_heap kp) ((b.at_ fun _ _ => True).sr.keeps kp)

theorem bs_store {v : V} {u : Value} {Q : Unit → Shared → Prop} {E : Value → Shared → Prop} (b : BS P fs mg mb h₀ sc env A ea ρ β H s) (k : BC P fs mg mb h₀ sc env A ea c) (hv : VR β v u)
    (h : ∀ s', StepF env β s β s' → BS P fs mg mb h₀ sc env A ea (ρ.set "_law_some" v) β H s' → Q () s') : wpAny (model prog w) A (storeName env (Str.ofString "_law_some") u) Q E s := by
  have a := b.at_ fun _ _ => True
  obtain ⟨hloc, _⟩ := isLcl_kind k.some_ k.sceq
  obtain ⟨m, hn, hm⟩ := b.ns
  obtain ⟨m', hn', hm'⟩ := a.er.ns
  have em : m' = m := by
    obtain ⟨o, es, ep, e1, e2, e3, e4⟩ := hn
    obtain ⟨o', es', ep', e1', e2', e3', e4'⟩ := hn'
    cases e1.symm.trans e1'
    have := e2.symm.trans e2'
    cases this
    funext y
    rw [← e4, ← e4']
  subst em
  refine wpAny_storeName_local hloc hn (fun h' ns' sb => ?_) (by rw [a.er.kind]; rfl)
  have er' := er_local a.er ⟨hn, hm'⟩ hloc hv ns' sb
  have tF : StepF env β s β { s with heap := h', toks := s.toks + 1 } := by
    refine ⟨⟨h', s.toks + 1, rfl⟩, List.prefix_refl _, fun b hb hb' => .of fun o e => sb.extBut b o (by rintro rfl; exact hb' (.inl rfl)) e, fun b hb => .inl hb, fun b hb => ?_⟩
    by_cases e : b = env.locals
    · subst e
      obtain ⟨o, es, ep, eo, ed, ek, _⟩ := ns'; exact fun _ _ => ⟨o, eo, fun _ => ⟨es, ep, ed⟩, fun _ => ⟨es, ep, ed, ek⟩⟩
    · exact (KAt.of fun o ho => sb.extBut b o e ho).d
  have sr' : SR h₀ β H h' := a.sr.other fun b o e q => sb.extBut b o (by
    rintro rfl
    rcases q with q | ⟨o', q⟩
    · exact a.er.locs q
    · exact clash q (k.own _ (.inl rfl))) e
  refine h _ tF ⟨fun E' => ⟨a.names, a.amb, sr', er', a.sc, ?_, fun c β' H' s' e hx => hx.elim⟩, _, ns', ?_⟩
  · obtain ⟨l, q1, q2⟩ := a.frs
    exact ⟨l, q1, q2.stepF a.er tF er'⟩
  · have : Str.ofString "error" ≠ Str.ofString "_law_some" := ofString_ne (by decide)
    simp only [this, if_false]; exact hm


theorem isLcl_var {x : Str} (h : isLcl sc x = true) : isVar sc x = true := by
  unfold isLcl at h
  unfold isVar
  split at h
  · rename_i q; rw [q]; exact h
  · cases h

theorem read_bools (n : Nat) (H : Hp) : ∀ bs : List Bool, (bs.map V.bool).mapM (readD n H) = some (bs.map PyData.bool)
  | [] => rfl
  | b :: bs => by
    rw [List.map_cons, List.mapM_cons, read_bools n H bs, show readD n H (.bool b) = some (.bool b) by cases n <;> rfl]; rfl
theorem lay_bools : ∀ bs : List Bool, PyData.canLayAll0 (bs.map PyData.bool) = true
  | [] => rfl
  | b :: bs => by
    show (PyData.canLay0 (.bool b) && PyData.canLayAll0 (bs.map PyData.bool)) = true
    rw [lay_bools bs]; rfl
theorem eqv_bools : ∀ bs ks : List Bool, PyData.eqvAll (bs.map PyData.bool) (ks.map PyData.bool) = decide (bs = ks)
  | [], [] => rfl
  | [], _ :: _ => rfl
  | _ :: _, [] => rfl
  | b :: bs, k :: ks => by
    show (PyData.eqv (.bool b) (.bool k) && PyData.eqvAll (bs.map PyData.bool) (ks.map PyData.bool)) = _
    rw [eqv_bools bs ks, show PyData.eqv (.bool b) (.bool k) = (b == k) from rfl]
    cases b <;> cases k <;> simp
theorem eq_bools {H : Hp} {a a' : Nat} {bs ks : List Bool} (h : H[a]? = some (.list (bs.map V.bool))) (h' : H[a']? = some (.list (ks.map V.bool))) : eqD H (.ref a) (.ref a') = some (decide (bs = ks)) := by
  have rd : ∀ {x : Nat} {ls : List Bool}, H[x]? = some (.list (ls.map V.bool)) → readD 8 H (.ref x) = some (.list (ls.map PyData.bool)) := fun {x ls} q => by
    show (match H[x]? with
      | some (.list xs) => (xs.mapM (readD 7 H)).map PyData.list
      | some (.frozen xs) => (xs.mapM (readD 7 H)).map PyData.list
      | some (.tuple xs) => (xs.mapM (readD 7 H)).map PyData.tuple
      | _ => none) = _
    rw [q]
    show ((ls.map V.bool).mapM (readD 7 H)).map PyData.list = _
    rw [read_bools]; rfl
  unfold eqD
  rw [rd h, rd h']
  show (if (PyData.canLayAll0 (bs.map PyData.bool) && PyData.canLayAll0 (ks.map PyData.bool)) = true then some (PyData.eqvAll (bs.map PyData.bool) (ks.map PyData.bool)) else none) = _
  rw [lay_bools, lay_bools, eqv_bools]; rfl
theorem elt_sound {kd : String} {scope : Scope} {q1 q2 q3 : Pos} (hu : A.units + 100 < cLine) (h1 : isVar scope (Str.ofString "_law_place") = true) (h2 : isVar scope (Str.ofString kd) = true) :
    SoundE prog w h₀ P fs mg mb (· = A) C (.op (.cmp .eq) [.var "_law_place", .var kd]) (.Compare (.Name (Str.ofString "_law_place") q1) [.Eq] [.Name (Str.ofString kd) q2] q3) scope := by
  intro env ρ β H s A' Q X E' a hw
  obtain rfl : A' = A := a.amb
  rw [e_op, es_cons, e_var] at hw
  obtain ⟨v1, e1, hw⟩ := oE_ex hw
  rw [es_cons, e_var] at hw
  obtain ⟨v2, e2, hw⟩ := oE_ex hw
  rw [es_nil] at hw
  obtain ⟨⟨v, H'⟩, hp, hq⟩ := oE_ex hw
  rw [p_cmpP] at hp
  obtain ⟨r, hr, e⟩ := Option.map_eq_some_iff.mp hp
  cases e
  exact wpAny_Compare1 (sound_var a h1 e1 fun u1 r1 => sound_var a h2 e2 fun u2 r2 => cmp_sound (o := .eq) hr r1 r2 hu (PE.cont hq) a.sr) rfl

theorem bs_comp {kd : String} {i : Int} {y : Expr} {Q : Value → Shared → Prop} {E : Value → Shared → Prop} (hK : MK sc kd y) (b : BS P fs mg mb h₀ sc env A ea ρ β H s) (k : BC P fs mg mb h₀ sc env A ea c) (hρ : ρ kd = some (.int i))
    (h : ∀ u s' β', Step β s β' s' → SR h₀ β' (H ++ [.list (([0, 1, 2, 3, 4].map fun p : Int => p == i).map V.bool)]) s'.heap → VR β' (.ref H.length) u → Q u s') : wpAny (model prog w) A (eval y env) Q E s := by
  cases hK with
  | @mk scope kk q1 q2 q3 tp gp kp cp lp hne hg hok hv1 hv2 =>
  have a := b.at_ E
  have hE := elt_sound (prog := prog) (w := w) (h₀ := h₀) (P := P) (fs := fs) (mg := mg) (mb := mb) (C := ⟨true, fun _ _ _ _ _ => False, fun _ => none⟩) (q1 := q1) (q2 := q2) (q3 := q3) k.units hv1 hv2
  refine wpAny_mono (comp_value (xs := ["_law_place"]) (Q := fun v H' => v = .ref H.length ∧ H' = H ++ [.list (([0, 1, 2, 3, 4].map fun p : Int => p == i).map V.bool)]) a (compOk_of hok) trivial (fun Cf => asg_one (ρ := ρ) (compOk_of hok)) (fun _ H _ hb => one_only (H := H) hb) hE (ifs_of .nil (by simp)) range_folded ?_) (fun u s' q => ?_) fun _ _ e => e
  · refine (a.frm.keeps a.sr.kept).callT hg rfl rfl (wpAny_Constant_int ?_)
    have t1 : Step β s β { s with toks := s.toks + 1 } := Step.toks β s _
    refine wpAny_mono (iter_range_in (h₀ := h₀) (β := β) (b := 5) k.handled k.alone (by decide)) (fun x s2 h2 => wpAny_mono h2 (fun it s3 h3 => ?_) fun _ _ e => e) fun _ _ e => e
    refine ⟨β, H, _, _, _, h3, t1, a.sr, by decide, ?_⟩
    have look : ∀ v : V, (ρ.set "_law_place" v) kd = some (.int i) := fun v => by
      unfold Env.set
      rw [beq_eq_false_iff_ne.mpr hne]; exact hρ
    have step : ∀ (j : Int) (K : Option V → Hp → Prop), K (some (.bool (j == i))) H → compStep ⟨true, fun _ _ _ _ _ => False, fun _ => none⟩ (.op (.cmp .eq) [.var "_law_place", .var kd]) [] (fun v _ => some (Env.set ρ "_law_place" v)) noX (.int j) H K := by
      intro j K hK
      unfold compStep
      rw [oE_some, and_nil]
      refine ⟨fun _ => ?_, fun q => by cases q⟩
      rw [e_op, es_cons, e_var, show (ρ.set "_law_place" (.int j)) "_law_place" = some (.int j) from rfl, oE_some, es_cons, e_var, look, oE_some, es_nil]
      exact hK
    show wLoop (fun _ => True) _ [.int 0, .int 1, .int 2, .int 3, .int 4] [] H _
    exact ⟨trivial, step 0 _ ⟨trivial, step 1 _ ⟨trivial, step 2 _ ⟨trivial, step 3 _ ⟨trivial, step 4 _ ⟨trivial, rfl, rfl⟩⟩⟩⟩⟩⟩
  · obtain ⟨β', v, H', ⟨rfl, rfl⟩, t, sr, vr⟩ := q
    exact h u s' β' t sr vr


theorem BS.er (b : BS P fs mg mb h₀ sc env A ea ρ β H s) : ER env ρ β s.heap := (b.at_ fun _ _ => True).er
theorem BS.sr (b : BS P fs mg mb h₀ sc env A ea ρ β H s) : SR h₀ β H s.heap := (b.at_ fun _ _ => True).sr

theorem bs_isis {E : Value → Shared → Prop} (k : BC P fs mg mb h₀ sc env A ea c) {cs : List String} {xs : List Expr} (hx : All2 (IsI fs sc) cs xs) : ∀ {s : Shared} {Q : List Value → Shared → Prop}, BS P fs mg mb h₀ sc env A ea ρ β H s →
    (∀ s', Step β s β s' → SR h₀ β H s'.heap → Q (cs.map fun t => .bool ((supers c).contains t)) s') → wpList prog w A env xs Q E s := by
  induction hx with
  | nil => exact fun b h => h _ (Step.refl _ _) b.sr
  | cons h1 _ ih =>
    intro s Q b h
    exact bs_isi b k h1 fun s1 t1 sr1 => ih (b.step t1 sr1) fun s2 t2 sr2 => h s2 (t1.trans t2) sr2
theorem isis_plain {cs : List String} {xs : List Expr} (hx : All2 (IsI fs sc) cs xs) : xs.all plainE = true := by
  induction hx with
  | nil => rfl
  | cons h _ ih => rw [List.all_cons, h.2, ih]; rfl
theorem isis_vrs {cs : List String} : VRs β (cs.map fun t => V.bool ((supers c).contains t)) (cs.map fun t => Value.bool ((supers c).contains t)) := by
  induction cs with
  | nil => exact .nil
  | cons _ _ ih => exact .cons (.bool _) ih
theorem bs_list {E : Value → Shared → Prop} {Q : Value → Shared → Prop} {p : Pos} (k : BC P fs mg mb h₀ sc env A ea c) {cs : List String} {xs : List Expr} (hx : All2 (IsI fs sc) cs xs) (hl : cs.length ≤ lim) (b : BS P fs mg mb h₀ sc env A ea ρ β H s)
    (h : ∀ u s' β', Step β s β' s' → SR h₀ β' (H ++ [.list (cs.map fun t => V.bool ((supers c).contains t))]) s'.heap → VR β' (.ref H.length) u → Q u s') : wpAny (model prog w) A (eval (.List xs p) env) Q E s :=
  wpAny_List (wpList_spliced (isis_plain hx) (bs_isis k hx b fun s' t sr => ⟨by rw [List.length_map]; exact lim_line _ hl, p_mkList isis_vrs (by rw [List.length_map]; exact hl) (fun u s2 β2 t2 sr2 vr2 => h u s2 β2 (t.trans t2) sr2 vr2) sr⟩))

theorem suite_sound {kd : String} {i : Int} {suite : List Stmt} {Q : Flow → Shared → Prop} {E : Value → Shared → Prop} (hM : MB fs sc kd suite) (hkd : kd ≠ "_law_some") (b : BS P fs mg mb h₀ sc env A ea ρ [] [] s) (k : BC P fs mg mb h₀ sc env A ea c) (hρ : ρ kd = some (.int i))
    (h : ∀ s' β', StepF env [] s β' s' → (∀ b o, h₀.get? b = some o → s'.heap.get? b = some o) → (∃ m, s'.heap.Ns env.locals m) → Q (.ret (.bool (basedB c i))) s') : wpAny (model prog w) A (execs suite env) Q E s := by
  cases hM with
  | @mk x1 x2 x3 x4 x5 x6 y p1 p2 p3 p4 p5 p6 p7 p8 p9 pa pb pc i1 i2 i3 i4 i5 i6 hK =>
  have hvar := isLcl_var k.some_
  refine wpAny_execs_cons (wpAny_Assign_Name (bs_list k (cs := ["BadGuest", "BadMates", "BadParties"]) (.cons i1 (.cons i2 (.cons i3 .nil))) (by decide) b fun u4 s4 β4 t4 sr4 vr4 => ?_) (swaps_false rfl))
  have b4 := b.step t4 sr4
  refine bs_store b4 k vr4 fun s5 t5 b5 => ?_
  have T5 : StepF env [] s β4 s5 := (t4.toF b.er.disj).trans t5
  refine wpAny_execs_cons (wpAny_Assign_Name (wpAny_BinOp (sound_var (b5.at_ E) hvar (v := .ref 0) rfl fun u hu => ?_)) (swaps_false rfl))
  refine bs_list k (cs := ["BadWishes", "NoNote"]) (.cons i4 (.cons i5 .nil)) (by decide) b5 fun u8 s8 β8 t8 sr8 vr8 => ?_
  have b8 := b5.step t8 sr8
  have had : binV .add (.ref 0) (.ref 1) (([] ++ [O.list (["BadGuest", "BadMates", "BadParties"].map fun t => V.bool ((supers c).contains t))]) ++ [O.list (["BadWishes", "NoNote"].map fun t => V.bool ((supers c).contains t))]) = some (.ref 2, (([] ++ [O.list (["BadGuest", "BadMates", "BadParties"].map fun t => V.bool ((supers c).contains t))]) ++ [O.list (["BadWishes", "NoNote"].map fun t => V.bool ((supers c).contains t))]) ++ [O.list ((["BadGuest", "BadMates", "BadParties"].map fun t => V.bool ((supers c).contains t)) ++ (["BadWishes", "NoNote"].map fun t => V.bool ((supers c).contains t)))]) := rfl
  refine bin_sound (o := .add) (a := .ref 0) (b := .ref 1) (v := .ref 2) had (hu.mono t8.grow) vr8 (fun u9 s9 β9 t9 sr9 vr9 => ?_) sr8
  have b9 := b8.step t9 sr9
  refine bs_store b9 k vr9 fun s10 t10 b10 => ?_
  have T10 : StepF env [] s β9 s10 := T5.trans (((t8.trans t9).toF b5.er.disj).trans t10)
  refine wpAny_execs_cons (wpAny_Return_some ?_)
  show wpAny _ _ (boolOp pb .And [eval x6 env, eval (.Compare (.Name (Str.ofString "_law_some") p9) [.Eq] [y] pa) env]) _ _ _
  refine boolOp_cons (bs_isi b10 k i6 fun s11 t11 sr11 => ?_)
  have b11 := b10.step t11 sr11
  rw [show (supers c).contains "ValueError" = true by rw [k.sup.2]; simp]
  refine wpAny_truthy_bool (boolOp_one (wpAny_Compare1 (sound_var (b11.at_ E) hvar (v := .ref 2) rfl fun u12 r12 => ?_) ?_))
  · refine bs_comp hK b11 k (i := i) ?_ fun u13 s13 β13 t13 sr13 vr13 => ?_
    · show ((ρ.set "_law_some" _).set "_law_some" _) kd = _
      unfold Env.set
      rw [beq_eq_false_iff_ne.mpr hkd]; exact hρ
    have b13 := b11.step t13 sr13
    refine cmp_sound (o := .eq) (a := .ref 2) (b := .ref 3) (r := basedB c i) ?_ (r12.mono t13.grow) vr13 k.units (fun u s' β' t14 sr14 vr14 => ?_) sr13
    · rw [cmp_eq]
      exact eq_bools (bs := (["BadGuest", "BadMates", "BadParties"] ++ ["BadWishes", "NoNote"]).map fun t => (supers c).contains t) rfl rfl
    · cases vr14
      have b14 := b13.step t14 sr14
      obtain ⟨m, hn, _⟩ := b14.er.ns
      exact h s' β' (T10.trans (((t11.trans t13).trans t14).toF b10.er.disj)) sr14.kept ⟨m, hn⟩
  · cases hK; rfl

end
end Mine

namespace Mine
open PySem PySem.Calls PyProof.Rows
open PyProof.Rows.TI (gone gone_get gone_none gone_some)

section
variable {prog : Program} {w : World} {h₀ : Heap} {P : Prog} {fs : Tab} {mg mb : Str → Option Value} {n : Nat} {C : Ctx}

theorem based_sound (hC : CallOK prog w h₀ fs mg n C.call) (hG : C.glob = P.glob) {sc : Scope} {f kd : String} {args : List String} {xs : List Expr} {suite : List Stmt} {np cp ep bp hp p : Pos} (hf : f ∈ fs.fns) (hg : isGlb sc (Str.ofString f) = true) (hxs : MEs fs sc (args.map .var) xs) (hall : allIn fs = true)
    (hb : isGlb sc (Str.ofString "BedError") = true) (hlc : isLcl sc (Str.ofString "error") = true ∧ isLcl sc (Str.ofString "_law_some") = true) (hkd : kd ≠ "error" ∧ kd ≠ "_law_some" ∧ isVar sc (Str.ofString kd) = true) (hM : MB fs sc kd suite) :
    SoundS prog w h₀ P fs mg mb n C sc (.based f args kd) (.Try [.Expr (.Call (.Name (Str.ofString f) np) xs [] cp) ep] [.ExceptHandler (some (.Name (Str.ofString "BedError") bp)) (some (Str.ofString "error")) suite hp] [] [] p) := by
  intro env ρ β H s A k X E' a hw
  rw [s_based] at hw
  obtain ⟨r, ob, fd, hr, ho, hd⟩ := a.at_.names.fn f hf
  obtain ⟨hk, hdb⟩ := isGlb_kind hg a.at_.sc
  obtain ⟨l, hl⟩ := a.top
  refine wpAny_Try_except (wpAny_execs_cons (wpAny_Expr_any ?_ (by unfold interactive; rw [a.at_.er.kind]; rfl) (swaps_false rfl)))
  refine wpAny_Call_Name_kw (name_global a.at_.er.kind a.at_.er.glob (a.at_.names.keeps a.at_.sr.kept).g hk hdb hr ?_)
  refine callWith_function (o := ob) (fd := fd) (wpList_args hxs.plain (wpList_mono (list_of (soundAll (mb := mb) hC hG _ _ sc hxs) (X := noX) ⟨a.at_.names, a.at_.amb, a.at_.sr, a.at_.er, a.at_.sc, a.at_.frs, fun c β' H' s' e hx => hx.elim⟩ hw) fun us s1 h1 => ?_))
  obtain ⟨β1, vs, H1, hcall, t1, sr1, vr1⟩ := h1
  refine ⟨⟨sr1.kept _ _ ho, hd⟩, ?_⟩
  rw [List.nil_append]
  have a1 := a.at_.step t1 sr1
  refine wpAny_mono (hC.1 f hf r hr vs H1 _ _ hcall A β1 s1 _ us a.at_.amb.c sr1 vr1 a1.frs fun c β' H' s' e hx t sr ex => ?_) (fun u s2 q => ?_) fun _ _ e => e
  rotate_left
  · obtain ⟨β2, v, H2, hk2, t2, sr2, vr2⟩ := q
    exact wpAny_execs_nil (wpAny_execs_nil ⟨none, β2, ρ, H2, hk2, rfl, (t1.trans t2).toF a.at_.er.disj, sr2, fun _ => a.at_.er.step (t1.trans t2)⟩)
  obtain ⟨⟨hcon, hnn⟩, hx⟩ := hx
  obtain ⟨i, hi, hx⟩ := oE_ex hx
  have tt := t1.trans t
  have er' := a.at_.er.step tt
  have er1 := a1.er
  have live : ∀ b, (∃ o, s1.heap.get? b = some o) → ∃ o, s'.heap.get? b = some o := fun b hb => (t.toF er1.disj).live sr hb
  have fr1 : FrOK h₀ (env :: l) β1 s1.heap := by
    obtain ⟨l', hl', fr⟩ := a1.frs
    rw [hl] at hl'; cases hl'; exact fr
  have fr' := fr1.step t
  refine note_exc hl fr' sr live ex fun ea h' eq hk sr' et => ?_
  subst eq
  obtain ⟨hin, hne, hsup⟩ := supers_of hcon
  have hc := allIn_of hall hin
  have N' := a.at_.names.keeps sr'.kept
  have hc' : "BedError" ∈ fs.excs := allIn_of hall (by decide)
  obtain ⟨D, OD⟩ := N'.cls "BedError" hc'
  obtain ⟨hkk, hdb'⟩ := isGlb_kind hb a.at_.sc
  have et' := et
  obtain ⟨C', ob', vs0, T0, oT0, ts0, b1, ea1, ea2, ea3, b5, b6, b7, _⟩ := et'
  obtain ⟨B, eB, X'⟩ := xo_of N' hc hne b1 b5 b6
  obtain ⟨x0, mg0, o0, O, hmro, _, _, _, _⟩ := X'
  have hsne : ∃ b₀ bs, suite = b₀ :: bs := by cases hM; exact ⟨_, _, rfl⟩
  obtain ⟨b₀, bs, es⟩ := hsne
  rw [es]
  refine wpAny_handleBy_cons (codeAny_handlers_test (name_global a.at_.er.kind a.at_.er.glob N'.g hkk hdb' OD.bound ?_)) (by intro q; cases q)
  refine excMatches_own (bmD := excBm) (newD := "ValueError.__new__") O OD b5 b6 rfl hmro ((sup_eq N' hc hne hsup hc' b1 eB OD.bound).trans hcon) ?_
  refine codeAny_handlers_suite_as (land_exc sr' et fun h'' hk' sr'' ld => ?_)
  obtain ⟨hloc, hdbg⟩ := isLcl_kind hlc.1 a.sceq
  have K'' : ∀ b, (∃ o, s1.heap.get? b = some o) → KAt s'.heap h'' b := fun b hb => (hk b hb).trans (hk' b hb)
  have ownOld : ∀ b, Own env b → ∃ o, s1.heap.get? b = some o := fun b hb => by
    rcases hb with rfl | ⟨z, hz⟩
    · obtain ⟨m, ⟨o, _, _, e, _⟩, _⟩ := er1.ns; exact ⟨o, e⟩
    · obtain ⟨u, o, e, _⟩ := er1.cell z b hz; exact ⟨o, e⟩
  have er'' : ER env ρ β' h'' := er'.other (K'' _ (ownOld _ (.inl rfl))) fun x c hx => K'' _ (ownOld _ (.inr ⟨x, hx⟩))
  obtain ⟨m2, ns2, hm2⟩ := er''.ns
  have hkd' : (env.scope.kind == .class || (env.scope.kind == .module && env.locals != env.globals)) = false := by rw [a.at_.er.kind]; rfl
  refine wpAny_storeName_local hloc ns2 (fun h3 ns3 sb3 => ?_) hkd'
  have hi' : ρ kd = some (.int i) := by
    cases q : ρ kd with
    | none => rw [q] at hi; cases hi
    | some v => rw [q] at hi; cases v <;> first | (cases hi; rfl) | cases hi
  have mem_own : ∀ b, Own env b → b ∈ env.locals :: (env.cells.filterMap fun p => env.cells.lookup p.1) ++ (env :: l).filterMap (·.frame) := fun b hb => by
    rcases hb with rfl | ⟨z, hz⟩
    · simp
    · refine List.mem_append_left _ (.tail _ (List.mem_filterMap.mpr ?_))
      have : ∀ (cs : List (Str × Addr)), cs.lookup z = some b → ∃ p ∈ cs, p.1 = z := by
        intro cs
        induction cs with
        | nil => intro q; cases q
        | cons p cs ih =>
          intro q
          by_cases e : z = p.1
          · exact ⟨p, .head _, e.symm⟩
          · rw [List.lookup_cons, beq_eq_false_iff_ne.mpr e] at q
            obtain ⟨p', h1, h2⟩ := ih q
            exact ⟨p', .tail _ h1, h2⟩
      obtain ⟨p, h1, h2⟩ := this _ hz
      exact ⟨p, h1, by rw [h2]; exact hz⟩
  have mem_fr : ∀ env' ∈ env :: l, ∀ L, env'.frame = some L → L ∈ env.locals :: (env.cells.filterMap fun p => env.cells.lookup p.1) ++ (env :: l).filterMap (·.frame) := fun env' he L hL => List.mem_append_right _ (List.mem_filterMap.mpr ⟨env', he, hL⟩)
  have frB : ∀ b ∈ env.locals :: (env.cells.filterMap fun p => env.cells.lookup p.1) ++ (env :: l).filterMap (·.frame), b ∉ β' ∧ h₀.get? b = Option.none ∧ ∃ o, s1.heap.get? b = some o := fun b hb => by
    have : Own env b ∨ ∃ env' ∈ env :: l, env'.frame = some b := by
      rcases List.mem_append.mp hb with q | q
      · rcases List.mem_cons.mp q with rfl | q
        · exact .inl (.inl rfl)
        · obtain ⟨p, _, h2⟩ := List.mem_filterMap.mp q; exact .inl (.inr ⟨_, h2⟩)
      · obtain ⟨env', he, h2⟩ := List.mem_filterMap.mp q; exact .inr ⟨env', he, h2⟩
    rcases this with q | ⟨env', he, h2⟩
    · exact ⟨er''.disj b q, a.own b q, ownOld b q⟩
    · obtain ⟨_, L, c2, c3, c4, _⟩ := fr' env' he
      obtain ⟨_, L', d2, _, _, o, _, _, d5, _⟩ := fr1 env' he
      cases h2.symm.trans c2
      cases h2.symm.trans d2
      exact ⟨c3, c4, o, d5⟩
  generalize hXs : env.locals :: (env.cells.filterMap fun p => env.cells.lookup p.1) ++ (env :: l).filterMap (·.frame) = Xs at mem_own mem_fr frB
  have up3 : ∀ b o, b ∉ Xs → h''.get? b = some o → (gone h3 Xs).get? b = some o := fun b o hb q => by
    rw [gone_get hb]
    exact sb3.extBut b o (fun z => hb (z ▸ mem_own _ (.inl rfl))) q
  have notX : ∀ b, (b ∈ β' ∨ ∃ o', h₀.get? b = some o') → b ∉ Xs := fun b q hm => by
    obtain ⟨f1, f2, _⟩ := frB b hm
    rcases q with q | ⟨o', q⟩
    · exact f1 q
    · exact clash q f2
  have sub : ∀ b o, h₀.get? b = some o → (gone h3 Xs).get? b = some o := fun b o q => up3 b o (notX b (.inr ⟨o, q⟩)) (sr''.kept b o q)
  have eaX : ea ∉ Xs := fun hm => by obtain ⟨_, _, o, q⟩ := frB ea hm; exact clash q ea3
  obtain ⟨ox, ws, Cx, x1, x2, x3, x4, x5⟩ := ld
  have x1' := up3 ea ox eaX x1
  have x3' : ws[2]? = some .none := x3.resolve_right (by simp [chained, hnn])
  have er3 : ER env (fun y => if y = kd then some (.int i) else none) [] h3 := by
    refine ⟨er''.kind, er''.glob, er''.bltn, ⟨_, ns3, fun x v hxv hkx hd => ?_⟩, fun y c hc => ?_, fun y v hy hky => ?_, er''.has, er''.apart, by simp, fun y c hc => ⟨by simp, (er''.cells y c hc).2⟩⟩
    · split at hxv
      · rename_i ex
        subst ex
        cases hxv
        obtain ⟨u, hu, vr⟩ := hm2 x (.int i) hi' hkx hd
        refine ⟨u, by rw [if_neg (ofString_ne hkd.1)]; exact hu, ?_⟩
        cases vr; exact .int _ _
      · cases hxv
    · obtain ⟨u, hu⟩ := er''.cell y c hc; exact ⟨u, hu.sameBut sb3 (er''.cells y c hc).2⟩
    · split at hy
      · rename_i ex
        subst ex
        cases hy
        obtain ⟨c, u, hc, hic, vr⟩ := er''.held y (.int i) hi' hky
        refine ⟨c, u, hc, hic.sameBut sb3 (er''.cells _ c hc).2, ?_⟩
        cases vr; exact .int _ _
      · cases hy
  have bsx : BS P fs mg mb (gone h3 Xs) sc env (A.mark (some (.ref ea))) ea (fun y => if y = kd then some (.int i) else none) [] [] { s' with heap := h3, toks := s'.toks + 1 } := by
    refine ⟨fun E'' => ⟨a.at_.names.keeps sub, rfl, ⟨fun b o q => (gone_some q).2, List.nodup_nil, .nil⟩, er3, a.at_.sc, ⟨env :: l, hl, fun env' he => ?_⟩, fun c β' H' s' e hx => hx.elim⟩, _, ns3, by simp⟩
    obtain ⟨c1, L, c2, c3, c4, o, es', ep', c5, c6⟩ := fr' env' he
    obtain ⟨_, _, oL⟩ := frB L (mem_fr env' he L c2)
    by_cases z : L = env.locals
    · obtain ⟨o3, es3, ep3, eo3, ed3, _⟩ := ns3
      exact ⟨c1, L, c2, by simp, gone_none (mem_fr env' he L c2), o3, es3, ep3, by rw [z]; exact eo3, ed3⟩
    · obtain ⟨o2, e2, k2⟩ := K'' L oL o c5
      exact ⟨c1, L, c2, by simp, gone_none (mem_fr env' he L c2), o2, es', ep', sb3.extBut L o2 z e2, k2.data.trans c6⟩
  have bc : BC P fs mg mb (gone h3 Xs) sc env (A.mark (some (.ref ea))) ea c := ⟨a.sceq, fun b hb => gone_none (mem_own b hb), rfl, ⟨ox, ws, x1', x2, x3'⟩, a.at_.amb.room, ⟨ox, ws, Cx, x1', x2, x3, x4, x5⟩, hc, ⟨hne, hsup⟩, hlc.1, hlc.2⟩
  rw [← es]
  refine suite_sound (i := i) hM hkd.2.1 bsx bc (if_pos rfl) fun s4 β4 T4 keep4 nsx => ?_
  obtain ⟨m4, ns4⟩ := nsx
  refine wpAny_nameGoes hloc ns4 hkd' fun h5 m5 ns5 sb5 => ?_
  have notL : ∀ b, b ∉ Xs → b ≠ env.locals := fun b hb z => hb (z ▸ mem_own _ (.inl rfl))
  obtain ⟨h4, tk4, rfl⟩ := T4.same
  have K5 : ∀ b, ¬ Own env b → (∃ o, s1.heap.get? b = some o) → KAt s'.heap h5 b := fun b ho hb => by
    have nl : b ≠ env.locals := fun z => ho (.inl z)
    exact (((K'' b hb).trans (.of fun o q => sb3.extBut b o nl q)).trans (T4.keep b (by simp) ho)).trans (.of fun o q => sb5.extBut b o nl q)
  have live1 : ∀ b, b ∉ β → (∃ o, s.heap.get? b = some o) → ∃ o, s1.heap.get? b = some o := fun b hb q => (t1.keep b hb).live q
  obtain ⟨hs1, tk1, rfl⟩ := tt.same
  refine ⟨some (.bool (basedB c i)), β', noEnv, H', hx, ⟨.bool _, rfl, .bool _⟩, ⟨⟨_, _, rfl⟩, tt.grow, fun b hb ho' o eo => (tt.keep b hb).trans (K5 b ho' (live1 b hb ⟨o, eo⟩)) o eo, tt.fresh, fun b ho' o eo => ?_⟩, ?_, fun q => by cases q⟩
  · by_cases z : b = env.locals
    · subst z
      obtain ⟨o5, es5, ep5, eo5, ed5, ek5, _⟩ := ns5
      exact ⟨o5, eo5, fun _ => ⟨es5, ep5, ed5⟩, fun _ => ⟨es5, ep5, ed5, ek5⟩⟩
    · exact (((((tt.keep b (a.at_.er.disj b ho')).d.trans (K'' b (ownOld b ho')).d).trans (KAt.of fun o q => sb3.extBut b o z q).d).trans (T4.own b ho')).trans (KAt.of fun o q => sb5.extBut b o z q).d) o eo
  · exact sr''.other fun b o q z => sb5.extBut b o (notL b (notX b z)) (keep4 b o (up3 b o (notX b z) q))
end
end Mine

namespace Mine
open PySem

section
variable {prog : Program} {w : World} {h₀ : Heap} {P : Prog} {fs : Tab} {mg mb : Str → Option Value} {n : Nat} {C : Ctx}

theorem for_sound {sc : Scope} {env : PySem.Env} {ρ : Env} {β : List Addr} {H : Hp} {s : Shared} {A : Around} {y : String} {body : List S} {bd : List Stmt} {it : Expr} {px pos : Pos} {k : SPost} {X : SXP} {E' : Value → Shared → Prop}
    (a : AtS prog w P fs mg mb h₀ n sc env ρ β H s A X E') (hl : isLoc sc (Str.ofString y) = true) (hB : SoundSs prog w h₀ P fs mg mb n C sc body bd) (hs : ∀ x, foldedSetIterable it env x = pure x)
    (hsrc : wpAny (model prog w) A (eval it env) (fun xv s₁ => wpAny (model prog w) A (pyIter xv) (SrcReady prog w A h₀ β s fun G items H₁ => wFor G (fun v ρ' H' k' => wSs C body (ρ'.set y v) H' k' X) items ρ H₁ k) E' s₁) E' s) :
    wpAny (model prog w) A (exec (.For (.Name (Str.ofString y) px) it bd [] pos) env) (PS h₀ env β s k) E' s := by
  refine wpAny_For (wpAny_mono hsrc (fun xv s₁ q => wpAny_mono q (fun iv s₂ h₂ => ?_) fun _ _ e => e) fun _ _ e => e) hs
  obtain ⟨β₁, H₁, s₁, G, items, ⟨I, St, hI, tkI, rfl, rfl, kI, nI, st0, itr⟩, t₁, sr₁, hlen, hw⟩ := h₂
  have a₁ := a.at_.step t₁ sr₁
  have notNew : ∀ b, (∃ o, s₁.heap.get? b = some o) → b ≠ I := fun b ⟨o, e⟩ q => by rw [q, nI] at e; cases e
  have hI₀ : h₀.get? I = Option.none := by
    cases e : h₀.get? I with
    | none => rfl
    | some o => exact absurd rfl (notNew I ⟨o, sr₁.kept _ _ e⟩)
  have ownOld : ∀ b, Own env b → ∃ o, s₁.heap.get? b = some o := fun b hb => by
    rcases hb with rfl | ⟨z, hz⟩
    · obtain ⟨m, ⟨o, _, _, e, _⟩, _⟩ := a₁.er.ns; exact ⟨o, e⟩
    · obtain ⟨u, o, e, _⟩ := a₁.er.cell z b hz; exact ⟨o, e⟩
  have hIo : ¬ Own env I := fun hb => notNew I (ownOld I hb) rfl
  have hIβ : I ∉ β₁ := fun hm => notNew I (sr₁.mem hm) rfl
  refine codeAny_forLoop (fun kk s' => ∃ i β' ρ' H', kk = items.length + 1 - i ∧ i ≤ items.length ∧ StepF env β₁ s₁ β' s' ∧ St i s'.heap ∧ I ∉ β' ∧ SR h₀ β' H' s'.heap ∧ ER env ρ' β' s'.heap ∧
      wFor G (fun v ρ' H' k' => wSs C body (ρ'.set y v) H' k' X) (items.drop i) ρ' H' k) ?_ (items.length + 1)
    ⟨0, β₁, ρ, H₁, by omega, by omega, ⟨⟨_, _, rfl⟩, List.prefix_refl _, fun b _ _ => .of fun o e => kI b o e, fun b hb => .inl hb, fun b _ => (KAt.of fun o e => kI b o e).d⟩, st0, hIβ, sr₁.keeps kI, a₁.er.other (.of fun o e => kI _ _ e) (fun _ _ _ => .of fun o e => kI _ _ e), hw⟩
  rintro kk s' ⟨i, β', ρ', H', rfl, hi, tF, hst, hIb, sr', er', hwf⟩
  obtain ⟨h', tk', rfl⟩ := tF.same
  by_cases hlt : i < items.length
  · obtain ⟨v, hv⟩ : ∃ v, items[i]? = some v := ⟨_, List.getElem?_eq_getElem hlt⟩
    have hdrop : items.drop i = v :: items.drop (i + 1) := by
      rw [List.drop_eq_getElem_cons hlt]
      congr 1
      rw [List.getElem?_eq_getElem hlt] at hv; exact Option.some.inj hv
    rw [hdrop] at hwf
    obtain ⟨hG, hstep⟩ := hwf
    refine itr.item i v β' H' _ _ _ hv hst tF.grow sr' hG hIb fun u h₁ tk₁ hvu hst₁ hk₁ => ?_
    have sr₂ : SR h₀ β' H' h₁ := sr'.other fun b o e q => hk₁ b o (by
      rintro rfl
      rcases q with q | ⟨o', q⟩
      · exact hIb q
      · (first | exact clash hI₀ q | exact clash q hI₀ | (rw [hI₀] at q; cases q))) e
    have er₂ : ER env ρ' β' h₁ := er'.other (.of fun o e => hk₁ _ o (fun q => hIo (.inl q.symm)) e) (fun z c hz => .of fun o e => hk₁ _ o (fun q => hIo (.inr ⟨z, q ▸ hz⟩)) e)
    have tF₂ : StepF env β₁ s₁ β' { s₁ with heap := h₁, toks := tk₁ } :=
      ⟨⟨_, _, rfl⟩, tF.grow, fun b hb ho o e => KAt.trans (tF.keep b hb ho) (.of fun o' e' => hk₁ b o' (notNew b ⟨o, e⟩) e') o e, tF.fresh, fun b ho => (tF.own b ho).trans (KAt.of fun o e => hk₁ b o (notNew b (ownOld b ho)) e).d⟩
    have tF0 := (t₁.toF a.at_.er.disj).trans tF₂
    have a₂ : AtS prog w P fs mg mb h₀ n sc env ρ' β' H' { s₁ with heap := h₁, toks := tk₁ } A X E' := a.step tF0 sr₂ er₂
    refine wpAny_assign_Name (store_sound a₂.at_ hl a.sceq a.own hvu fun s₃ t₃ sr₃ er₃ => ?_)
    have a₃ : AtS prog w P fs mg mb h₀ n sc env (ρ'.set y v) β' H' s₃ A X E' := a.step (tF0.trans t₃) sr₃ er₃
    refine wpAny_mono (hB env _ β' H' s₃ A _ X _ a₃ hstep) (fun f s₄ h₄ => ?_) fun e s q => a.pass1 e s q
    obtain ⟨r, β₄, ρ₄, H₄, hk₄, hf, t₄, sr₄, er₄⟩ := h₄
    have t34 := t₃.trans t₄
    have tall := tF₂.trans t34
    have stI : St (i + 1) s₄.heap := itr.stay hst₁ (t34.keep I hIb hIo)
    have hIb₄ : I ∉ β₄ := fun hm => by
      rcases t34.fresh I hm with q | q
      · exact hIb q
      · obtain ⟨o, e⟩ := itr.live _ _ hst₁; have q' : h₁.get? I = Option.none := q; (first | exact clash e q' | exact clash q' e | (rw [e] at q'; cases q'))
    cases r with
    | none =>
      cases hf
      exact ⟨items.length + 1 - (i + 1), by omega, i + 1, β₄, ρ₄, H₄, rfl, by omega, tall, stI, hIb₄, sr₄, er₄ rfl, hk₄⟩
    | some v' =>
      obtain ⟨u', rfl, vr'⟩ := hf
      exact ⟨some v', β₄, ρ₄, H₄, hk₄, ⟨u', rfl, vr'⟩, (t₁.toF a.at_.er.disj).trans tall, sr₄, er₄⟩
  · have hie : i = items.length := by omega
    subst hie
    rw [List.drop_length] at hwf
    obtain ⟨hG, hk⟩ := hwf
    refine itr.done β' H' _ _ _ hst tF.grow sr' hG hIb fun h₁ tk₁ hk₁ => ?_
    have sr₂ : SR h₀ β' H' h₁ := sr'.other fun b o e q => hk₁ b o (by
      rintro rfl
      rcases q with q | ⟨o', q⟩
      · exact hIb q
      · (first | exact clash hI₀ q | exact clash q hI₀ | (rw [hI₀] at q; cases q))) e
    have er₂ : ER env ρ' β' h₁ := er'.other (.of fun o e => hk₁ _ o (fun q => hIo (.inl q.symm)) e) (fun z c hz => .of fun o e => hk₁ _ o (fun q => hIo (.inr ⟨z, q ▸ hz⟩)) e)
    have tF₂ : StepF env β₁ s₁ β' { s₁ with heap := h₁, toks := tk₁ } :=
      ⟨⟨_, _, rfl⟩, tF.grow, fun b hb ho o e => KAt.trans (tF.keep b hb ho) (.of fun o' e' => hk₁ b o' (notNew b ⟨o, e⟩) e') o e, tF.fresh, fun b ho => (tF.own b ho).trans (KAt.of fun o e => hk₁ b o (notNew b (ownOld b ho)) e).d⟩
    exact wpAny_execs_nil ⟨none, β', ρ', H', hk, rfl, (t₁.toF a.at_.er.disj).trans tF₂, sr₂, fun _ => er₂⟩

theorem while_sound (hC : CallOK prog w h₀ fs mg n C.call) (hG : C.glob = P.glob) {sc : Scope} {c : E} {t : Expr} {body : List S} {bd : List Stmt} {pos : Pos} (hm : ME fs sc c t) (hB : SoundSs prog w h₀ P fs mg mb n C sc body bd) :
    SoundS prog w h₀ P fs mg mb n C sc (.while_ c body) (.While t bd [] pos) := by
  intro env ρ β H s A k X E' a hw
  dsimp only [s_assign, s_setItem, s_expr, s_ret, s_retN, s_ite, s_forR, s_forS, s_while, s_raise] at hw
  obtain ⟨N, hN⟩ := hw
  refine wpAny_While (codeAny_whileLoop (fun m s' => ∃ β' ρ' H', StepF env β s β' s' ∧ SR h₀ β' H' s'.heap ∧ ER env ρ' β' s'.heap ∧
      wWhile (fun ρ' H' k' => wE C c ρ' H' (fun v H1 => wB v fun b => k' b H1) X) (fun ρ' H' k' => wSs C body ρ' H' k' X) m ρ' H' k) ?_ N ⟨β, ρ, H, StepF.refl env β s, a.at_.sr, a.at_.er, hN⟩)
  rintro m s' ⟨β', ρ', H', tF, sr', er', hwh⟩
  cases m with
  | zero => exact hwh.elim
  | succ m =>
    simp only [wWhile] at hwh
    have a' : AtS prog w P fs mg mb h₀ n sc env ρ' β' H' s' A X E' := a.step tF sr' er'
    refine wpAny_mono ((sound (mb := mb) hC hG c t sc hm).2 env ρ' β' H' s' A _ _ _ a'.at_ hwh) (fun b s₂ h₂ => ?_) fun e s q => a.pass1 e s q
    obtain ⟨β₂, H₂, hb, t₂, sr₂⟩ := h₂
    have er₂ := er'.step t₂
    have tF₂ := tF.trans (t₂.toF er'.disj)
    cases b with
    | true =>
      simp only [if_true]
      refine wpAny_mono (hB env ρ' β₂ H₂ s₂ A _ X _ (a.step tF₂ sr₂ er₂) (hb.1 rfl)) (fun f s₃ h₃ => ?_) fun e s q => a.pass1 e s q
      obtain ⟨r, β₃, ρ₃, H₃, hk₃, hf, t₃, sr₃, er₃⟩ := h₃
      cases r with
      | none => cases hf; exact ⟨m, by omega, β₃, ρ₃, H₃, tF₂.trans t₃, sr₃, er₃ rfl, hk₃⟩
      | some v' => obtain ⟨u', rfl, vr'⟩ := hf; exact ⟨some v', β₃, ρ₃, H₃, hk₃, ⟨u', rfl, vr'⟩, tF₂.trans t₃, sr₃, er₃⟩
    | false =>
      simp only [Bool.false_eq_true, if_false]
      exact wpAny_execs_nil ⟨none, β₂, ρ', H₂, hb.2 rfl, rfl, tF₂, sr₂, fun _ => er₂⟩

theorem interactive_false {env : PySem.Env} (h : env.scope.kind = .function) : interactive env = false := by
  unfold interactive; rw [h]; rfl

theorem raise_sound {sc : Scope} {env : PySem.Env} {ρ : Env} {β : List Addr} {H : Hp} {s : Shared} {A : Around} {X : XP} {E' : Value → Shared → Prop} {c m : String} {k : Nat} {np kp cp pos : Pos} {Q : Flow → Shared → Prop} (a : AtS prog w P fs mg mb h₀ n sc env ρ β H s A X E')
    (hc : c ∈ fs.excs) (hg : isGlb sc (Str.ofString c) = true) (hx : X c H) : wpAny (model prog w) A (exec (.Raise (some (.Call (.Name (Str.ofString c) np) [.Constant (.str (Str.ofString m)) k kp] [] cp)) none pos) env) Q E' s := by
  obtain ⟨C, O⟩ := a.at_.names.cls c hc
  obtain ⟨hk, hdb⟩ := isGlb_kind hg a.at_.sc
  obtain ⟨bm, N', nm, q, bs, hdct, sn, sub, ab, col, dd, k0, k1, k2, k3, k5, mN, hC, hN, hq, T⟩ := (O.keeps a.at_.sr.kept).obj
  refine wpAny_Raise_call_subT F.excBase_ValueError (nm := nm) (q := q) (C := C) (N := N') (bs := bs) (bm := bm) (hdct := hdct) (sn := sn) (sub := sub) (ab := ab) (col := col) (dd := dd) (k0 := k0) (k1 := k1) (k2 := k2) (k3 := k3) (k5 := k5) (T.tail.hasType rfl) a.at_.amb.handled (backTo_any rfl) (hq _ (.head _)) ?_
  refine name_global a.at_.er.kind a.at_.er.glob (a.at_.names.keeps a.at_.sr.kept).g hk hdb O.bound ⟨rfl, ?_⟩
  refine wpList_args rfl (wpAny_Constant_str ⟨rfl, by show 1 ≤ sizeLine; decide, hC, hN, T.tail, fun h' e hm => ?_⟩)
  obtain ⟨t0, ht, _⟩ := hm.there
  refine a.at_.exc c β H _ (.ref e) hx ((Step.of_heap (s := s) (h := h') (tk := s.toks + 1) hm.keeps).toF a.at_.er.disj) (a.at_.sr.keeps hm.keeps) ⟨e, C, _, _, rfl, O.bound, fun hb => ?_, ?_, hm.new, ht, rfl, rfl, .inl rfl, .inl rfl⟩
  · obtain ⟨o, eo⟩ := a.at_.sr.mem hb
    have := hm.new
    dsimp only at this; (first | exact clash eo this | exact clash this eo | (rw [eo] at this; cases this))
  · cases eo : h₀.get? e with
    | none => rfl
    | some o => have := hm.new; dsimp only at this; (first | exact clash (a.at_.sr.kept _ _ eo) this | exact clash this (a.at_.sr.kept _ _ eo) | (rw [a.at_.sr.kept _ _ eo] at this; cases this))

theorem const_ret {A : Around} {env : PySem.Env} {s : Shared} {n' : Option String} {c : String} {e : E} {x : Expr} {v : V} {pos : Pos} {Q : Flow → Shared → Prop} {E' : Value → Shared → Prop} (hm : MC e x) (hv : hE n' c e = some v)
    (h : ∀ u β tk, VR β v u → Q (.ret u) { s with toks := tk }) : wpAny (model prog w) A (execs [.Return (some x) pos] env) Q E' s := by
  refine wpAny_execs_cons (wpAny_Return_some ?_)
  cases hm with
  | none => obtain rfl : V.none = v := Option.some.inj hv; exact wpAny_Constant_none (h _ [] s.toks .none)
  | bool => obtain rfl : V.bool _ = v := Option.some.inj hv; exact wpAny_Constant_bool (h _ [] s.toks (.bool _))
  | int => obtain rfl : V.int _ = v := Option.some.inj hv; exact wpAny_Constant_int (h _ [] _ (.int _ _))

theorem MC.const {e : E} {x : Expr} (hm : MC e x) {n' : Option String} {c : String} {v : V} (hv : hE n' c e = some v) {β : List Addr} {u : Value} {β' : List Addr} (h : VR β v u) : VR β' v u := by
  cases hm with
  | none => obtain rfl : V.none = v := Option.some.inj hv; cases h; exact .none
  | bool => obtain rfl : V.bool _ = v := Option.some.inj hv; cases h; exact .bool _
  | int => obtain rfl : V.int _ = v := Option.some.inj hv; cases h; exact .int _ _

theorem try_sound {sc : Scope} {body : List S} {bd : List Stmt} {hs : List Hd} {xh : ExceptHandler} {xr : List ExceptHandler} {pos : Pos} (hB : SoundSs prog w h₀ P fs mg mb n C sc body bd) (hM : MH fs sc hs (xh :: xr)) :
    SoundS prog w h₀ P fs mg mb n C sc (.try_ body hs) (.Try bd (xh :: xr) [] [] pos) := by
  intro env ρ β H s A k X E' a hw
  rw [s_try] at hw
  have exc : ExcK h₀ mg env β s (fun c H' => wHs c H' k X hs) (fun e s₁ => wpAny (model prog w) A (noteFrame e env) (fun _ s₂ => wpAny (model prog w) A (setFlight e none) (fun _ s₃ => wpAny (model prog w) A (handleBy e env (xh :: xr)) (PS h₀ env β s k) E' s₃) E' s₂) E' s₁) := by
    intro c β' H' s' e hx t sr ex
    obtain ⟨l, hl⟩ := a.top
    obtain ⟨l', hl', fr⟩ := a.at_.frs
    (first | exact clash hl hl' | exact clash hl' hl | (rw [hl] at hl'; cases hl'))
    have live : ∀ b, (∃ o, s.heap.get? b = some o) → ∃ o, s'.heap.get? b = some o := fun b hb => t.live sr hb
    -- the frames, where it was raised
    have fr' : FrOK h₀ (env :: l) β' s'.heap := fun env' he => by
      obtain ⟨a1, L, a2, a3, a4, o, es, ep, a5, a6⟩ := fr env' he
      have hL : L ∉ β' := fun hm => by
        rcases t.fresh L hm with z | z
        · exact a3 z
        · (first | exact clash a5 z | exact clash z a5 | (rw [a5] at z; cases z))
      obtain ⟨o', e1, e2⟩ : ∃ o', s'.heap.get? L = some o' ∧ ∃ es ep, o'.data = .dict es ep := by
        by_cases ho : Own env L
        · obtain ⟨o', e1, e2, _⟩ := t.own L ho o a5; exact ⟨o', e1, e2 ⟨es, ep, a6⟩⟩
        · obtain ⟨o', e1, e2⟩ := t.keep L a3 ho o a5; exact ⟨o', e1, es, ep, e2.data.trans a6⟩
      obtain ⟨es', ep', e2⟩ := e2
      exact ⟨a1, L, a2, hL, a4, o', es', ep', e1, e2⟩
    have inner : ∀ {b₀ : Stmt} {np p : Pos} {r : List ExceptHandler} (ea : Addr) (h' : Heap), (∀ b, (∃ o, s.heap.get? b = some o) → KAt s'.heap h' b) → SR h₀ β' H' h' → ExcT h₀ mg β' s.heap c ea h' → c ∈ fs.excs → isGlb sc (Str.ofString c) = true →
        (∀ ea h'', (∀ b, (∃ o, s.heap.get? b = some o) → KAt s'.heap h'' b) → SR h₀ β' H' h'' → Landed mg c ea h'' →
          wpAny (model prog w) (A.mark (some (.ref ea))) (execs [b₀] env) (PS h₀ env β s k) (notedBy (model prog w) (A.mark (some (.ref ea))) env (cameBackBy (model prog w) A env E')) { s' with heap := h'' }) →
        wpAny (model prog w) A (handleBy (.ref ea) env (.ExceptHandler (some (.Name (Str.ofString c) np)) none [b₀] p :: r)) (PS h₀ env β s k) E' { s' with heap := h' } := by
      intro b₀ np p r ea h' hk sr' et hc hg K
      obtain ⟨C, O⟩ := a.at_.names.cls c hc
      obtain ⟨hkk, hdb⟩ := isGlb_kind hg a.at_.sc
      refine PyProof.Rows.handleBy_own (C := C) (x := Str.ofString c) (bmB := excBm) (newId := "ValueError.__new__") (mg := mg) rfl (name_global a.at_.er.kind a.at_.er.glob (a.at_.names.keeps sr'.kept).g hkk hdb O.bound ⟨rfl, O.keeps sr'.kept, ?_, ?_⟩)
      · obtain ⟨C', ob, _, _, _, _, b1, _, _, _, b5, b6, _⟩ := et
        (first | exact clash O.bound b1 | exact clash b1 O.bound | (rw [O.bound] at b1; cases b1))
        exact ⟨ob, b5, b6⟩
      · exact land_exc sr' et fun h'' hk' sr'' fx => K ea h'' (fun b hb => (hk b hb).trans (hk' b hb)) sr'' fx
    have common : ∀ {b₀ : Stmt} {np p : Pos} {r : List ExceptHandler}, c ∈ fs.excs → isGlb sc (Str.ofString c) = true →
        (∀ ea h'', (∀ b, (∃ o, s.heap.get? b = some o) → KAt s'.heap h'' b) → SR h₀ β' H' h'' → Landed mg c ea h'' →
          wpAny (model prog w) (A.mark (some (.ref ea))) (execs [b₀] env) (PS h₀ env β s k) (notedBy (model prog w) (A.mark (some (.ref ea))) env (cameBackBy (model prog w) A env E')) { s' with heap := h'' }) →
        wpAny (model prog w) A (noteFrame e env) (fun _ s₂ => wpAny (model prog w) A (setFlight e none) (fun _ s₃ => wpAny (model prog w) A (handleBy e env (.ExceptHandler (some (.Name (Str.ofString c) np)) none [b₀] p :: r)) (PS h₀ env β s k) E' s₃) E' s₂) E' s' := by
      intro b₀ np p r hc hg K
      refine note_exc hl fr' sr live ex fun ea h' eq hk sr' et => ?_
      subst eq
      exact inner ea h' hk sr' et hc hg K
    have retK : ∀ {e' : E} {x' : Expr} {rp : Pos}, MC e' x' → wHb none c H' k X [.ret e'] → ∀ ea h'', (∀ b, (∃ o, s.heap.get? b = some o) → KAt s'.heap h'' b) → SR h₀ β' H' h'' → Landed mg c ea h'' →
          wpAny (model prog w) (A.mark (some (.ref ea))) (execs [.Return (some x') rp] env) (PS h₀ env β s k) (notedBy (model prog w) (A.mark (some (.ref ea))) env (cameBackBy (model prog w) A env E')) { s' with heap := h'' } := by
      intro e' x' rp hmc hx ea h'' hk sr'' _
      rw [hb_ret] at hx
      obtain ⟨v, hv, hx⟩ := oE_ex hx
      refine const_ret hmc hv fun u β0 tk vr => ?_
      obtain ⟨hs1, tk1, rfl⟩ := t.same
      refine ⟨some v, β', noEnv, H', hx, ⟨u, rfl, hmc.const hv vr⟩, ⟨⟨_, _, rfl⟩, t.grow, fun b hb ho o eo => ?_, t.fresh, fun b ho o eo => ?_⟩, sr'', fun q => by cases q⟩
      · exact KAt.trans (t.keep b hb ho) (hk b ⟨o, eo⟩) o eo
      · exact DAt.trans (t.own b ho) (hk b ⟨o, eo⟩).d o eo
    cases hM with
    | many hall hR =>
      refine note_exc hl fr' sr live ex fun ea h' eq hk sr' et => ?_
      subst eq
      have go : ∀ {hs : List Hd} {r : List ExceptHandler}, MR fs sc hs r → wHs c H' k X hs → wpAny (model prog w) A (handleBy (.ref ea) env r) (PS h₀ env β s k) E' { s' with heap := h' } := by
        intro hs r hR
        induction hR with
        | @last c' e' x' np rp p hc hg hmc =>
          intro hx
          by_cases ec : c' = c
          · subst ec
            rw [hs_same] at hx
            exact inner ea h' hk sr' et hc hg (retK hmc hx)
          · rw [hs_no ec] at hx; exact hx.elim
        | @next c' e' x' hs np rp p r hc' hg hmc hR ih =>
          intro hx
          by_cases ec : c' = c
          · subst ec
            rw [hs_nx] at hx
            exact inner ea h' hk sr' et hc' hg (retK hmc hx)
          · rw [hs_go ec] at hx
            obtain ⟨⟨hcon, hcon'⟩, hx⟩ := hx
            obtain ⟨hin, hne, hsup⟩ := supers_of hcon
            have hc := allIn_of hall hin
            have N' := a.at_.names.keeps sr'.kept
            obtain ⟨D, OD⟩ := N'.cls c' hc'
            obtain ⟨hkk, hdb⟩ := isGlb_kind hg a.at_.sc
            obtain ⟨C, ob, vs0, T0, oT0, ts0, b1, _, _, _, b5, b6, b7, _⟩ := et
            obtain ⟨B, eB, X'⟩ := xo_of N' hc hne b1 b5 b6
            obtain ⟨x0, mg0, o0, O, hmro, _, _, _, _⟩ := X'
            refine wpAny_handleBy_cons (codeAny_handlers_test (name_global a.at_.er.kind a.at_.er.glob N'.g hkk hdb OD.bound ?_)) (by intro q; cases q)
            refine excMatches_own (bmD := excBm) (newD := "ValueError.__new__") O OD b5 b6 rfl hmro ((sup_eq N' hc hne hsup hc' b1 eB OD.bound).trans hcon') ?_
            exact ih hx
      exact go hR hx
    | @ret c' e' x' hs' np rp p r hc hg hmc =>
      by_cases ec : c' = c
      · subst ec
        rw [hs_same] at hx
        exact common hc hg (retK hmc hx)
      · rw [hs_no ec] at hx; exact hx.elim
  refine wpAny_Try_except (wpAny_mono (hB env ρ β H s A k _ _ ⟨⟨a.at_.names, a.at_.amb, a.at_.sr, a.at_.er, a.at_.sc, a.at_.frs, exc⟩, a.sceq, a.own, a.top, fun _ => PassesOwnAt.looking⟩ hw) (fun f s1 h1 => ?_) fun _ _ e => e)
  obtain ⟨r, β1, ρ1, H1, hk, hf, t1, sr1, er1⟩ := h1
  cases r with
  | none => cases hf; exact wpAny_execs_nil ⟨none, β1, ρ1, H1, hk, rfl, t1, sr1, er1⟩
  | some v => obtain ⟨u, rfl, vr⟩ := hf; exact ⟨some v, β1, ρ1, H1, hk, ⟨u, rfl, vr⟩, t1, sr1, er1⟩

theorem soundSs (hC : CallOK prog w h₀ fs mg n C.call) (hG : C.glob = P.glob) (es : List S) (xs : List Stmt) (sc : Scope) (h : MSs fs sc es xs) : SoundSs prog w h₀ P fs mg mb n C sc es xs := by
  refine MSs.rec (motive_1 := fun e x _ => SoundS prog w h₀ P fs mg mb n C sc e x) (motive_2 := fun es xs _ => SoundSs prog w h₀ P fs mg mb n C sc es xs) ?_ ?_ ?_ ?_ ?_ ?_ ?_ ?_ ?_ ?_ ?_ ?_ ?_ ?_ ?_ ?_ ?_ ?_ h
  · intro y e v p pos hl hc h env ρ β H s A k X E' a hw
    dsimp only [s_assign, s_setItem, s_expr, s_ret, s_retN, s_ite, s_forR, s_forS, s_while, s_raise] at hw
    exact assign_plain hl (sound hC hG e v sc h) a hw (swaps_false hc)
  · intro scope elt y x args conds el xs ifs tp gp cp lp p pos hl h2 h4 h8 h5 h6 h7 env ρ β H s A k X E' a hw
    dsimp only [s_assign, s_setItem, s_expr, s_ret, s_retN, s_ite, s_forR, s_forS, s_while, s_raise] at hw
    have hw' := hw
    dsimp only [e_compR] at hw
    exact assign_comp hl (sound hC hG _ _ sc (.compR h2 h4 h8 h5 h6 h7)) a hw' (comp_use a.at_ a.sceq a.own hl (compOk_of h4) (sound hC hG _ _ _ h6).1 (ifs_of (soundAll hC hG _ _ _ h7) h8) range_folded
        (src_range (X := X) (W := fun G items H₁ => wLoop G (compStep C _ _ (fun v _ => some (Env.set ρ _ v)) noX) items [] H₁ (fun acc H5 => k none (ρ.set y (V.ref (List.length H5))) (H5 ++ [O.list acc]))) (soundAll hC hG _ _ sc h5) h5.plain h2 a.at_ hw)) _ rfl
  · intro scope elt src y x conds el it ifs tp lp p pos hl h4 h8 h5 h6 h7 env ρ β H s A k X E' a hw
    dsimp only [s_assign, s_setItem, s_expr, s_ret, s_retN, s_ite, s_forR, s_forS, s_while, s_raise] at hw
    have hw' := hw
    dsimp only [e_compS, t_one, oE_some] at hw
    exact assign_comp hl (sound hC hG _ _ sc (.compS h4 h8 h5 h6 h7)) a hw' (comp_use a.at_ a.sceq a.own hl (compOk_of h4) (sound hC hG _ _ _ h6).1 (ifs_of (soundAll hC hG _ _ _ h7) h8) (folded_of h5)
        (src_seq (X := X) (W := fun G items H₁ => wLoop G (compStep C _ _ (fun v _ => some (Env.set ρ _ v)) noX) items [] H₁ (fun acc H5 => k none (ρ.set y (V.ref (List.length H5))) (H5 ++ [O.list acc]))) (sound hC hG _ _ sc h5) a.at_ hw)) _ rfl
  · intro o i e o' i' v p pos h1 h2 h3
    exact setItem_sound hC hG h1 h2 h3
  · intro o e y o' v p pos hy h1 h2
    exact setAttr_sound hC hG hy h1 h2
  · intro e v p hc h env ρ β H s A k X E' a hw
    dsimp only [s_assign, s_setItem, s_expr, s_ret, s_retN, s_ite, s_forR, s_forS, s_while, s_raise] at hw
    refine wpAny_Expr_any (wpAny_mono ((sound (mb := mb) hC hG e _ sc h).1 env ρ β H s A _ _ E' a.at_ hw) (fun u s1 h1 => ?_) fun _ _ e => e) (interactive_false a.at_.er.kind) (swaps_false hc)
    obtain ⟨β1, v1, H1, hk, t1, sr1, vr1⟩ := h1
    exact ⟨none, β1, ρ, H1, hk, rfl, t1.toF a.at_.er.disj, sr1, fun _ => a.at_.er.step t1⟩
  · intro e v p h env ρ β H s A k X E' a hw
    dsimp only [s_assign, s_setItem, s_expr, s_ret, s_retN, s_ite, s_forR, s_forS, s_while, s_raise] at hw
    refine wpAny_Return_some (wpAny_mono ((sound (mb := mb) hC hG e _ sc h).1 env ρ β H s A _ _ E' a.at_ hw) (fun u s1 h1 => ?_) fun _ _ e => e)
    obtain ⟨β1, v1, H1, hk, t1, sr1, vr1⟩ := h1
    exact ⟨some v1, β1, ρ, H1, hk, ⟨u, rfl, vr1⟩, t1.toF a.at_.er.disj, sr1, fun _ => a.at_.er.step t1⟩
  · intro p env ρ β H s A k X E' a hw
    dsimp only [s_assign, s_setItem, s_expr, s_ret, s_retN, s_ite, s_forR, s_forS, s_while, s_raise] at hw
    exact wpAny_Return_none ⟨some .none, β, ρ, H, hw, ⟨.none, rfl, .none⟩, StepF.refl env β s, a.at_.sr, fun _ => a.at_.er⟩
  · intro c t f te x y p hc h1 h2 hT hF env ρ β H s A k X E' a hw
    dsimp only [s_assign, s_setItem, s_expr, s_ret, s_retN, s_ite, s_forR, s_forS, s_while, s_raise] at hw
    refine wpAny_If (wpAny_mono ((sound (mb := mb) hC hG c _ sc hc).2 env ρ β H s A _ _ E' a.at_ hw) (fun b s1 h1 => ?_) fun _ _ e => e)
    obtain ⟨β1, H1, hb, t1, sr1⟩ := h1
    have er1 := a.at_.er.step t1
    have tF := t1.toF a.at_.er.disj
    cases b with
    | true => exact wpAny_mono (hT env ρ β1 H1 s1 A k X E' (a.step tF sr1 er1) (hb.1 rfl)) (fun _ _ q => q.after tF) fun _ _ e => e
    | false => exact wpAny_mono (hF env ρ β1 H1 s1 A k X E' (a.step tF sr1 er1) (hb.2 rfl)) (fun _ _ q => q.after tF) fun _ _ e => e
  · intro y args body xs bd tp gp cp p h2 h3 h4 h5 hB env ρ β H s A k X E' a hw
    dsimp only [s_assign, s_setItem, s_expr, s_ret, s_retN, s_ite, s_forR, s_forS, s_while, s_raise] at hw
    exact for_sound (X := X) a h2 hB range_folded <| src_range (X := X) (W := fun G items H₁ => wFor G (fun v ρ' H' k' => wSs C body (ρ'.set y v) H' k' X) items ρ H₁ k) (soundAll hC hG args _ sc h4) h4.plain h3 a.at_ hw
  · intro y src body it bd tp p h2 h3 h4 hB env ρ β H s A k X E' a hw
    dsimp only [s_assign, s_setItem, s_expr, s_ret, s_retN, s_ite, s_forR, s_forS, s_while, s_raise] at hw
    exact for_sound (X := X) a h2 hB (folded_of h3) <| src_seq (X := X) (W := fun G items H₁ => wFor G (fun v ρ' H' k' => wSs C body (ρ'.set y v) H' k' X) items ρ H₁ k) (sound hC hG src _ sc h3) a.at_ hw
  · intro c body t bd p h1 h2 hB
    exact while_sound hC hG h1 hB
  · intro x env ρ β H s A k X E' a hw
    exact hw.elim
  · intro c m kk np kp cp p hc hg env ρ β H s A k X E' a hw
    dsimp only [s_assign, s_setItem, s_expr, s_ret, s_retN, s_ite, s_forR, s_forS, s_while, s_raise] at hw
    exact raise_sound a hc hg hw
  · intro body hs b hh r p h1 h2 hB
    exact try_sound hB h2
  · intro f kd args xs suite np cp ep bp hp p hf hg hxs hall hb hlc hkd hM
    exact based_sound hC hG hf hg hxs hall hb hlc hkd hM
  · exact fun env ρ β H s A k X E' a hw => wpAny_execs_nil ⟨none, β, ρ, H, hw, rfl, StepF.refl env β s, a.at_.sr, fun _ => a.at_.er⟩
  · intro e es x xs g1 g2 h1 h2 env ρ β H s A k X E' a hw
    rw [ss_cons] at hw
    refine wpAny_execs_cons (wpAny_mono (h1 env ρ β H s A _ X E' a hw) (fun f s1 q => ?_) fun _ _ e => e)
    obtain ⟨r, β1, ρ1, H1, hk, hf, t1, sr1, er1⟩ := q
    cases r with
    | none => cases hf; exact wpAny_mono (h2 env ρ1 β1 H1 s1 A k X E' (a.step t1 sr1 (er1 rfl)) hk) (fun _ _ q => q.after t1) fun _ _ e => e
    | some v => obtain ⟨u, rfl, vr⟩ := hf; exact ⟨some v, β1, ρ1, H1, hk, ⟨u, rfl, vr⟩, t1, sr1, er1⟩

end
end Mine

namespace Mine
open PySem

structure FnOK (fs : Tab) (pn : List Str) (h₀ : Heap) (fn : Fn) (r : Addr) (o : Obj) (fd : FuncData) (body : List Stmt) : Prop where
  obj : h₀.get? r = some o
  data : o.data = .func fd
  code : h₀.CodeRec fd.code fd.qualname
  bodyEq : fd.body = .stmts body
  clo : fd.closure = []
  glob : fd.globals = mainGlobals
  bltn : fd.builtins = builtinsNs
  kind : fd.scope.kind = .function
  co : fd.scope.isCoroutine = false
  gen : fd.scope.isGenerator = false
  ok : MSs fs fd.scope fn.body body
  pre : ∀ y ∈ pn, fd.scope.names.lookup y = some .local
  bind : ∀ pv us, pn.length = pv.length → fn.params.length = us.length → bindArgs fd ⟨pv ++ us, []⟩ = pure (pn.zip pv ++ (fn.params.map Str.ofString).zip us)
  par : fn.params.all (fun x => isLoc fd.scope (Str.ofString x)) = true
  nodup : fn.params.Nodup
  nofree : fd.scope.names.all (fun x => x.2 != .free) = true

theorem lookup_mem {α β : Type} [BEq α] [LawfulBEq α] {x : α} {v : β} : ∀ {l : List (α × β)}, l.lookup x = some v → (x, v) ∈ l
  | (y, u) :: l, h => by
    rw [List.lookup_cons] at h
    split at h
    · rename_i e; cases h; rw [beq_iff_eq.mp e]; exact List.mem_cons_self
    · exact List.mem_cons_of_mem _ (lookup_mem h)

theorem cells_has : ∀ (l : List (Str × NameKind)) (n : Nat) (acc : List (Str × Addr)) (x : Str), ((x, NameKind.cell) ∈ l ∨ (acc.lookup x).isSome = true) → ((cellsFrom n l acc).lookup x).isSome = true
  | [], _, _, _, h => by rcases h with h | h; · cases h
                         · exact h
  | (y, k) :: l, n, acc, x, h => by
    unfold cellsFrom
    split
    · rename_i hk
      refine cells_has l _ _ x ?_
      rcases h with h | h
      · rcases List.mem_cons.mp h with e | e
        · cases e; right; rw [List.lookup_cons]; simp
        · exact .inl e
      · right; rw [List.lookup_cons]; split; · rfl
        · exact h
    · rename_i hk
      refine cells_has l _ _ x ?_
      rcases h with h | h
      · rcases List.mem_cons.mp h with e | e
        · cases e; exact absurd rfl hk
        · exact .inl e
      · exact .inr h

theorem bindL_not {kk : Str → Option NameKind} {x : Str} : ∀ {l : List (Str × Value)} {m : Str → Option Value}, (∀ p ∈ l, p.1 ≠ x) → bindL kk l m x = m x
  | [], _, _ => rfl
  | (y, v) :: l, m, h => by
    unfold bindL
    rw [bindL_not fun p hp => h p (List.mem_cons_of_mem _ hp)]
    have : x ≠ y := fun e => h _ List.mem_cons_self e.symm
    split
    · exact if_neg this
    · rfl
theorem bindC_not {kk : Str → Option NameKind} {x : Str} : ∀ {l : List (Str × Value)} {m : Str → Option Value}, (∀ p ∈ l, p.1 ≠ x) → bindC kk l m x = m x
  | [], _, _ => rfl
  | (y, v) :: l, m, h => by
    unfold bindC
    rw [bindC_not fun p hp => h p (List.mem_cons_of_mem _ hp)]
    have : x ≠ y := fun e => h _ List.mem_cons_self e.symm
    split
    · rfl
    · exact if_neg this

theorem bindL_app {kk : Str → Option NameKind} : ∀ (l l' : List (Str × Value)) (m : Str → Option Value), bindL kk (l ++ l') m = bindL kk l' (bindL kk l m)
  | [], _, _ => rfl
  | (_, _) :: l, l', m => bindL_app l l' _
theorem bindC_app {kk : Str → Option NameKind} : ∀ (l l' : List (Str × Value)) (m : Str → Option Value), bindC kk (l ++ l') m = bindC kk l' (bindC kk l m)
  | [], _, _ => rfl
  | (_, _) :: l, l', m => bindC_app l l' _
theorem zip_names {ps : List String} {us : List Value} {x : String} (h : x ∉ ps) : ∀ p ∈ (ps.map Str.ofString).zip us, p.1 ≠ Str.ofString x := fun p hp e => by
  have := (List.of_mem_zip hp).1
  obtain ⟨y, hy, ey⟩ := List.mem_map.mp this
  rw [← ey] at e
  exact h (ofString_inj e ▸ hy)

theorem bindL_spec {kk : Str → Option NameKind} {β : List Addr} : ∀ {ps : List String} {vs : List V} {us : List Value} {m : Str → Option Value}, ps.Nodup → VRs β vs us → ∀ x v, bindP ps vs x = some v → kk (Str.ofString x) = some .local →
    ∃ u, bindL kk ((ps.map Str.ofString).zip us) m (Str.ofString x) = some u ∧ VR β v u
  | [], _, _, _, _, _, x, v, h, _ => by unfold bindP at h; cases h
  | _ :: _, [], _, _, _, _, x, v, h, _ => by cases h
  | p :: ps, a :: vs, us, m, nd, hv, x, v, h, hk => by
    cases hv with
    | @cons _ u _ us hu hr =>
      rw [List.nodup_cons] at nd
      show ∃ u', bindL kk ((Str.ofString p, u) :: (ps.map Str.ofString).zip us) m (Str.ofString x) = some u' ∧ VR β v u'
      unfold bindL
      unfold bindP Env.set at h
      by_cases e : x = p
      · subst e
        rw [beq_self_eq_true, cond_true] at h; cases h
        rw [bindL_not (zip_names nd.1), if_pos hk]
        exact ⟨u, by simp, hu⟩
      · rw [beq_eq_false_iff_ne.mpr e, cond_false] at h
        exact bindL_spec nd.2 hr x v h hk

theorem bindC_spec {kk : Str → Option NameKind} {β : List Addr} : ∀ {ps : List String} {vs : List V} {us : List Value} {m : Str → Option Value}, ps.Nodup → VRs β vs us → ∀ x v, bindP ps vs x = some v → kk (Str.ofString x) ≠ some .local →
    ∃ u, bindC kk ((ps.map Str.ofString).zip us) m (Str.ofString x) = some u ∧ VR β v u
  | [], _, _, _, _, _, x, v, h, _ => by unfold bindP at h; cases h
  | _ :: _, [], _, _, _, _, x, v, h, _ => by cases h
  | p :: ps, a :: vs, us, m, nd, hv, x, v, h, hk => by
    cases hv with
    | @cons _ u _ us hu hr =>
      rw [List.nodup_cons] at nd
      show ∃ u', bindC kk ((Str.ofString p, u) :: (ps.map Str.ofString).zip us) m (Str.ofString x) = some u' ∧ VR β v u'
      unfold bindC
      unfold bindP Env.set at h
      by_cases e : x = p
      · subst e
        rw [beq_self_eq_true, cond_true] at h; cases h
        rw [bindC_not (zip_names nd.1), if_neg hk]
        exact ⟨u, by simp, hu⟩
      · rw [beq_eq_false_iff_ne.mpr e, cond_false] at h
        exact bindC_spec nd.2 hr x v h hk

section
variable {prog : Program} {w : World} {h₀ : Heap} {P : Prog} {fs : Tab} {mg mb : Str → Option Value} {n : Nat} {ok : Bool}

theorem run_core (N : Names P fs mg mb h₀) (IH : CallOK prog w h₀ fs mg n (callN P ok n)) {f : String} {fn : Fn} {pn : List Str} {pv : List Value} {r : Addr} {o : Obj} {fd : FuncData} {body : List Stmt} (hfn : P.fn f = some fn) (ok' : FnOK fs pn h₀ fn r o fd body) (hpv : pn.length = pv.length) :
    Runs prog w h₀ mg (n + 1) r pv (callN P ok (n + 1) f) := fun vs H Q X h A β s E us amb sr hv frs exc => by
    have ok := ok'
    obtain ⟨fn', hfn', hlen, h⟩ := oE_ex h
    cases hfn.symm.trans hfn'
    have hlen' : fn.params.length = us.length := hlen.trans hv.length
    have hsize : ∀ b ∈ β, b < s.heap.objs.size := fun b hb => by obtain ⟨o, e⟩ := sr.mem hb; exact Heap.lt_size e
    have hko : ∀ y, (callEnvC fd s.heap.objs.size r).kindOf y = fd.scope.names.lookup y := fun y => rfl
    have hpar : ∀ x ∈ fn.params, fd.scope.names.lookup (Str.ofString x) = some .local ∨ fd.scope.names.lookup (Str.ofString x) = some .cell := fun x hx => by
      have := List.all_eq_true.mp ok.par x hx
      unfold isLoc at this
      split at this
      · rename_i e; exact .inl e
      · rename_i e; exact .inr e
      · cases this
    refine wpAny_call (codeAny_call_cells (binds := pn.zip pv ++ (fn.params.map Str.ofString).zip us) (by have := amb.depth; unfold recursionLimit; omega) (sr.kept _ _ ok.obj) ok.data (N.nolimit.keeps sr.kept) (ok.code.keeps sr.kept) ok.bodyEq (ok.bind pv us hpv hlen') ok.clo (fun x hx => ?_) (fun s₁ x => ?_) ok.co ok.gen ok.kind)
    · rcases List.mem_append.mp hx with hx | hx
      · exact .inl (ok.pre _ (List.of_mem_zip hx).1)
      · have hm := (List.of_mem_zip hx).1
        obtain ⟨y, hy, ey⟩ := List.mem_map.mp hm
        rw [← ey]
        rcases hpar y hy with q | q
        · exact .inl q
        · exact .inr ⟨q, cells_has _ _ _ _ (.inl (lookup_mem q))⟩
    · obtain ⟨h₁, tk, rfl, hkeep⟩ := x.done
      have habove : ∀ y c, (callEnvC fd s.heap.objs.size r).cells.lookup y = some c → s.heap.objs.size < c := fun y c hc => x.above y c (mem_of_lookup hc)
      have er : ER (callEnvC fd s.heap.objs.size r) (bindP fn.params vs) β h₁ := by
        refine ⟨ok.kind, ok.glob, ok.bltn, ⟨_, x.toInCall.ns, fun y v hy hk _ => by rw [bindL_app]; exact bindL_spec ok.nodup hv y v hy hk⟩, fun y c hc => ⟨_, x.cell y c hc⟩, fun y v hy hk => ?_, fun y hk => ?_, fun y z c hy hz => ?_, ?_, fun y c hc => ⟨?_, ?_⟩⟩
        · have hc : fd.scope.names.lookup (Str.ofString y) = some .cell := by
            rcases hk with hk | hk
            · exact hk
            · have := List.all_eq_true.mp ok.nofree _ (lookup_mem hk); simp at this
          obtain ⟨c, hcl⟩ := Option.isSome_iff_exists.mp (cells_has fd.scope.names (s.heap.objs.size + 1) [] _ (.inl (lookup_mem hc)))
          obtain ⟨u, hu, hr⟩ := bindC_spec (kk := (callEnvC fd s.heap.objs.size r).kindOf) (m := bindC (callEnvC fd s.heap.objs.size r).kindOf (pn.zip pv) fun _ => none) ok.nodup hv y v hy (by rw [hko, hc]; decide)
          have xc := x.cell _ c hcl
          rw [bindC_app, hu] at xc
          exact ⟨c, u, hcl, xc, hr⟩
        · have hc : fd.scope.names.lookup y = some .cell := by
            rcases hk with hk | hk
            · exact hk
            · have := List.all_eq_true.mp ok.nofree _ (lookup_mem hk); simp at this
          exact Option.isSome_iff_exists.mp (cells_has fd.scope.names (s.heap.objs.size + 1) [] _ (.inl (lookup_mem hc)))
        · exact name_of_addr x.apart (mem_of_lookup hy) (mem_of_lookup hz)
        · exact fun hm => Nat.lt_irrefl _ (hsize _ hm)
        · exact fun hm => Nat.lt_asymm (habove y c hc) (hsize _ hm)
        · exact Nat.ne_of_gt (habove y c hc)
      have ownBig : ∀ b, Own (callEnvC fd s.heap.objs.size r) b → s.heap.objs.size ≤ b := fun b hb => by
        rcases hb with rfl | ⟨y, hy⟩
        · exact Nat.le_refl _
        · exact Nat.le_of_lt (habove y b hy)
      obtain ⟨l, hl, hfr⟩ := frs
      have top := Around.frames_deeper (env := callEnvC fd s.heap.objs.size r) hl
      have hLnew : h₀.get? s.heap.objs.size = Option.none := by
        cases e : h₀.get? s.heap.objs.size with
        | none => rfl
        | some o => exact absurd (Heap.lt_size (sr.kept _ _ e)) (Nat.lt_irrefl _)
      have fr1 : FrOK h₀ (callEnvC fd s.heap.objs.size r :: l) β h₁ := fun env he => by
        rcases List.mem_cons.mp he with rfl | he
        · obtain ⟨o, es, ep, e1, e2, _⟩ := x.toInCall.ns
          refine ⟨by show fd.scope.kind ≠ .module; rw [ok.kind]; decide, s.heap.objs.size, rfl, fun hm => Nat.lt_irrefl _ (hsize _ hm), hLnew, o, es, ep, e1, e2⟩
        · obtain ⟨a1, L, a2, a3, a4, o, es, ep, a5, a6⟩ := hfr env he
          exact ⟨a1, L, a2, a3, a4, o, es, ep, hkeep _ _ a5, a6⟩
      -- from the call's start to a state of the body
      have stepOf : ∀ {β' : List Addr} {s' : Shared}, StepF (callEnvC fd s.heap.objs.size r) β { s with heap := h₁, toks := tk } β' s' → Step β s β' s' := fun {β' s'} t => by
        obtain ⟨h2, t2, rfl⟩ := t.same
        refine ⟨⟨h2, t2, rfl⟩, t.grow, fun b hb o e => t.keep b hb (fun ho => Nat.not_lt.mpr (ownBig b ho) (Heap.lt_size e)) o (hkeep b o e), fun b hb => ?_⟩
        rcases t.fresh b hb with q | q
        · exact .inl q
        · right
          cases e : s.heap.get? b with
          | none => rfl
          | some o => have := hkeep b o e; (first | exact clash this q | exact clash q this | (rw [this] at q; cases q))
      have excB : ExcK h₀ mg (callEnvC fd s.heap.objs.size r) β { s with heap := h₁, toks := tk } X (fun e s' => wpAny (model prog w) (A.deeper (callEnvC fd s.heap.objs.size r)) (leaving (callEnvC fd s.heap.objs.size r) e) (fun _ s'' => E e s'') (fun e' s'' => E e' s'') s') := by
        intro c β' H' s' e hx t sr' ex
        have fr' : FrOK h₀ (callEnvC fd s.heap.objs.size r :: l) β' s'.heap := fun env he => by
          obtain ⟨a1, L, a2, a3, a4, o, es, ep, a5, a6⟩ := fr1 env he
          have hL : L ∉ β' := fun hm => by
            rcases t.fresh L hm with z | z
            · exact a3 z
            · have z : h₁.get? L = Option.none := z
              (first | exact clash a5 z | exact clash z a5 | (rw [a5] at z; cases z))
          obtain ⟨o', e1, es', ep', e2⟩ : ∃ o', s'.heap.get? L = some o' ∧ ∃ es ep, o'.data = .dict es ep := by
            by_cases ho : Own (callEnvC fd s.heap.objs.size r) L
            · obtain ⟨o', e1, e2, _⟩ := t.own L ho o a5; exact ⟨o', e1, e2 ⟨es, ep, a6⟩⟩
            · obtain ⟨o', e1, e2⟩ := t.keep L a3 ho o a5; exact ⟨o', e1, es, ep, e2.data.trans a6⟩
          exact ⟨a1, L, a2, hL, a4, o', es', ep', e1, e2⟩
        refine leave_exc top fr' sr' (fun b hb => t.live sr' hb) ex fun ea h' eq hk sr'' et => ?_
        subst eq
        have st := stepOf t
        obtain ⟨h2, t2, rfl⟩ := t.same
        have up : ∀ b, (∃ o, s.heap.get? b = some o) → ∃ o, h₁.get? b = some o := fun b ⟨o, e⟩ => ⟨o, hkeep b o e⟩
        refine exc c β' H' _ _ hx ⟨⟨_, _, rfl⟩, st.grow, fun b hb o e => KAt.trans (st.keep b hb) (hk b (up b ⟨o, e⟩)) o e, st.fresh⟩ sr'' (et.at.back fun b _ hn => ?_)
        cases e : s.heap.get? b with
        | none => rfl
        | some o => obtain ⟨o', e'⟩ := up b ⟨o, e⟩; have hn : h₁.get? b = Option.none := hn; (first | exact clash hn e' | exact clash e' hn | (rw [hn] at e'; cases e'))
      have a : AtS prog w P fs mg mb h₀ n fd.scope (callEnvC fd s.heap.objs.size r) (bindP fn.params vs) β H { s with heap := h₁, toks := tk } (A.deeper (callEnvC fd s.heap.objs.size r)) X (fun e s' => wpAny (model prog w) (A.deeper (callEnvC fd s.heap.objs.size r)) (leaving (callEnvC fd s.heap.objs.size r) e) (fun _ s'' => E e s'') (fun e' s'' => E e' s'') s') :=
        ⟨⟨N, ⟨amb.handled, by have := amb.depth; show A.depth + 1 + 2 * n + 1 < 900; omega, by have := amb.units; show A.units + 3 + 20 * n + 10 < 9000; omega⟩, sr.keeps hkeep, er, fun y => rfl, ⟨_, top, fr1⟩, excB⟩, rfl, (fun b hb => by
          cases e : h₀.get? b with
          | none => rfl
          | some o => exact absurd (Heap.lt_size (sr.kept _ _ e)) (Nat.not_lt.mpr (ownBig b hb))), ⟨l, top⟩, fun _ => PassesOwnAt.leaving⟩
      refine wpAny_mono (soundSs (mb := mb) IH rfl fn.body body fd.scope ok.ok _ _ _ _ _ _ _ _ (fun e s' => wpAny (model prog w) (A.deeper (callEnvC fd s.heap.objs.size r)) (leaving (callEnvC fd s.heap.objs.size r) e) (fun _ s'' => E e s'') (fun e' s'' => E e' s'') s') a h) (fun fl s' q => ?_) fun _ _ e => e
      obtain ⟨rv, β', ρ', H', hk, hf, t, sr', er'⟩ := q
      have st : Step β s β' s' := stepOf t
      cases rv with
      | none => cases hf; exact ⟨β', .none, H', hk, st, sr', .none⟩
      | some v => obtain ⟨u, rfl, vr⟩ := hf; exact ⟨β', v, H', hk, st, sr', vr⟩

structure Backed (P : Prog) (fs : Tab) (mg : Str → Option Value) (h₀ : Heap) : Prop where
  fn : ∀ f ∈ fs.fns, ∃ fn r o fd body, P.fn f = some fn ∧ mg (Str.ofString f) = some (.ref r) ∧ FnOK fs [] h₀ fn r o fd body
  init : ∀ c ∈ fs.cls, ∃ fn r o fd body, P.fn (c ++ ".__init__") = some fn ∧ (∀ r', InitAt mg h₀ c r' → r' = r) ∧ FnOK fs ["self"] h₀ fn r o fd body
  meth : ∀ cm ∈ fs.meths, ∃ fn r o fd body, P.fn (cm.1 ++ "." ++ cm.2) = some fn ∧ (∀ r', MethAt mg h₀ cm.1 cm.2 r' → r' = r) ∧ FnOK fs [] h₀ fn r o fd body

theorem callOK (N : Names P fs mg mb h₀) (F : Backed P fs mg h₀) : ∀ n, CallOK prog w h₀ fs mg n (callN P ok n)
  | 0 => ⟨fun _ _ _ _ _ _ _ _ h => h.elim, fun _ _ _ _ _ _ _ _ _ h => h.elim, fun _ _ _ _ _ _ _ _ h => h.elim⟩
  | n + 1 => ⟨fun f hf r hr => by
      obtain ⟨fn, r', o, fd, body, hfn, hr', ok'⟩ := F.fn f hf
      cases hr.symm.trans hr'
      exact run_core N (callOK N F n) hfn ok' rfl, fun c hc r hr x => by
      obtain ⟨fn, r', o, fd, body, hfn, hr', ok'⟩ := F.init c hc
      cases hr' r hr
      exact run_core N (callOK N F n) hfn ok' rfl, fun cm hc r hr => by
      obtain ⟨fn, r', o, fd, body, hfn, hr', ok'⟩ := F.meth cm hc
      cases hr' r hr
      exact run_core N (callOK N F n) hfn ok' rfl⟩
end
end Mine

namespace Mine
open PySem PySem.Calls PyProof.Rows

theorem zip_lookup : ∀ {ns : List Str} {us : List Value}, ns.Nodup → ns.length = us.length → ns.filterMap (fun n => ((ns.zip us).lookup n).map (n, ·)) = ns.zip us ∧ ns.filter (fun n => ((ns.zip us).lookup n).isNone) = []
  | [], [], _, _ => ⟨rfl, rfl⟩
  | n :: ns, u :: us, nd, hl => by
    rw [List.nodup_cons] at nd
    obtain ⟨h1, h2⟩ := zip_lookup nd.2 (by simpa using hl)
    have e : ∀ m ∈ ns, (List.zip (n :: ns) (u :: us)).lookup m = (ns.zip us).lookup m := fun m hm => by
      rw [List.zip_cons_cons, List.lookup_cons]
      have : (m == n) = false := beq_eq_false_iff_ne.mpr (by rintro rfl; exact nd.1 hm)
      rw [this]
    have e0 : (List.zip (n :: ns) (u :: us)).lookup n = some u := by rw [List.zip_cons_cons, List.lookup_cons]; simp
    constructor
    · rw [List.filterMap_cons, e0]
      show (n, u) :: _ = _
      have q : ∀ l : List Str, (∀ m ∈ l, m ∈ ns) → l.filterMap (fun m => ((List.zip (n :: ns) (u :: us)).lookup m).map (m, ·)) = l.filterMap (fun m => ((ns.zip us).lookup m).map (m, ·)) := by
        intro l
        induction l with
        | nil => intro _; rfl
        | cons a l ih => intro hl; rw [List.filterMap_cons, List.filterMap_cons, e a (hl a List.mem_cons_self), ih fun m hm => hl m (List.mem_cons_of_mem _ hm)]
      rw [q ns fun _ h => h, h1]; rfl
    · rw [List.filter_cons, e0]
      show List.filter _ ns = _
      rw [List.filter_congr (q := fun n => ((ns.zip us).lookup n).isNone) fun m hm => by rw [e m hm], h2]
  | [], _ :: _, _, h => by simp at h
  | _ :: _, [], _, h => by simp at h

theorem bind_plain {fd : FuncData} {ns : List Str} {us : List Value} (h1 : fd.params.posonlyargs = []) (h2 : fd.params.kwonlyargs = []) (h3 : fd.params.vararg = none) (h4 : fd.params.kwarg = none) (h5 : fd.params.args.map (·.arg) = ns) (h6 : fd.defaults = .none)
    (nd : ns.Nodup) (hl : ns.length = us.length) : bindArgs fd ⟨us, []⟩ = pure (ns.zip us) := by
  obtain ⟨z1, z2⟩ := zip_lookup nd hl
  obtain ⟨name, qualname, params, body, scope, globals, closure, defaults, kwdefaults, doc, pyModule, annotations, code, closureTuple, builtins⟩ := fd
  obtain ⟨po, ar, va, ko, kd, kw, df⟩ := params
  dsimp only at h1 h2 h3 h4 h5 h6
  subst h1 h2 h3 h4 h5 h6
  unfold bindArgs
  dsimp only [List.map_nil, List.nil_append, List.append_nil]
  rw [List.forIn_nil, pure_bind, show seqItems? Value.none = pure none from rfl, pure_bind]
  dsimp only [Option.getD_none, List.length_nil, Nat.sub_zero, List.drop_nil, Nat.sub_self]
  rw [if_neg (by simp [hl])]
  rw [if_neg (by simp only [List.map_nil, List.nil_append, List.drop_nil, List.length_nil, Nat.sub_zero, List.take_length, z2]; decide)]
  simp only [List.map_nil, List.nil_append, List.drop_nil, List.length_nil, Nat.sub_zero, List.zip_nil_right, List.forIn_nil, pure_bind, List.isEmpty_nil, Bool.not_true, Bool.false_eq_true, if_false, List.append_nil, z1]

noncomputable def fnCheck (fs : Tab) (fn : Fn) (d : DefRec) : Bool :=
  d.params.posonlyargs.isEmpty && d.params.kwonlyargs.isEmpty && d.params.vararg.isNone && d.params.kwarg.isNone && (d.params.args.map (·.arg) == fn.params.map Str.ofString) && decide (d.scope.kind = .function) && !d.scope.isCoroutine && !d.scope.isGenerator &&
  d.scope.names.all (fun x => x.2 != .free) && fn.params.all (fun x => isLoc d.scope (Str.ofString x)) && decide fn.params.Nodup && (chkSs fs d.scope fn.body d.body).isSome
noncomputable def progCheck (p : Program) (fs : Tab) (P : Prog) : Bool := fs.fns.all fun f => match P.fn f with
  | some fn => (recsOf p).any fun d => d.name == Str.ofString f && fnCheck fs fn d
  | none => false

theorem nodup_map {l : List String} (h : l.Nodup) : (l.map Str.ofString).Nodup := by
  induction l with
  | nil => simp
  | cons a l ih =>
    rw [List.nodup_cons] at h
    rw [List.map_cons, List.nodup_cons]
    refine ⟨fun hm => ?_, ih h.2⟩
    obtain ⟨b, hb, e⟩ := List.mem_map.mp hm
    exact h.1 (ofString_inj e ▸ hb)

theorem fns_of_top {p : Program} {loose : List Str} {mean : ExcName → Option Value} {mg mb : Str → Option Value} {h : Heap} {fs : Tab} {P : Prog} (T : Top p loose mean mg mb h) (ok : progCheck p fs P = true) :
    ∀ f ∈ fs.fns, ∃ fn r o fd body, P.fn f = some fn ∧ mg (Str.ofString f) = some (.ref r) ∧ FnOK fs [] h fn r o fd body := by
  intro f hf
  have := List.all_eq_true.mp ok f hf
  split at this
  · rename_i fn hfn
    obtain ⟨d, hd, hc⟩ := List.any_eq_true.mp this
    simp only [Bool.and_eq_true, fnCheck, decide_eq_true_eq, List.isEmpty_iff, Option.isNone_iff_eq_none, Bool.not_eq_true'] at hc
    obtain ⟨hn, ⟨⟨⟨⟨⟨⟨⟨⟨⟨⟨⟨c1, c2⟩, c3⟩, c4⟩, c5⟩, c6⟩, c7⟩, c8⟩, c9⟩, c10⟩, c11⟩, c12⟩⟩ := hc
    obtain ⟨a, o, pm, code, doc, e1, e2, e3, e4⟩ := T.fn d hd
    have hn := beq_iff_eq.mp hn
    refine ⟨fn, a, o, _, d.body, hfn, hn ▸ e1, e2, e3, e4, rfl, rfl, rfl, rfl, c6, c7, c8, (Option.get _ c12).down, (fun _ hy => by cases hy), fun pv us hp hl => ?_, c10, c11, c9⟩
    obtain rfl : pv = [] := List.length_eq_zero_iff.mp hp.symm
    refine bind_plain c1 c2 c3 c4 (beq_iff_eq.mp c5) rfl ?_ (by simpa using hl)
    exact nodup_map c11
  · cases this

theorem MethAt.uniq {mg : Str → Option Value} {h : Heap} {c m : String} {r r' : Addr} (x : MethAt mg h c m r) (y : MethAt mg h c m r') : r' = r := by
  obtain ⟨C, N, mN, o, a, X, b, _⟩ := x
  obtain ⟨C', N', mN', o', a', X', b', _⟩ := y
  cases a.symm.trans a'
  obtain ⟨nm, q, bs, sn, sub, col, dd, k0, k1, k2, k3, k5, e⟩ := X.obj
  obtain ⟨nm', q', bs', sn', sub', col', dd', k0', k1', k2', k3', k5', e'⟩ := X'.obj
  have eN : N = N' := congrArg (fun o : Obj => match o.data with | .cls cd => cd.ns | _ => 0) (Option.some.inj (e.symm.trans e'))
  subst eN
  obtain ⟨o1, es1, ep1, f1, f2, _, f3⟩ := X.ns
  obtain ⟨o2, es2, ep2, g1, g2, _, g3⟩ := X'.ns
  cases f1.symm.trans g1
  have := f2.symm.trans g2
  cases this
  rw [← f3] at b
  rw [← g3] at b'
  cases b.symm.trans b'; rfl

noncomputable def methCheck (fs : Tab) (fn : Fn) (d : MethRec) : Bool :=
  d.params.posonlyargs.isEmpty && d.params.kwonlyargs.isEmpty && d.params.vararg.isNone && d.params.kwarg.isNone && (d.params.args.map (·.arg) == fn.params.map Str.ofString) && decide (d.scope.kind = .function) && !d.scope.isCoroutine && !d.scope.isGenerator &&
  d.scope.names.all (fun x => x.2 != .free) && fn.params.all (fun x => isLoc d.scope (Str.ofString x)) && decide fn.params.Nodup && (chkSs fs d.scope fn.body d.body).isSome
noncomputable def methsCheck (p : Program) (loose : List Str) (fs : Tab) (P : Prog) : Bool := fs.meths.all fun cm => match P.fn (cm.1 ++ "." ++ cm.2) with
  | some fn => (plainsOf p loose).any fun k => k.name == Str.ofString cm.1 && k.meths.any fun m => m.name == Str.ofString cm.2 && methCheck fs fn m
  | none => false
noncomputable def innCheck (p : Program) (loose : List Str) : Bool := (plainsOf p loose).any fun k => k.name == Str.ofString "Inn" && attrNames.all (fun n => k.quiet.contains (Str.ofString n)) && methNames.all fun n => k.meths.any fun m => m.name == Str.ofString n

theorem meths_of_top {p : Program} {loose : List Str} {mg : Str → Option Value} {h : Heap} {fs : Tab} {P : Prog} (T : TopC p loose mg h) (ok : methsCheck p loose fs P = true) :
    ∀ cm ∈ fs.meths, ∃ fn r o fd body, P.fn (cm.1 ++ "." ++ cm.2) = some fn ∧ MethAt mg h cm.1 cm.2 r ∧ FnOK fs [] h fn r o fd body := by
  intro cm hc
  have := List.all_eq_true.mp ok cm hc
  split at this
  · rename_i fn hfn
    obtain ⟨k, hk, hk2⟩ := List.any_eq_true.mp this
    rw [Bool.and_eq_true] at hk2
    obtain ⟨hn, hm⟩ := hk2
    obtain ⟨d, hd, hd2⟩ := List.any_eq_true.mp hm
    simp only [Bool.and_eq_true, methCheck, decide_eq_true_eq, List.isEmpty_iff, Option.isNone_iff_eq_none, Bool.not_eq_true'] at hd2
    obtain ⟨hi, ⟨⟨⟨⟨⟨⟨⟨⟨⟨⟨⟨c1, c2⟩, c3⟩, c4⟩, c5⟩, c6⟩, c7⟩, c8⟩, c9⟩, c10⟩, c11⟩, c12⟩⟩ := hd2
    obtain ⟨C, N, mN, e1, PA⟩ := T k hk
    obtain ⟨f, o, pm, cd, doc, m1, m2, m3, m4, m5⟩ := PA.meths d hd
    have hn := beq_iff_eq.mp hn
    have hi := beq_iff_eq.mp hi
    rw [hi] at m1
    refine ⟨fn, f, o, _, d.body, hfn, ⟨C, N, mN, o, hn ▸ e1, PA.cls, m1, m2, m3⟩, m2, m4, m5, rfl, rfl, rfl, rfl, c6, c7, c8, (Option.get _ c12).down, (fun _ hy => by cases hy), fun pv us hp hl => ?_, c10, c11, c9⟩
    obtain rfl : pv = [] := List.length_eq_zero_iff.mp hp.symm
    exact bind_plain (fd := methDef d.name (k.name ++ "." ++ d.name) d.params d.body d.scope pm cd doc) c1 c2 c3 c4 (beq_iff_eq.mp c5) rfl (nodup_map c11) (by simpa using hl)
  · cases this
theorem inn_of_top {p : Program} {loose : List Str} {mg : Str → Option Value} {h : Heap} (T : TopC p loose mg h) (ok : innCheck p loose = true) : InnOk mg h := by
  obtain ⟨k, hk, hk2⟩ := List.any_eq_true.mp ok
  simp only [Bool.and_eq_true] at hk2
  obtain ⟨⟨hn, ha⟩, hm⟩ := hk2
  obtain ⟨C, N, mN, e1, PA⟩ := T k hk
  have hn := beq_iff_eq.mp hn
  refine ⟨C, N, mN, hn ▸ e1, PA.cls, ⟨PA.quiet _ (by unfold ClsRec.quiet; simp), PA.quiet _ (by unfold ClsRec.quiet; simp), PA.quiet _ (by unfold ClsRec.quiet; simp)⟩, fun n hn' => PA.quiet _ ?_, fun m hm' => ?_⟩
  · have := List.all_eq_true.mp ha n hn'
    simpa using this
  · obtain ⟨d, hd, hd2⟩ := List.any_eq_true.mp (List.all_eq_true.mp hm m hm')
    obtain ⟨f, o, pm, cd, doc, m1, m2, m3, m4, m5⟩ := PA.meths d hd
    rw [beq_iff_eq.mp hd2] at m1
    exact ⟨f, o, _, m1, m2, m3, m4⟩
noncomputable def bltNames : List String := ["len", "isinstance", "list", "tuple", "range", "int", "bool", "str", "min", "any", "sum"]
  ++ ["ValueError"]

theorem bltn_mem {x : String} {v : Value} (h : bltn x = some v) : x ∈ bltNames ∧ bootBuiltins (Str.ofString x) = some v := by
  unfold bltn at h
  split at h <;> first | (cases h; exact ⟨by decide, by rfl⟩) | cases h

noncomputable def nameCheck (p : Program) (loose : List Str) : Bool := bltNames.all fun x => let y := Str.ofString x
  !startupNames.contains y && !loose.contains y && !((recsOf p).map (·.name)).contains y && !((litsOf p).map (·.1)).contains y && !((clssOf p loose).map (·.name)).contains y

theorem names_of_top {p : Program} {loose : List Str} {mean : ExcName → Option Value} {mg mb : Str → Option Value} {h : Heap} {fs : Tab} {P : Prog} (T : Top p loose mean mg mb h) (ok : progCheck p fs P = true) (ok2 : nameCheck p loose = true)
    (hg : ∀ x v, P.glob x = some v → ∃ u, mg (Str.ofString x) = some u ∧ VR [] v u) (hc : ∀ c ∈ fs.excs, specOf p (Str.ofString c) = some ("ValueError.__new__", excBm))
    (hB : Bases (fs.excs.filter (· != "BedError")) h)
    (hI : ∀ c ∈ fs.cls, ∃ r, InitAt mg h c r)
    (hO : InnOk mg h)
    : Names P fs mg mb h := by
  refine ⟨T.g, T.b, T.nolimit, fun x v hx => ?_, hg, fun f hf => ?_, fun c hm => let ⟨C, O, _⟩ := T.ownAt (hc c hm); ⟨C, O⟩, hI
    , hO
    , hB
    ⟩
  · obtain ⟨hm, hb⟩ := bltn_mem hx
    have := List.all_eq_true.mp ok2 x hm
    simp only [Bool.and_eq_true, Bool.not_eq_true', List.contains_eq_mem, decide_eq_false_iff_not] at this
    obtain ⟨⟨⟨⟨a1, a2⟩, a3⟩, a4⟩, a5⟩ := this
    refine ⟨T.free _ a1 a2 a3 a4 a5, ?_⟩
    rw [T.builtins _ (fun e => a1 (by rw [e]; decide)), hb]
  · obtain ⟨fn, r, o, fd, body, _, nm, ok⟩ := fns_of_top T ok f hf
    exact ⟨r, o, fd, nm, ok.obj, ok.data⟩

theorem frozen_ints {us : List Value} {is : List Int} (h : IntsAre us is) : VRs [] (is.map .int) us := by
  induction h with
  | nil => exact .nil
  | cons n t _ ih => exact .cons (.int n t) ih

end Mine

namespace Mine
open PySem PySem.Calls PyProof.Rows PySem.W

noncomputable def baseHook (cs : List String) : Hook where
  α := Bool
  obs := fun s => baseOk cs s.heap
  val := fun _ => true
  says := fun _ h => Bases cs h
  of := fun _ _ e => bases_of e
  keeps := fun _ _ _ x hk => x.keeps hk
end Mine

namespace Mine
open PySem PySem.Calls PyProof.Rows PySem.W

theorem law_call {p prog : Program} {w : World} {loose : List Str} {mean : ExcName → Option Value} {mg mb : Str → Option Value} {s : Shared} {fs : Tab} {P : Prog} {fa a : Addr} {us : List Value} {is : List Int} {E : Value → Shared → Prop} {okb : Bool}
    (T : Top p loose mean mg mb s.heap) (hmg : mg (Str.ofString "law") = some (.ref fa)) (hL : s.heap.IsList a us.toArray) (hI : IntsAre us is) (hlen : is.length ≤ 63) (ok : progCheck p fs P = true) (ok2 : nameCheck p loose = true)
    (hgl : ∀ x v, P.glob x = some v → ∃ u, mg (Str.ofString x) = some u ∧ VR [] v u) (hlaw : "law" ∈ fs.fns) (hcls : ∀ c ∈ fs.excs, specOf p (Str.ofString c) = some ("ValueError.__new__", excBm))
    (hB : Bases (fs.excs.filter (· != "BedError")) s.heap)
    (hIn : ∀ c ∈ fs.cls, ∃ fn r o fd body, P.fn (c ++ ".__init__") = some fn ∧ InitAt mg s.heap c r ∧ FnOK fs ["self"] s.heap fn r o fd body)
    (hO : InnOk mg s.heap)
    (hMe : ∀ cm ∈ fs.meths, ∃ fn r o fd body, P.fn (cm.1 ++ "." ++ cm.2) = some fn ∧ MethAt mg s.heap cm.1 cm.2 r ∧ FnOK fs [] s.heap fn r o fd body)
    (main : ∀ is : List Int, is.length ≤ 63 → callN P okb 200 "law" [.ref 0] [.frozen (is.map .int)] (fun v _ => v = .bool true) (fun _ _ => False)) :
    wpAny (model prog w) callerA (call (.ref fa) [.ref a]) (fun v s' => v = .bool true ∧ (∀ b o, s.heap.get? b = some o → s'.heap.get? b = some o) ∧ s'.os = s.os ∧ s'.gens = s.gens) E s := by
  have N := names_of_top T ok ok2 hgl hcls
    hB
    (fun c hc => let ⟨_, r, _, _, _, _, x, _⟩ := hIn c hc; ⟨r, x⟩)
    hO
  have K : Backed P fs mg s.heap := ⟨fns_of_top T ok, fun c hc => let ⟨fn, r, o, fd, body, a, x, y⟩ := hIn c hc; ⟨fn, r, o, fd, body, a, fun _ z => MethAt.uniq x z, y⟩, fun cm hc => let ⟨fn, r, o, fd, body, a, x, y⟩ := hMe cm hc; ⟨fn, r, o, fd, body, a, fun _ z => x.uniq z, y⟩⟩
  obtain ⟨o, ho, hc, n, hd⟩ := hL
  have hf := frozen_ints hI
  refine wpAny_mono ((callOK (prog := prog) (w := w) N K 200).1 "law" hlaw fa hmg _ _ _ _ (main is hlen) callerA [a] s E [.ref a] ⟨rfl, by decide, by decide⟩ ?_ (.cons (.ref rfl) .nil) ⟨[], rfl, fun _ he => by cases he⟩ fun _ _ _ _ _ hx => hx.elim) (fun v s' q => ?_) fun _ _ e => e
  · refine ⟨fun _ _ e => e, by simp, .cons (.frozen ho hc hd (VRs.mono (List.nil_prefix) hf) ?_) .nil⟩
    rw [List.length_map]; exact Nat.le_trans hlen (by decide)
  · obtain ⟨β', v', H', e, t, sr, vr⟩ := q
    subst e
    cases vr
    obtain ⟨h', tk, rfl⟩ := t.same
    exact ⟨rfl, sr.kept, rfl, rfl⟩

theorem glob_int {p : Program} {loose : List Str} {mean : ExcName → Option Value} {mg mb : Str → Option Value} {h : Heap} (T : Top p loose mean mg mb h) {x : Str} {i : Int} (e : valOf p x = some (.int i)) : ∃ u, mg x = some u ∧ VR [] (.int i) u := by
  obtain ⟨v, hv, hr⟩ := T.const x _ e
  have := hr h
  cases this with
  | int i t => exact ⟨_, hv, .int i t⟩
end Mine

namespace Mine
open PySem

theorem wFor_ind {G : Hp → Prop} {step : V → Env → Hp → SPost → Prop} {k : SPost} (I : List V → Env → Hp → Prop)
    (hstep : ∀ v rest ρ H, I (v :: rest) ρ H → G H ∧ ∀ k' : SPost, (∀ ρ' H', I rest ρ' H' → k' none ρ' H') → (∀ r ρ' H', k (some r) ρ' H' → k' (some r) ρ' H') → step v ρ H k')
    (hend : ∀ ρ H, I [] ρ H → G H ∧ k none ρ H) : ∀ {vs : List V} {ρ : Env} {H : Hp}, I vs ρ H → wFor G step vs ρ H k
  | [], ρ, H, h => by unfold wFor; exact hend ρ H h
  | v :: vs, ρ, H, h => by
    unfold wFor
    obtain ⟨g, hs⟩ := hstep v vs ρ H h
    exact ⟨g, hs _ (fun ρ' H' hI => wFor_ind I hstep hend hI) fun r ρ' H' hk => hk⟩

theorem wLoop_ind {G : Hp → Prop} {step : V → Hp → (Option V → Hp → Prop) → Prop} {k : List V → Hp → Prop} (I : List V → List V → Hp → Prop)
    (hstep : ∀ v rest acc H, I (v :: rest) acc H → G H ∧ ∀ k' : Option V → Hp → Prop, (∀ u H', I rest (acc ++ [u]) H' → k' (some u) H') → (∀ H', I rest acc H' → k' none H') → step v H k')
    (hend : ∀ acc H, I [] acc H → G H ∧ k acc H) : ∀ {vs acc : List V} {H : Hp}, I vs acc H → wLoop G step vs acc H k
  | [], acc, H, h => by unfold wLoop; exact hend acc H h
  | v :: vs, acc, H, h => by
    unfold wLoop
    obtain ⟨g, hs⟩ := hstep v vs acc H h
    exact ⟨g, hs _ (fun u H' hI => wLoop_ind I hstep hend hI) fun H' hI => wLoop_ind I hstep hend hI⟩

theorem wWhile_ind {test : Env → Hp → (Bool → Hp → Prop) → Prop} {body : Env → Hp → SPost → Prop} {k : SPost} (I : Nat → Env → Hp → Prop)
    (hstep : ∀ m ρ H, I m ρ H → ∀ k' : SPost, (∀ m' ρ' H', m' < m → I m' ρ' H' → k' none ρ' H') → (∀ r ρ' H', k (some r) ρ' H' → k' (some r) ρ' H') → test ρ H fun b H1 => wIf b (body ρ H1 k') (k none ρ H1)) :
    ∀ {n m : Nat} {ρ : Env} {H : Hp}, m < n → I m ρ H → wWhile test body n ρ H k
  | 0, _, _, _, hm, _ => absurd hm (Nat.not_lt_zero _)
  | n + 1, m, ρ, H, hm, h => by
    unfold wWhile
    exact hstep m ρ H h _ (fun m' ρ' H' hl hI => wWhile_ind I hstep (by omega) hI) fun r ρ' H' hk => hk
theorem wWhile_ex {test : Env → Hp → (Bool → Hp → Prop) → Prop} {body : Env → Hp → SPost → Prop} {k : SPost} (I : Nat → Env → Hp → Prop) {m : Nat} {ρ : Env} {H : Hp} (h : I m ρ H)
    (hstep : ∀ m ρ H, I m ρ H → ∀ k' : SPost, (∀ m' ρ' H', m' < m → I m' ρ' H' → k' none ρ' H') → (∀ r ρ' H', k (some r) ρ' H' → k' (some r) ρ' H') → test ρ H fun b H1 => wIf b (body ρ H1 k') (k none ρ H1)) :
    ∃ n, wWhile test body n ρ H k := ⟨m + 1, wWhile_ind I hstep (Nat.lt_succ_self m) h⟩

theorem pre_get {H H' : Hp} (hp : H <+: H') {a : Nat} {o : O} (h : H[a]? = some o) : H'[a]? = some o := by
  obtain ⟨t, rfl⟩ := hp
  rw [List.getElem?_append_left (List.getElem?_eq_some_iff.mp h).1]; exact h
theorem pre_new (H : Hp) (o : O) : H <+: H ++ [o] := List.prefix_append _ _
theorem get_new (H : Hp) (o : O) : (H ++ [o])[H.length]? = some o := by simp

theorem seqOf_list {H : Hp} {a : Nat} {xs : List V} (h : H[a]? = some (.list xs)) : seqOf H a = some xs := by unfold seqOf; rw [h]

theorem wIf_t {p q : Prop} : wIf true p q = p := by unfold wIf; simp
theorem wIf_f {p q : Prop} : wIf false p q = q := by unfold wIf; simp


theorem wSs_step {C : Ctx} {s : S} {ss : List S} {ρ : Env} {H : Hp} {k : SPost} {X : SXP} (h : ∀ K : SPost, (∀ ρ' H', wSs C ss ρ' H' k X → K none ρ' H') → (∀ v ρ' H', k (some v) ρ' H' → K (some v) ρ' H') → wS C s ρ H K X) : wSs C (s :: ss) ρ H k X := by
  rw [ss_cons]
  exact h _ (fun _ _ q => q) fun _ _ _ q => q

theorem add_ii (H : Hp) (i j : Int) : addV (.int i) (.int j) H = some (.int (i + j), H) := rfl
theorem less_ii (H : Hp) (i j : Int) : lessV H (.int i) (.int j) = some (decide (i < j)) := rfl
theorem dq_ii (i j : Int) : PyData.eqv (.int i) (.int j) = (i == j) := rfl
theorem dq_nn : PyData.eqv .none .none = true := rfl
theorem dq_in (i : Int) : PyData.eqv (.int i) .none = false := rfl
theorem dq_ni (i : Int) : PyData.eqv .none (.int i) = false := rfl
theorem dq_bb (i j : Bool) : PyData.eqv (.bool i) (.bool j) = (i == j) := rfl
theorem dq_ss (x y : Str) : PyData.eqv (.str x) (.str y) = (x == y) := rfl
theorem dq_ll (x y : List PyData) : PyData.eqv (.list x) (.list y) = PyData.eqvAll x y := rfl
theorem dq_tt (x y : List PyData) : PyData.eqv (.tuple x) (.tuple y) = PyData.eqvAll x y := rfl
theorem da_nn : PyData.eqvAll [] [] = true := rfl
theorem da_cc (x y : PyData) (xs ys : List PyData) : PyData.eqvAll (x :: xs) (y :: ys) = (PyData.eqv x y && PyData.eqvAll xs ys) := rfl
theorem da_nc (y : PyData) (ys : List PyData) : PyData.eqvAll [] (y :: ys) = false := rfl
theorem da_cn (y : PyData) (ys : List PyData) : PyData.eqvAll (y :: ys) [] = false := rfl
theorem cl_n : PyData.canLay0 .none = true := rfl
theorem cl_b (b : Bool) : PyData.canLay0 (.bool b) = true := rfl
theorem cl_i (i : Int) : PyData.canLay0 (.int i) = true := rfl
theorem cl_s (x : Str) : PyData.canLay0 (.str x) = PyData.strOk x := rfl
theorem cl_l (x : List PyData) : PyData.canLay0 (.list x) = PyData.canLayAll0 x := rfl
theorem cl_t (x : List PyData) : PyData.canLay0 (.tuple x) = PyData.canLayAll0 x := rfl
theorem ca_n : PyData.canLayAll0 [] = true := rfl
theorem ca_c (x : PyData) (xs : List PyData) : PyData.canLayAll0 (x :: xs) = (PyData.canLay0 x && PyData.canLayAll0 xs) := rfl
theorem rd_n {n : Nat} {H : Hp} : readD n H .none = some .none := by cases n <;> rfl
theorem rd_b {n : Nat} {H : Hp} {b : Bool} : readD n H (.bool b) = some (.bool b) := by cases n <;> rfl
theorem rd_i {n : Nat} {H : Hp} {i : Int} : readD n H (.int i) = some (.int i) := by cases n <;> rfl
theorem rd_s {n : Nat} {H : Hp} {x : Str} : readD n H (.str x) = some (.str x) := by cases n <;> rfl
theorem rd_r {n : Nat} {H : Hp} {a : Nat} : readD (n + 1) H (.ref a) = match H[a]? with
    | some (.list xs) => (xs.mapM (readD n H)).map .list
    | some (.frozen xs) => (xs.mapM (readD n H)).map .list
    | some (.tuple xs) => (xs.mapM (readD n H)).map .tuple
    | _ => none := rfl
theorem eqD_of {H : Hp} {a b : V} {x y : PyData} (ha : readD 8 H a = some x) (hb : readD 8 H b = some y) (cx : x.canLay0 = true) (cy : y.canLay0 = true) : eqD H a b = some (PyData.eqv x y) := by
  unfold eqD; rw [ha, hb]; show (if (x.canLay0 && y.canLay0) = true then _ else _) = _; rw [cx, cy]; rfl
theorem eqD_ii (H : Hp) (i j : Int) : eqD H (.int i) (.int j) = some (i == j) := eqD_of rd_i rd_i rfl rfl
theorem eqD_in (H : Hp) (i : Int) : eqD H (.int i) .none = some false := eqD_of rd_i rd_n rfl rfl
theorem eqD_ni (H : Hp) (i : Int) : eqD H .none (.int i) = some false := eqD_of rd_n rd_i rfl rfl
theorem eqD_nn (H : Hp) : eqD H .none .none = some true := eqD_of rd_n rd_n rfl rfl
theorem eqD_bb (H : Hp) (i j : Bool) : eqD H (.bool i) (.bool j) = some (i == j) := eqD_of rd_b rd_b rfl rfl
theorem is_int (i : Int) : isSame (.int i) .none = some false := by simp [isSame]
theorem is_none : isSame .none .none = some true := by simp [isSame]
theorem is_bool (b : Bool) : isSame (.bool b) .none = some false := by simp [isSame]

theorem mapM_asInt : ∀ (is : List Int), (is.map V.int).mapM asInt = some is
  | [] => rfl
  | i :: is => by rw [List.map_cons, List.mapM_cons, mapM_asInt is]; rfl

theorem mapM_read (n : Nat) (H : Hp) : ∀ (is : List Int), (is.map V.int).mapM (readD n H) = some (is.map PyData.int)
  | [] => rfl
  | i :: is => by rw [List.map_cons, List.mapM_cons, mapM_read n H is]; cases n <;> rfl

theorem canLay_ints : ∀ (is : List Int), PyData.canLayAll0 (is.map PyData.int) = true
  | [] => rfl
  | i :: is => by rw [List.map_cons, ca_c, canLay_ints is]; rfl

theorem inD_ints (H : Hp) (x : Int) (is : List Int) : inD H (.int x) (is.map .int) = some (decide (x ∈ is)) := by
  unfold inD
  rw [mapM_read]
  simp only [rd_n, rd_b, rd_i, rd_s, rd_r, canLay_ints, cl_n, cl_b, cl_i, cl_s, cl_l, cl_t, Bool.and_self, if_true, Option.some.injEq]
  rw [List.any_map]
  induction is with
  | nil => rfl
  | cons i is ih =>
    rw [List.any_cons, ih]
    simp only [Function.comp, dq_ii, dq_nn, dq_in, dq_ni, dq_bb, dq_ss, dq_ll, dq_tt, List.mem_cons]
    by_cases e : i = x
    · subst e; simp
    · have : x ≠ i := fun q => e q.symm
      simp [e, this]

noncomputable def LI (H : Hp) (a : Nat) (is : List Int) : Prop := H[a]? = some (.list (is.map .int))
theorem LI.pre {H H' : Hp} {a : Nat} {is : List Int} (h : LI H a is) (hp : H <+: H') : LI H' a is := pre_get hp h
theorem LI.mem {H : Hp} {a : Nat} {is : List Int} (h : LI H a is) (x : Int) : Mine.mem H (.int x) (.ref a) = some (decide (x ∈ is)) := by
  exact (mem_ref h).trans (inD_ints H x is)
theorem LI.seq {H : Hp} {a : Nat} {is : List Int} (h : LI H a is) : seqOf H a = some (is.map .int) := seqOf_list h
theorem normIdx_nat {i n : Nat} (h : i < n) : normIdx (i : Int) n = some i := by
  unfold normIdx
  have e : ¬ (i : Int) < 0 := by omega
  simp only [e, if_false]
  rw [if_pos ⟨by omega, by omega⟩]
  simp
theorem setAt_nat {xs : List V} {i : Nat} (h : i < xs.length) (v : V) : setAtV xs (i : Int) v = some (xs.set i v) := by
  unfold setAtV
  rw [if_pos ⟨by omega, by omega⟩]; simp
theorem set_seq {H : Hp} {a : Nat} {xs : List V} {i : Nat} (h : H[a]? = some (.list xs)) (hi : i < xs.length) (v : V) : setV (.ref a) (.int (i : Int)) v H = some (H.set a (.list (xs.set i v))) := by
  simp only [setV, h, setAt_nat hi, Option.map]
theorem item_seq {H : Hp} {a : Nat} {xs : List V} {i : Nat} {v : V} (h : seqOf H a = some xs) (hi : xs[i]? = some v) : itemV (.ref a) (.int (i : Int)) H = some v := by
  unfold itemV
  have hl := (List.getElem?_eq_some_iff.mp hi).1
  simp [h, normIdx_nat hl, hi]
theorem LI.item {H : Hp} {a : Nat} {is : List Int} (h : LI H a is) {i : Nat} {x : Int} (hi : is[i]? = some x) : itemV (.ref a) (.int (i : Int)) H = some (.int x) :=
  item_seq h.seq (by rw [List.getElem?_map, hi]; rfl)

theorem cut_to {α : Type} (xs : List α) (i : Nat) : cut xs none (some (i : Int)) = xs.take i := by
  unfold cut clampIdx
  have e : ¬ (i : Int) < 0 := by omega
  simp only [Option.elim, e, if_false, List.drop_zero, Nat.sub_zero]
  by_cases h : i ≤ xs.length
  · congr 1; omega
  · rw [List.take_of_length_le (by omega), List.take_of_length_le (by omega)]
theorem LI.sliceTo {H : Hp} {a : Nat} {is : List Int} (h : LI H a is) (i : Nat) : sliceV (.ref a) none (some (i : Int)) H = some (.ref H.length, H ++ [.list ((is.take i).map .int)]) := by
  rw [sl_ref h, cut_to, List.map_take]
theorem LI.new (H : Hp) (is : List Int) : LI (H ++ [.list (is.map .int)]) H.length is := get_new H _

noncomputable def WH (H : Hp) (w : Nat) (W : List (List Int)) : Prop := ∃ rs : List V, H[w]? = some (.list rs) ∧ All2 (fun r is => ∃ b, r = .ref b ∧ LI H b is) rs W
theorem WH.pre {H H' : Hp} {a : Nat} {W : List (List Int)} (h : WH H a W) (hp : H <+: H') : WH H' a W :=
  let ⟨rs, h1, h2⟩ := h; ⟨rs, pre_get hp h1, h2.mono fun _ _ ⟨b, e, q⟩ => ⟨b, e, q.pre hp⟩⟩
theorem WH.item {H : Hp} {w : Nat} {W : List (List Int)} (h : WH H w W) {i : Nat} {row : List Int} (hi : W[i]? = some row) : ∃ b, itemV (.ref w) (.int (i : Int)) H = some (.ref b) ∧ LI H b row := by
  obtain ⟨rs, h1, h2⟩ := h
  obtain ⟨r, hr, b, rfl, hl⟩ := h2.get' hi
  exact ⟨b, item_seq (seqOf_list h1) hr, hl⟩
theorem WH.len {H : Hp} {w : Nat} {W : List (List Int)} (h : WH H w W) : lenV (.ref w) H = some (W.length : Int) := by
  obtain ⟨rs, h1, h2⟩ := h
  unfold lenV; simp [seqOf_list h1, h2.length]
theorem LI.len {H : Hp} {w : Nat} {W : List Int} (h : LI H w W) : lenV (.ref w) H = some (W.length : Int) := by
  unfold lenV; simp [h.seq]
theorem LI.isList {H : Hp} {w : Nat} {W : List Int} (h : LI H w W) : isInst (.ref w) ["list"] H = some true := by
  unfold LI at h; simp [isInst, isObj, typesOf, h]
theorem WH.isList {H : Hp} {w : Nat} {W : List (List Int)} (h : WH H w W) : isInst (.ref w) ["list"] H = some true := by
  obtain ⟨rs, h1, h2⟩ := h
  simp [isInst, isObj, typesOf, h1]
theorem inst_int (i : Int) (H : Hp) : isInst (.int i) ["int"] H = some true := by simp [isInst, isObj, typesOf]
theorem inst_int_b (i : Int) (H : Hp) : isInst (.int i) ["bool"] H = some false := by simp [isInst, isObj, typesOf]
theorem inst_bool_b (i : Bool) (H : Hp) : isInst (.bool i) ["bool"] H = some true := by simp [isInst, isObj, typesOf]

theorem recvL {H : Hp} {a : Nat} {xs : List V} (h : H[a]? = some (.list xs)) : recvOk .append (.ref a) H = true ∧ recvOk .pop (.ref a) H = true ∧ recvOk .index (.ref a) H = true := by
  simp [recvOk, h]

theorem lim0 : (0 ≤ lim) = True := by simp
theorem lim1 : (0 + 1 ≤ lim) = True := by simp [lim]
theorem lim2 : (0 + 1 + 1 ≤ lim) = True := by simp [lim]
theorem lim3 : (0 + 1 + 1 + 1 ≤ lim) = True := by simp [lim]

noncomputable def rng (n : Nat) : List V := (List.range n).map fun k : Nat => V.int (k : Int)
theorem rangeI_rng (n : Nat) : (rangeI 0 (n : Int) 1).map V.int = rng n := by
  unfold rangeI rng
  rw [List.map_map]
  have : (if (0 : Int) < n then ((n : Int) - 0 - 1) / 1 + 1 else 0).toNat = n := by split <;> omega
  rw [this]
  refine List.map_congr_left fun k _ => ?_
  simp
theorem rng_len (n : Nat) : (rng n).length = n := by simp [rng]
theorem rng_get {n i : Nat} {v : V} (h : (rng n)[i]? = some v) : i < n ∧ v = .int (i : Int) := by
  unfold rng at h
  rw [List.getElem?_map] at h
  obtain ⟨j, hj, rfl⟩ := Option.map_eq_some_iff.mp h
  obtain ⟨hl, e⟩ := List.getElem?_eq_some_iff.mp hj
  simp at hl e; subst e; exact ⟨hl, rfl⟩
theorem range_nat {n : Nat} (h : n ≤ lim) : rangeOf [.int (n : Int)] = some (rangeI 0 (n : Int) 1) := by
  unfold rangeOf; simp [h]

theorem wFor_idx {G : Hp → Prop} {step : V → Env → Hp → SPost → Prop} {k : SPost} {vs : List V} (I : Nat → Env → Hp → Prop) {ρ : Env} {H : Hp} (h0 : I 0 ρ H)
    (hstep : ∀ i v ρ H, vs[i]? = some v → I i ρ H → G H ∧ ∀ k' : SPost, (∀ ρ' H', I (i + 1) ρ' H' → k' none ρ' H') → (∀ r ρ' H', k (some r) ρ' H' → k' (some r) ρ' H') → step v ρ H k')
    (hend : ∀ ρ H, I vs.length ρ H → G H ∧ k none ρ H) : wFor G step vs ρ H k := by
  refine wFor_ind (fun rest ρ H => ∃ i, rest = vs.drop i ∧ i ≤ vs.length ∧ I i ρ H) (fun v rest ρ H h => ?_) (fun ρ H h => ?_) ⟨0, by simp, by simp, h0⟩
  · obtain ⟨i, e, hi, hI⟩ := h
    have hv : vs[i]? = some v := by
      have : (vs.drop i)[0]? = some v := by rw [← e]; rfl
      simpa using this
    obtain ⟨g, hs⟩ := hstep i v ρ H hv hI
    refine ⟨g, fun k' h1 h2 => hs k' (fun ρ' H' hI' => h1 ρ' H' ⟨i + 1, ?_, (List.getElem?_eq_some_iff.mp hv).1, hI'⟩) h2⟩
    have : rest = (v :: rest).drop 1 := rfl
    rw [this, e, List.drop_drop]
  · obtain ⟨i, e, hi, hI⟩ := h
    have : vs.length ≤ i := by
      have := congrArg List.length e
      simp at this; omega
    have : i = vs.length := by omega
    subst this
    exact hend ρ H hI

theorem wLoop_idx {G : Hp → Prop} {step : V → Hp → (Option V → Hp → Prop) → Prop} {k : List V → Hp → Prop} {vs : List V} (I : Nat → List V → Hp → Prop) {H : Hp} (h0 : I 0 [] H)
    (hstep : ∀ i v acc H, vs[i]? = some v → I i acc H → G H ∧ ∀ k' : Option V → Hp → Prop, (∀ u H', I (i + 1) (acc ++ [u]) H' → k' (some u) H') → (∀ H', I (i + 1) acc H' → k' none H') → step v H k')
    (hend : ∀ acc H, I vs.length acc H → G H ∧ k acc H) : wLoop G step vs [] H k := by
  refine wLoop_ind (fun rest acc H => ∃ i, rest = vs.drop i ∧ i ≤ vs.length ∧ I i acc H) (fun v rest acc H h => ?_) (fun acc H h => ?_) ⟨0, by simp, by simp, h0⟩
  · obtain ⟨i, e, hi, hI⟩ := h
    have hv : vs[i]? = some v := by
      have : (vs.drop i)[0]? = some v := by rw [← e]; rfl
      simpa using this
    obtain ⟨g, hs⟩ := hstep i v acc H hv hI
    have hd : rest = vs.drop (i + 1) := by
      have : rest = (v :: rest).drop 1 := rfl
      rw [this, e, List.drop_drop]
    exact ⟨g, fun k' h1 h2 => hs k' (fun u H' hI' => h1 u H' ⟨i + 1, hd, (List.getElem?_eq_some_iff.mp hv).1, hI'⟩) fun H' hI' => h2 H' ⟨i + 1, hd, (List.getElem?_eq_some_iff.mp hv).1, hI'⟩⟩
  · obtain ⟨i, e, hi, hI⟩ := h
    have : vs.length ≤ i := by
      have := congrArg List.length e
      simp at this; omega
    have : i = vs.length := by omega
    subst this
    exact hend acc H hI

theorem wSs_cons {C : Ctx} {s : S} {ss : List S} {ρ : Env} {H : Hp} {k : SPost} {X : SXP} (h : wS C s ρ H (fun r ρ1 H1 => kS r (wSs C ss ρ1 H1 k X) fun v => k (some v) ρ1 H1) X) : wSs C (s :: ss) ρ H k X := h
theorem wSs_nil {C : Ctx} {ρ : Env} {H : Hp} {k : SPost} {X : SXP} (h : k none ρ H) : wSs C [] ρ H k X := h

theorem callN_in {P : Prog} {ok : Bool} {n : Nat} {f : String} {fn : Fn} {vs : List V} {H : Hp} {Q : Post} {X : XP} (h : P.fn f = some fn) (hl : fn.params.length = vs.length)
    (hb : wSs ⟨ok, callN P ok n, P.glob⟩ fn.body (bindP fn.params vs) H (fun r _ H' => Q (r.getD .none) H') X) : callN P ok (n + 1) f vs H Q X := by
  show oE (P.fn f) _
  rw [h]; exact ⟨hl, hb⟩

end Mine
open Mine renaming s_assign → ZA, s_setItem → ZB, s_expr → ZC, s_ret → ZD, s_retN → ZE, s_ite → ZF, s_forR → ZG, s_forS → ZH, s_while → ZI, s_raise → ZJ, s_try → ZK, e_none → ZL, e_bool → ZM, e_int → ZN, e_str → ZO, e_var → ZP, e_glob → ZQ, e_op → ZR, e_mcall → ZS, e_and → ZT, e_or → ZU, e_not → ZV, e_chain → ZW, e_call → ZX, e_compR → ZY, e_compS → ZZ, es_nil → Za, es_cons → Zb, and_nil → Zc, and_cons → Zd, or_nil → Ze, or_cons → Zf, wP → Zg, b_bool → Zh, p_bin → Zi, p_negI → Zj, p_cmpP → Zk, p_len → Zl, p_inst → Zm, p_listP → Zn, p_tupleP → Zo, p_intP → Zp, p_itemP → Zq, p_slTo → Zr, p_slFrom → Zs, p_mkL → Zt, p_mkT → Zu, p_mkD → Zv, p_attrP → Zw, p_lr → Zx, p_app → Zy, p_popP → Zz, p_idx → YA, bin_add → YB, bin_sub → YC, bin_mul → YD, bin_mod → YE, bin_fdiv → YF, cmp_eq → YG, cmp_ne → YH, cmp_lt → YI, cmp_le → YJ, cmp_gt → YK, cmp_is → YL, cmp_isnt → YM, cmp_in → YN, cmp_out → YO, putNew → YP, t_one → YQ, bp_cons → YR, bp_nil → YS, add_ii → YX, less_ii → YY, oE_some → YZ, kS_none → Ya, kS_some → Yb, os_ref → Yc, wIf_t → Yh, wIf_f → Yi, eqD_ii → Yl, eqD_in → Ym, eqD_ni → Yn, eqD_nn → Yo, eqD_bb → Yp, is_int → Yq, is_none → Yr, is_bool → Yt, inst_int → Yu, inst_int_b → Yv, inst_bool_b → Yw, rangeI_rng → Yx, lim0 → Yy, lim1 → Yz, lim2 → XA, lim3 → XB, ss_nil → XK, ss_cons → XL, wSs_cons → XM, wSs_nil → XN
open Option renaming map_some → YT, map_none → YU, bind_some → YV, bind_none → YW, getD_some → Yd, getD_none → Ye, elim_some → Yf, elim_none → Yg
open Bool renaming not_true → Yj, not_false → Yk, true_and → XD, false_and → XE, true_or → XF, false_or → XG
open List renaming length_nil → XH, length_cons → XI, length_map → XJ

namespace Mine
open PySem
section
variable {P : Prog} {ok : Bool} {n : Nat} {H : Hp} {Q : Post} {X : XP}

theorem s_is_guest (hP : P.fn "is_guest" = some f_is_guest) {i m : Int} (h : Q (.bool (decide (0 ≤ i ∧ i < m))) H) : callN P ok (n + 1) "is_guest" [.int i, .int m] H Q X := by
  (refine callN_in hP rfl ?_; unfold f_is_guest)
  (repeat (first | dsimp only [XK, XL] | dsimp only [ZA,ZB,ZC,ZD,ZE,ZF,ZG,ZH,ZI,ZJ,ZK,ZL,ZM,ZN,ZO,ZP,ZQ,ZR,ZS,ZT,ZU,ZV,ZW,ZX,ZY,ZZ,Za,Zb,Zc,Zd,Ze,Zf,Zg,Zh,Zi,Zj,Zk,Zl,Zm,Zn,Zo,Zp,Zq,Zr,Zs,Zt,Zu,Zv,Zw,Zx,Zy,Zz,YA,YB,YC,YD,YE,YF,YG,YH,YI,YJ,YK,YL,YM,YN,YO,YP,YQ,YR,YS,Env.set,cond_true,cond_false,String.reduceBEq,YT,YU,YV,YW,YX,YY,YZ,Ya,Yb,Yc,Yd,Ye,Yf,Yg] | simp only [Yh,Yi,true_and,Yj,Yk,Yl,Ym,Yn,Yo,Yp,Yq,Yr,Yt,Yu,Yv,Yw,Yx,Yy,Yz,XA,XB,XD,XE,XF,XG,beq_self_eq_true,reduceIte,reduceCtorEq,↓reduceIte,XH,XI,XJ]))
  have key : ∀ b, decide (0 ≤ i ∧ i < m) = b → Q (.bool b) H := fun b e => e ▸ h
  refine ⟨fun h1 => ⟨fun h2 => key _ ?_, fun h2 => key _ ?_⟩, fun h1 => key _ ?_⟩ <;> simp at h1 <;> (try simp at h2) <;> simp <;> omega

structure RowOk (row : List Int) (g m : Int) : Prop where
  low : ∀ x ∈ row, 0 ≤ x ∧ x < m
  ne : g ∉ row
  nodup : row.Nodup
  len : row.length ≤ 6

theorem s_is_row (hP : P.fn "is_row" = some f_is_row) (hP1 : P.fn "is_guest" = some f_is_guest) {r : Nat} {row : List Int} {g m : Int} (hr : LI H r row) (ok : RowOk row g m)
    (h : ∀ H', H <+: H' → Q (.bool true) H') : callN P b (n + 2) "is_row" [.ref r, .int g, .int m] H Q X := by
  have hl : row.length ≤ lim := Nat.le_trans ok.len (by decide)
  (refine callN_in hP rfl ?_; unfold f_is_row)
  (repeat (first | dsimp only [XK, XL] | dsimp only [ZA,ZB,ZC,ZD,ZE,ZF,ZG,ZH,ZI,ZJ,ZK,ZL,ZM,ZN,ZO,ZP,ZQ,ZR,ZS,ZT,ZU,ZV,ZW,ZX,ZY,ZZ,Za,Zb,Zc,Zd,Ze,Zf,Zg,Zh,Zi,Zj,Zk,Zl,Zm,Zn,Zo,Zp,Zq,Zr,Zs,Zt,Zu,Zv,Zw,Zx,Zy,Zz,YA,YB,YC,YD,YE,YF,YG,YH,YI,YJ,YK,YL,YM,YN,YO,YP,YQ,YR,YS,Env.set,cond_true,cond_false,String.reduceBEq,YT,YU,YV,YW,YX,YY,YZ,Ya,Yb,Yc,Yd,Ye,Yf,Yg] | simp only [Yh,Yi,true_and,Yj,Yk,Yl,Ym,Yn,Yo,Yp,Yq,Yr,Yt,Yu,Yv,Yw,Yx,Yy,Yz,XA,XB,XD,XE,XF,XG,beq_self_eq_true,reduceIte,reduceCtorEq,↓reduceIte,XH,XI,XJ, hr.isList, hr.len, range_nat hl]))
  refine wFor_idx (fun i ρ H' => H <+: H' ∧ ρ "row" = some (.ref r) ∧ ρ "guest" = some (.int g) ∧ ρ "many" = some (.int m)) ⟨List.prefix_refl _, rfl, rfl, rfl⟩ (fun i v ρ H' hv hI => ⟨trivial, fun k' h1 h2 => ?_⟩) fun ρ H' hI => ⟨trivial, ?_⟩
  · obtain ⟨hi, rfl⟩ := rng_get hv
    obtain ⟨hp, e1, e2, e3⟩ := hI
    have hr' := hr.pre hp
    obtain ⟨x, hx⟩ : ∃ x, row[i]? = some x := ⟨_, List.getElem?_eq_getElem hi⟩
    (repeat (first | dsimp only [XK, XL] | dsimp only [ZA,ZB,ZC,ZD,ZE,ZF,ZG,ZH,ZI,ZJ,ZK,ZL,ZM,ZN,ZO,ZP,ZQ,ZR,ZS,ZT,ZU,ZV,ZW,ZX,ZY,ZZ,Za,Zb,Zc,Zd,Ze,Zf,Zg,Zh,Zi,Zj,Zk,Zl,Zm,Zn,Zo,Zp,Zq,Zr,Zs,Zt,Zu,Zv,Zw,Zx,Zy,Zz,YA,YB,YC,YD,YE,YF,YG,YH,YI,YJ,YK,YL,YM,YN,YO,YP,YQ,YR,YS,Env.set,cond_true,cond_false,String.reduceBEq,YT,YU,YV,YW,YX,YY,YZ,Ya,Yb,Yc,Yd,Ye,Yf,Yg] | simp only [Yh,Yi,true_and,Yj,Yk,Yl,Ym,Yn,Yo,Yp,Yq,Yr,Yt,Yu,Yv,Yw,Yx,Yy,Yz,XA,XB,XD,XE,XF,XG,beq_self_eq_true,reduceIte,reduceCtorEq,↓reduceIte,XH,XI,XJ, e1, e2, e3, hr'.item hx]))
    refine s_is_guest hP1 ?_
    have hxm := List.mem_of_getElem? hx
    have q1 : decide (0 ≤ x ∧ x < m) = true := by simpa using ok.low x hxm
    have q2 : (x == g) = false := by exact beq_eq_false_iff_ne.mpr (fun e => ok.ne (e ▸ hxm))
    have q3 : decide (x ∈ row.take i) = false := by
      simp only [decide_eq_false_iff_not]
      intro hm
      obtain ⟨j, hj, e⟩ := List.mem_iff_getElem.mp hm
      have hj' : j < i := by simp at hj; omega
      rw [List.getElem_take] at e
      obtain ⟨hi', e'⟩ := List.getElem?_eq_some_iff.mp hx
      exact List.pairwise_iff_getElem.mp ok.nodup j i (by omega) hi' hj' (by rw [e, e'])
    (repeat (first | dsimp only [XK, XL] | dsimp only [ZA,ZB,ZC,ZD,ZE,ZF,ZG,ZH,ZI,ZJ,ZK,ZL,ZM,ZN,ZO,ZP,ZQ,ZR,ZS,ZT,ZU,ZV,ZW,ZX,ZY,ZZ,Za,Zb,Zc,Zd,Ze,Zf,Zg,Zh,Zi,Zj,Zk,Zl,Zm,Zn,Zo,Zp,Zq,Zr,Zs,Zt,Zu,Zv,Zw,Zx,Zy,Zz,YA,YB,YC,YD,YE,YF,YG,YH,YI,YJ,YK,YL,YM,YN,YO,YP,YQ,YR,YS,Env.set,cond_true,cond_false,String.reduceBEq,YT,YU,YV,YW,YX,YY,YZ,Ya,Yb,Yc,Yd,Ye,Yf,Yg] | simp only [Yh,Yi,true_and,Yj,Yk,Yl,Ym,Yn,Yo,Yp,Yq,Yr,Yt,Yu,Yv,Yw,Yx,Yy,Yz,XA,XB,XD,XE,XF,XG,beq_self_eq_true,reduceIte,reduceCtorEq,↓reduceIte,XH,XI,XJ, q1, q2, hr'.item hx, hr'.sliceTo i, (LI.new H' (row.take i)).mem x, q3]))
    refine h1 _ _ ⟨hp.trans (pre_new _ _), ?_⟩
    (repeat (first | dsimp only [XK, XL] | dsimp only [ZA,ZB,ZC,ZD,ZE,ZF,ZG,ZH,ZI,ZJ,ZK,ZL,ZM,ZN,ZO,ZP,ZQ,ZR,ZS,ZT,ZU,ZV,ZW,ZX,ZY,ZZ,Za,Zb,Zc,Zd,Ze,Zf,Zg,Zh,Zi,Zj,Zk,Zl,Zm,Zn,Zo,Zp,Zq,Zr,Zs,Zt,Zu,Zv,Zw,Zx,Zy,Zz,YA,YB,YC,YD,YE,YF,YG,YH,YI,YJ,YK,YL,YM,YN,YO,YP,YQ,YR,YS,Env.set,cond_true,cond_false,String.reduceBEq,YT,YU,YV,YW,YX,YY,YZ,Ya,Yb,Yc,Yd,Ye,Yf,Yg] | simp only [Yh,Yi,true_and,Yj,Yk,Yl,Ym,Yn,Yo,Yp,Yq,Yr,Yt,Yu,Yv,Yw,Yx,Yy,Yz,XA,XB,XD,XE,XF,XG,beq_self_eq_true,reduceIte,reduceCtorEq,↓reduceIte,XH,XI,XJ, e1, e2, e3]))
  · (repeat (first | dsimp only [XK, XL] | dsimp only [ZA,ZB,ZC,ZD,ZE,ZF,ZG,ZH,ZI,ZJ,ZK,ZL,ZM,ZN,ZO,ZP,ZQ,ZR,ZS,ZT,ZU,ZV,ZW,ZX,ZY,ZZ,Za,Zb,Zc,Zd,Ze,Zf,Zg,Zh,Zi,Zj,Zk,Zl,Zm,Zn,Zo,Zp,Zq,Zr,Zs,Zt,Zu,Zv,Zw,Zx,Zy,Zz,YA,YB,YC,YD,YE,YF,YG,YH,YI,YJ,YK,YL,YM,YN,YO,YP,YQ,YR,YS,Env.set,cond_true,cond_false,String.reduceBEq,YT,YU,YV,YW,YX,YY,YZ,Ya,Yb,Yc,Yd,Ye,Yf,Yg] | simp only [Yh,Yi,true_and,Yj,Yk,Yl,Ym,Yn,Yo,Yp,Yq,Yr,Yt,Yu,Yv,Yw,Yx,Yy,Yz,XA,XB,XD,XE,XF,XG,beq_self_eq_true,reduceIte,reduceCtorEq,↓reduceIte,XH,XI,XJ]))
    exact h H' hI.1
end

noncomputable def Gives (C : Ctx) (c : E) (ρ : Env) (H : Hp) (X : XP) (b : Bool) : Prop := ∀ Q : Post, Q (.bool b) H → wE C c ρ H Q X
section
variable {C : Ctx} {ρ : Env} {H : Hp} {k : SPost} {X : SXP}
theorem g_eq {x : String} {i j : Int} {b : Bool} (hx : ρ x = some (.int i)) (hb : (i == j) = b) : Gives C (.op (.cmp .eq) [.var x, .int j]) ρ H X b := fun Q hq => by
  subst hb
  show oE (ρ x) _
  rw [hx]; exact hq
theorem g_mod {x : String} {i m j : Int} {b : Bool} (hm : m ≠ 0) (hx : ρ x = some (.int i)) (hb : (i.fmod m == j) = b) : Gives C (.op (.cmp .eq) [.op (.bin .mod) [.var x, .int m], .int j]) ρ H X b := fun Q hq => by
  subst hb
  show oE (ρ x) _
  rw [hx]
  show oE (if m = 0 then none else some (V.int (i.fmod m), H)) _
  rw [if_neg hm]; exact hq
theorem g_and {c d : E} {b : Bool} (h1 : Gives C c ρ H X true) (h2 : Gives C d ρ H X b) : Gives C (.and_ [c, d]) ρ H X b := fun Q hq => h1 _ ⟨fun _ => h2 _ (by cases b <;> exact ⟨fun e => (by first | exact hq | cases e), fun e => (by first | exact hq | cases e)⟩), fun e => by cases e⟩
theorem g_and0 {c d : E} (h1 : Gives C c ρ H X false) : Gives C (.and_ [c, d]) ρ H X false := fun Q hq => h1 _ ⟨fun e => (by cases e), fun _ => hq⟩
theorem if_ret {c e : E} {b ss : List S} (hc : Gives C c ρ H X true) (h : wE C e ρ H (fun v H1 => k (some v) ρ H1) X) : wSs C (.ite c [.ret e] b :: ss) ρ H k X := hc _ ⟨fun _ => h, fun e => (by cases e)⟩
theorem if_go {c : E} {a ss : List S} (hc : Gives C c ρ H X false) (h : wSs C ss ρ H k X) : wSs C (.ite c a [] :: ss) ρ H k X := hc _ ⟨fun e => (by cases e), fun _ => h⟩
theorem wS_go {c : E} {a : List S} (hc : Gives C c ρ H X false) (h : k none ρ H) : wS C (.ite c a []) ρ H k X := hc _ ⟨fun e => (by cases e), fun _ => h⟩
theorem wS_do {c : E} {a b : List S} (hc : Gives C c ρ H X true) (h : wSs C a ρ H k X) : wS C (.ite c a b) ρ H k X := hc _ ⟨fun _ => h, fun e => (by cases e)⟩
theorem for_range {x : String} {args : List E} {body : List S} {vs : List V} {is : List Int} (ha : ∀ Q' : List V → Hp → Prop, Q' vs H → wEs C args ρ H Q' X) (hr : rangeOf vs = some is) (h : wFor (fun _ => True) (fun v ρ' H' k' => wSs C body (ρ'.set x v) H' k' X) (is.map .int) ρ H k) : wS C (.forR x args body) ρ H k X := ha _ (by rw [hr]; exact h)
theorem last_ret {e : E} (h : wE C e ρ H (fun v H1 => k (some v) ρ H1) X) : wSs C [.ret e] ρ H k X := h
theorem if_do {c : E} {a b ss : List S} (hc : Gives C c ρ H X true) (h : wSs C a ρ H (fun r ρ1 H1 => kS r (wSs C ss ρ1 H1 k X) fun v => k (some v) ρ1 H1) X) : wSs C (.ite c a b :: ss) ρ H k X := hc _ ⟨fun _ => h, fun e => (by cases e)⟩
theorem if_raise {c : E} {cl msg : String} {b ss : List S} (hc : Gives C c ρ H X true) (h : X cl H) : wSs C (.ite c [.raise cl msg] b :: ss) ρ H k X := hc _ ⟨fun _ => h, fun e => (by cases e)⟩
theorem g_lt {x : String} {i j : Int} {b : Bool} (hx : ρ x = some (.int i)) (hb : decide (i < j) = b) : Gives C (.op (.cmp .lt) [.var x, .int j]) ρ H X b := fun Q hq => by
  subst hb
  show oE (ρ x) _
  rw [hx]; exact hq
end
end Mine

namespace Mine
open PySem

noncomputable def row (W : List (List Int)) (i : Nat) : List Int := W.getD i []
theorem row_get {W : List (List Int)} {i : Nat} (h : i < W.length) : W[i]? = some (row W i) := by
  unfold row; rw [List.getD_eq_getElem?_getD, List.getElem?_eq_getElem h]; rfl

structure WOk (W : List (List Int)) : Prop where
  pos : 1 ≤ W.length
  le : W.length ≤ 6
  rows : ∀ i, i < W.length → RowOk (row W i) i W.length

section
variable {P : Prog} {b : Bool} {n : Nat} {H : Hp} {Q : Post} {X : XP}

theorem s_need_wishes (hP : P.fn "need_wishes" = some f_need_wishes) (hP1 : P.fn "is_row" = some f_is_row) (hP2 : P.fn "is_guest" = some f_is_guest) (hG : P.glob "MOST_GUESTS" = some (.int 6)) {w : Nat} {W : List (List Int)} (hw : WH H w W) (ok : WOk W)
    (h : ∀ H', H <+: H' → Q .none H') : callN P b (n + 3) "need_wishes" [.ref w] H Q X := by
  have l1 := ok.pos
  have l2 := ok.le
  have hl : W.length ≤ lim := Nat.le_trans ok.le (by decide)
  have d1 : decide ((1 : Int) ≤ (W.length : Int)) = true := decide_eq_true (by omega)
  have d2 : decide ((W.length : Int) ≤ 6) = true := decide_eq_true (by omega)
  (refine callN_in hP rfl ?_; unfold f_need_wishes)
  (repeat (first | dsimp only [XK, XL] | dsimp only [ZA,ZB,ZC,ZD,ZE,ZF,ZG,ZH,ZI,ZJ,ZK,ZL,ZM,ZN,ZO,ZP,ZQ,ZR,ZS,ZT,ZU,ZV,ZW,ZX,ZY,ZZ,Za,Zb,Zc,Zd,Ze,Zf,Zg,Zh,Zi,Zj,Zk,Zl,Zm,Zn,Zo,Zp,Zq,Zr,Zs,Zt,Zu,Zv,Zw,Zx,Zy,Zz,YA,YB,YC,YD,YE,YF,YG,YH,YI,YJ,YK,YL,YM,YN,YO,YP,YQ,YR,YS,Env.set,cond_true,cond_false,String.reduceBEq,YT,YU,YV,YW,YX,YY,YZ,Ya,Yb,Yc,Yd,Ye,Yf,Yg] | simp only [Yh,Yi,true_and,Yj,Yk,Yl,Ym,Yn,Yo,Yp,Yq,Yr,Yt,Yu,Yv,Yw,Yx,Yy,Yz,XA,XB,XD,XE,XF,XG,beq_self_eq_true,reduceIte,reduceCtorEq,↓reduceIte,XH,XI,XJ, hw.isList, hw.len, hG, d1, d2, range_nat hl]))
  refine wFor_idx (fun i ρ H' => H <+: H' ∧ ρ "wishes" = some (.ref w)) ⟨List.prefix_refl _, rfl⟩ (fun i v ρ H' hv hI => ⟨trivial, fun k' h1 h2 => ?_⟩) fun ρ H' hI => ⟨trivial, ?_⟩
  · obtain ⟨hi, rfl⟩ := rng_get hv
    obtain ⟨hp, e1⟩ := hI
    have hw' := hw.pre hp
    obtain ⟨a, hit, hli⟩ := hw'.item (row_get hi)
    (repeat (first | dsimp only [XK, XL] | dsimp only [ZA,ZB,ZC,ZD,ZE,ZF,ZG,ZH,ZI,ZJ,ZK,ZL,ZM,ZN,ZO,ZP,ZQ,ZR,ZS,ZT,ZU,ZV,ZW,ZX,ZY,ZZ,Za,Zb,Zc,Zd,Ze,Zf,Zg,Zh,Zi,Zj,Zk,Zl,Zm,Zn,Zo,Zp,Zq,Zr,Zs,Zt,Zu,Zv,Zw,Zx,Zy,Zz,YA,YB,YC,YD,YE,YF,YG,YH,YI,YJ,YK,YL,YM,YN,YO,YP,YQ,YR,YS,Env.set,cond_true,cond_false,String.reduceBEq,YT,YU,YV,YW,YX,YY,YZ,Ya,Yb,Yc,Yd,Ye,Yf,Yg] | simp only [Yh,Yi,true_and,Yj,Yk,Yl,Ym,Yn,Yo,Yp,Yq,Yr,Yt,Yu,Yv,Yw,Yx,Yy,Yz,XA,XB,XD,XE,XF,XG,beq_self_eq_true,reduceIte,reduceCtorEq,↓reduceIte,XH,XI,XJ, e1, hit, hw'.len]))
    refine s_is_row hP1 hP2 hli (ok.rows i hi) fun H'' hp' => ?_
    (repeat (first | dsimp only [XK, XL] | dsimp only [ZA,ZB,ZC,ZD,ZE,ZF,ZG,ZH,ZI,ZJ,ZK,ZL,ZM,ZN,ZO,ZP,ZQ,ZR,ZS,ZT,ZU,ZV,ZW,ZX,ZY,ZZ,Za,Zb,Zc,Zd,Ze,Zf,Zg,Zh,Zi,Zj,Zk,Zl,Zm,Zn,Zo,Zp,Zq,Zr,Zs,Zt,Zu,Zv,Zw,Zx,Zy,Zz,YA,YB,YC,YD,YE,YF,YG,YH,YI,YJ,YK,YL,YM,YN,YO,YP,YQ,YR,YS,Env.set,cond_true,cond_false,String.reduceBEq,YT,YU,YV,YW,YX,YY,YZ,Ya,Yb,Yc,Yd,Ye,Yf,Yg] | simp only [Yh,Yi,true_and,Yj,Yk,Yl,Ym,Yn,Yo,Yp,Yq,Yr,Yt,Yu,Yv,Yw,Yx,Yy,Yz,XA,XB,XD,XE,XF,XG,beq_self_eq_true,reduceIte,reduceCtorEq,↓reduceIte,XH,XI,XJ]))
    exact h1 _ _ ⟨hp.trans hp', by (repeat (first | dsimp only [XK, XL] | dsimp only [ZA,ZB,ZC,ZD,ZE,ZF,ZG,ZH,ZI,ZJ,ZK,ZL,ZM,ZN,ZO,ZP,ZQ,ZR,ZS,ZT,ZU,ZV,ZW,ZX,ZY,ZZ,Za,Zb,Zc,Zd,Ze,Zf,Zg,Zh,Zi,Zj,Zk,Zl,Zm,Zn,Zo,Zp,Zq,Zr,Zs,Zt,Zu,Zv,Zw,Zx,Zy,Zz,YA,YB,YC,YD,YE,YF,YG,YH,YI,YJ,YK,YL,YM,YN,YO,YP,YQ,YR,YS,Env.set,cond_true,cond_false,String.reduceBEq,YT,YU,YV,YW,YX,YY,YZ,Ya,Yb,Yc,Yd,Ye,Yf,Yg] | simp only [Yh,Yi,true_and,Yj,Yk,Yl,Ym,Yn,Yo,Yp,Yq,Yr,Yt,Yu,Yv,Yw,Yx,Yy,Yz,XA,XB,XD,XE,XF,XG,beq_self_eq_true,reduceIte,reduceCtorEq,↓reduceIte,XH,XI,XJ, e1]))⟩
  · (repeat (first | dsimp only [XK, XL] | dsimp only [ZA,ZB,ZC,ZD,ZE,ZF,ZG,ZH,ZI,ZJ,ZK,ZL,ZM,ZN,ZO,ZP,ZQ,ZR,ZS,ZT,ZU,ZV,ZW,ZX,ZY,ZZ,Za,Zb,Zc,Zd,Ze,Zf,Zg,Zh,Zi,Zj,Zk,Zl,Zm,Zn,Zo,Zp,Zq,Zr,Zs,Zt,Zu,Zv,Zw,Zx,Zy,Zz,YA,YB,YC,YD,YE,YF,YG,YH,YI,YJ,YK,YL,YM,YN,YO,YP,YQ,YR,YS,Env.set,cond_true,cond_false,String.reduceBEq,YT,YU,YV,YW,YX,YY,YZ,Ya,Yb,Yc,Yd,Ye,Yf,Yg] | simp only [Yh,Yi,true_and,Yj,Yk,Yl,Ym,Yn,Yo,Yp,Yq,Yr,Yt,Yu,Yv,Yw,Yx,Yy,Yz,XA,XB,XD,XE,XF,XG,beq_self_eq_true,reduceIte,reduceCtorEq,↓reduceIte,XH,XI,XJ]))
    exact h H' hI.1

theorem s_need_guest (hP : P.fn "need_guest" = some f_need_guest) (hP2 : P.fn "is_guest" = some f_is_guest) {w : Nat} {W : List (List Int)} (hw : WH H w W) {i : Nat} (hi : i < W.length) (h : Q .none H) : callN P b (n + 2) "need_guest" [.ref w, .int (i : Int)] H Q X := by
  (refine callN_in hP rfl ?_; unfold f_need_guest)
  (repeat (first | dsimp only [XK, XL] | dsimp only [ZA,ZB,ZC,ZD,ZE,ZF,ZG,ZH,ZI,ZJ,ZK,ZL,ZM,ZN,ZO,ZP,ZQ,ZR,ZS,ZT,ZU,ZV,ZW,ZX,ZY,ZZ,Za,Zb,Zc,Zd,Ze,Zf,Zg,Zh,Zi,Zj,Zk,Zl,Zm,Zn,Zo,Zp,Zq,Zr,Zs,Zt,Zu,Zv,Zw,Zx,Zy,Zz,YA,YB,YC,YD,YE,YF,YG,YH,YI,YJ,YK,YL,YM,YN,YO,YP,YQ,YR,YS,Env.set,cond_true,cond_false,String.reduceBEq,YT,YU,YV,YW,YX,YY,YZ,Ya,Yb,Yc,Yd,Ye,Yf,Yg] | simp only [Yh,Yi,true_and,Yj,Yk,Yl,Ym,Yn,Yo,Yp,Yq,Yr,Yt,Yu,Yv,Yw,Yx,Yy,Yz,XA,XB,XD,XE,XF,XG,beq_self_eq_true,reduceIte,reduceCtorEq,↓reduceIte,XH,XI,XJ, hw.len]))
  refine s_is_guest hP2 ?_
  have : decide ((0 : Int) ≤ (i : Int) ∧ (i : Int) < (W.length : Int)) = true := decide_eq_true (by omega)
  (repeat (first | dsimp only [XK, XL] | dsimp only [ZA,ZB,ZC,ZD,ZE,ZF,ZG,ZH,ZI,ZJ,ZK,ZL,ZM,ZN,ZO,ZP,ZQ,ZR,ZS,ZT,ZU,ZV,ZW,ZX,ZY,ZZ,Za,Zb,Zc,Zd,Ze,Zf,Zg,Zh,Zi,Zj,Zk,Zl,Zm,Zn,Zo,Zp,Zq,Zr,Zs,Zt,Zu,Zv,Zw,Zx,Zy,Zz,YA,YB,YC,YD,YE,YF,YG,YH,YI,YJ,YK,YL,YM,YN,YO,YP,YQ,YR,YS,Env.set,cond_true,cond_false,String.reduceBEq,YT,YU,YV,YW,YX,YY,YZ,Ya,Yb,Yc,Yd,Ye,Yf,Yg] | simp only [Yh,Yi,true_and,Yj,Yk,Yl,Ym,Yn,Yo,Yp,Yq,Yr,Yt,Yu,Yv,Yw,Yx,Yy,Yz,XA,XB,XD,XE,XF,XG,beq_self_eq_true,reduceIte,reduceCtorEq,↓reduceIte,XH,XI,XJ, this]))
  exact h

noncomputable def both (W : List (List Int)) (i j : Nat) : Bool := decide ((j : Int) ∈ row W i) && decide ((i : Int) ∈ row W j)

theorem s_both_wish (hP : P.fn "both_wish" = some f_both_wish) {w : Nat} {W : List (List Int)} (hw : WH H w W) {i j : Nat} (hi : i < W.length) (hj : j < W.length) (h : Q (.bool (both W i j)) H) : callN P b (n + 1) "both_wish" [.ref w, .int (i : Int), .int (j : Int)] H Q X := by
  obtain ⟨a, h1, h2⟩ := hw.item (row_get hi)
  obtain ⟨a', h1', h2'⟩ := hw.item (row_get hj)
  (refine callN_in hP rfl ?_; unfold f_both_wish)
  (repeat (first | dsimp only [XK, XL] | dsimp only [ZA,ZB,ZC,ZD,ZE,ZF,ZG,ZH,ZI,ZJ,ZK,ZL,ZM,ZN,ZO,ZP,ZQ,ZR,ZS,ZT,ZU,ZV,ZW,ZX,ZY,ZZ,Za,Zb,Zc,Zd,Ze,Zf,Zg,Zh,Zi,Zj,Zk,Zl,Zm,Zn,Zo,Zp,Zq,Zr,Zs,Zt,Zu,Zv,Zw,Zx,Zy,Zz,YA,YB,YC,YD,YE,YF,YG,YH,YI,YJ,YK,YL,YM,YN,YO,YP,YQ,YR,YS,Env.set,cond_true,cond_false,String.reduceBEq,YT,YU,YV,YW,YX,YY,YZ,Ya,Yb,Yc,Yd,Ye,Yf,Yg] | simp only [Yh,Yi,true_and,Yj,Yk,Yl,Ym,Yn,Yo,Yp,Yq,Yr,Yt,Yu,Yv,Yw,Yx,Yy,Yz,XA,XB,XD,XE,XF,XG,beq_self_eq_true,reduceIte,reduceCtorEq,↓reduceIte,XH,XI,XJ, h1, h1', h2.mem, h2'.mem]))
  unfold both at h
  refine ⟨fun q => ?_, fun q => ?_⟩
  · rw [q, Bool.true_and] at h
    cases e : decide ((i : Int) ∈ row W j) <;> rw [e] at h <;> (repeat (first | dsimp only [XK, XL] | dsimp only [ZA,ZB,ZC,ZD,ZE,ZF,ZG,ZH,ZI,ZJ,ZK,ZL,ZM,ZN,ZO,ZP,ZQ,ZR,ZS,ZT,ZU,ZV,ZW,ZX,ZY,ZZ,Za,Zb,Zc,Zd,Ze,Zf,Zg,Zh,Zi,Zj,Zk,Zl,Zm,Zn,Zo,Zp,Zq,Zr,Zs,Zt,Zu,Zv,Zw,Zx,Zy,Zz,YA,YB,YC,YD,YE,YF,YG,YH,YI,YJ,YK,YL,YM,YN,YO,YP,YQ,YR,YS,Env.set,cond_true,cond_false,String.reduceBEq,YT,YU,YV,YW,YX,YY,YZ,Ya,Yb,Yc,Yd,Ye,Yf,Yg] | simp only [Yh,Yi,true_and,Yj,Yk,Yl,Ym,Yn,Yo,Yp,Yq,Yr,Yt,Yu,Yv,Yw,Yx,Yy,Yz,XA,XB,XD,XE,XF,XG,beq_self_eq_true,reduceIte,reduceCtorEq,↓reduceIte,XH,XI,XJ])) <;> exact h
  · rw [q, Bool.false_and] at h; exact h

noncomputable def ov : Option Nat → V
  | none => .none
  | some i => .int (i : Int)

noncomputable def soonerP (W : List (List Int)) (g : Nat) : Option Nat → Option Nat → Bool
  | none, _ => false
  | some a, none => both W g a
  | some a, some c => (a != c) && both W g a && (!both W g c || decide ((row W g).idxOf (a : Int) < (row W g).idxOf (c : Int)))

theorem LI.index {a : Nat} {is : List Int} (h : LI H a is) {x : Int} (hx : x ∈ is) : methV .index [.ref a, .int x] H = some (.int (is.idxOf x : Nat), H) := by
  rw [m_idx, listOf_eq h, Option.bind_some, mapM_asInt, Option.bind_some, if_pos hx]

theorem s_sooner (hP : P.fn "sooner" = some f_sooner) (hP1 : P.fn "both_wish" = some f_both_wish) {w : Nat} {W : List (List Int)} (hw : WH H w W) {g : Nat} (hg : g < W.length) {one other : Option Nat} (h1 : ∀ i, one = some i → i < W.length) (h2 : ∀ i, other = some i → i < W.length)
    (h : Q (.bool (soonerP W g one other)) H) : callN P b (n + 2) "sooner" [.ref w, .int (g : Int), ov one, ov other] H Q X := by
  (refine callN_in hP rfl ?_; unfold f_sooner)
  cases one with
  | none =>
    cases other with
    | none => (repeat (first | with_reducible refine XM ?_ | with_reducible refine XN ?_ | dsimp only [ZA,ZB,ZC,ZD,ZE,ZF,ZG,ZH,ZI,ZJ,ZK,ZL,ZM,ZN,ZO,ZP,ZQ,ZR,ZS,ZT,ZU,ZV,ZW,ZX,ZY,ZZ,Za,Zb,Zc,Zd,Ze,Zf,Zg,Zh,Zi,Zj,Zk,Zl,Zm,Zn,Zo,Zp,Zq,Zr,Zs,Zt,Zu,Zv,Zw,Zx,Zy,Zz,YA,YB,YC,YD,YE,YF,YG,YH,YI,YJ,YK,YL,YM,YN,YO,YP,YQ,YR,YS,Env.set,cond_true,cond_false,String.reduceBEq,YT,YU,YV,YW,YX,YY,YZ,Ya,Yb,Yc,Yd,Ye,Yf,Yg] | simp only [Yh,Yi,true_and,Yj,Yk,Yl,Ym,Yn,Yo,Yp,Yq,Yr,Yt,Yu,Yv,Yw,Yx,Yy,Yz,XA,XB,XD,XE,XF,XG,beq_self_eq_true,reduceIte,reduceCtorEq,↓reduceIte,XH,XI,XJ, ov])); exact h
    | some c => (repeat (first | with_reducible refine XM ?_ | with_reducible refine XN ?_ | dsimp only [ZA,ZB,ZC,ZD,ZE,ZF,ZG,ZH,ZI,ZJ,ZK,ZL,ZM,ZN,ZO,ZP,ZQ,ZR,ZS,ZT,ZU,ZV,ZW,ZX,ZY,ZZ,Za,Zb,Zc,Zd,Ze,Zf,Zg,Zh,Zi,Zj,Zk,Zl,Zm,Zn,Zo,Zp,Zq,Zr,Zs,Zt,Zu,Zv,Zw,Zx,Zy,Zz,YA,YB,YC,YD,YE,YF,YG,YH,YI,YJ,YK,YL,YM,YN,YO,YP,YQ,YR,YS,Env.set,cond_true,cond_false,String.reduceBEq,YT,YU,YV,YW,YX,YY,YZ,Ya,Yb,Yc,Yd,Ye,Yf,Yg] | simp only [Yh,Yi,true_and,Yj,Yk,Yl,Ym,Yn,Yo,Yp,Yq,Yr,Yt,Yu,Yv,Yw,Yx,Yy,Yz,XA,XB,XD,XE,XF,XG,beq_self_eq_true,reduceIte,reduceCtorEq,↓reduceIte,XH,XI,XJ, ov])); exact h
  | some a =>
    have ha := h1 a rfl
    obtain ⟨r, hr, hl⟩ := hw.item (row_get hg)
    cases other with
    | none =>
      (repeat (first | with_reducible refine XM ?_ | with_reducible refine XN ?_ | dsimp only [ZA,ZB,ZC,ZD,ZE,ZF,ZG,ZH,ZI,ZJ,ZK,ZL,ZM,ZN,ZO,ZP,ZQ,ZR,ZS,ZT,ZU,ZV,ZW,ZX,ZY,ZZ,Za,Zb,Zc,Zd,Ze,Zf,Zg,Zh,Zi,Zj,Zk,Zl,Zm,Zn,Zo,Zp,Zq,Zr,Zs,Zt,Zu,Zv,Zw,Zx,Zy,Zz,YA,YB,YC,YD,YE,YF,YG,YH,YI,YJ,YK,YL,YM,YN,YO,YP,YQ,YR,YS,Env.set,cond_true,cond_false,String.reduceBEq,YT,YU,YV,YW,YX,YY,YZ,Ya,Yb,Yc,Yd,Ye,Yf,Yg] | simp only [Yh,Yi,true_and,Yj,Yk,Yl,Ym,Yn,Yo,Yp,Yq,Yr,Yt,Yu,Yv,Yw,Yx,Yy,Yz,XA,XB,XD,XE,XF,XG,beq_self_eq_true,reduceIte,reduceCtorEq,↓reduceIte,XH,XI,XJ, ov]))
      refine s_both_wish hP1 hw hg ha ?_
      simp only [soonerP] at h
      cases e : both W g a <;> rw [e] at h <;> (repeat (first | with_reducible refine XM ?_ | with_reducible refine XN ?_ | dsimp only [ZA,ZB,ZC,ZD,ZE,ZF,ZG,ZH,ZI,ZJ,ZK,ZL,ZM,ZN,ZO,ZP,ZQ,ZR,ZS,ZT,ZU,ZV,ZW,ZX,ZY,ZZ,Za,Zb,Zc,Zd,Ze,Zf,Zg,Zh,Zi,Zj,Zk,Zl,Zm,Zn,Zo,Zp,Zq,Zr,Zs,Zt,Zu,Zv,Zw,Zx,Zy,Zz,YA,YB,YC,YD,YE,YF,YG,YH,YI,YJ,YK,YL,YM,YN,YO,YP,YQ,YR,YS,Env.set,cond_true,cond_false,String.reduceBEq,YT,YU,YV,YW,YX,YY,YZ,Ya,Yb,Yc,Yd,Ye,Yf,Yg] | simp only [Yh,Yi,true_and,Yj,Yk,Yl,Ym,Yn,Yo,Yp,Yq,Yr,Yt,Yu,Yv,Yw,Yx,Yy,Yz,XA,XB,XD,XE,XF,XG,beq_self_eq_true,reduceIte,reduceCtorEq,↓reduceIte,XH,XI,XJ])) <;> exact h
    | some c =>
      have hc := h2 c rfl
      (repeat (first | with_reducible refine XM ?_ | with_reducible refine XN ?_ | dsimp only [ZA,ZB,ZC,ZD,ZE,ZF,ZG,ZH,ZI,ZJ,ZK,ZL,ZM,ZN,ZO,ZP,ZQ,ZR,ZS,ZT,ZU,ZV,ZW,ZX,ZY,ZZ,Za,Zb,Zc,Zd,Ze,Zf,Zg,Zh,Zi,Zj,Zk,Zl,Zm,Zn,Zo,Zp,Zq,Zr,Zs,Zt,Zu,Zv,Zw,Zx,Zy,Zz,YA,YB,YC,YD,YE,YF,YG,YH,YI,YJ,YK,YL,YM,YN,YO,YP,YQ,YR,YS,Env.set,cond_true,cond_false,String.reduceBEq,YT,YU,YV,YW,YX,YY,YZ,Ya,Yb,Yc,Yd,Ye,Yf,Yg] | simp only [Yh,Yi,true_and,Yj,Yk,Yl,Ym,Yn,Yo,Yp,Yq,Yr,Yt,Yu,Yv,Yw,Yx,Yy,Yz,XA,XB,XD,XE,XF,XG,beq_self_eq_true,reduceIte,reduceCtorEq,↓reduceIte,XH,XI,XJ, ov]))
      by_cases hac : a = c
      · subst hac
        (repeat (first | with_reducible refine XM ?_ | with_reducible refine XN ?_ | dsimp only [ZA,ZB,ZC,ZD,ZE,ZF,ZG,ZH,ZI,ZJ,ZK,ZL,ZM,ZN,ZO,ZP,ZQ,ZR,ZS,ZT,ZU,ZV,ZW,ZX,ZY,ZZ,Za,Zb,Zc,Zd,Ze,Zf,Zg,Zh,Zi,Zj,Zk,Zl,Zm,Zn,Zo,Zp,Zq,Zr,Zs,Zt,Zu,Zv,Zw,Zx,Zy,Zz,YA,YB,YC,YD,YE,YF,YG,YH,YI,YJ,YK,YL,YM,YN,YO,YP,YQ,YR,YS,Env.set,cond_true,cond_false,String.reduceBEq,YT,YU,YV,YW,YX,YY,YZ,Ya,Yb,Yc,Yd,Ye,Yf,Yg] | simp only [Yh,Yi,true_and,Yj,Yk,Yl,Ym,Yn,Yo,Yp,Yq,Yr,Yt,Yu,Yv,Yw,Yx,Yy,Yz,XA,XB,XD,XE,XF,XG,beq_self_eq_true,reduceIte,reduceCtorEq,↓reduceIte,XH,XI,XJ]))
        simpa [soonerP] using h
      · have e : ((a : Int) == (c : Int)) = false := beq_eq_false_iff_ne.mpr (by omega)
        (repeat (first | with_reducible refine XM ?_ | with_reducible refine XN ?_ | dsimp only [ZA,ZB,ZC,ZD,ZE,ZF,ZG,ZH,ZI,ZJ,ZK,ZL,ZM,ZN,ZO,ZP,ZQ,ZR,ZS,ZT,ZU,ZV,ZW,ZX,ZY,ZZ,Za,Zb,Zc,Zd,Ze,Zf,Zg,Zh,Zi,Zj,Zk,Zl,Zm,Zn,Zo,Zp,Zq,Zr,Zs,Zt,Zu,Zv,Zw,Zx,Zy,Zz,YA,YB,YC,YD,YE,YF,YG,YH,YI,YJ,YK,YL,YM,YN,YO,YP,YQ,YR,YS,Env.set,cond_true,cond_false,String.reduceBEq,YT,YU,YV,YW,YX,YY,YZ,Ya,Yb,Yc,Yd,Ye,Yf,Yg] | simp only [Yh,Yi,true_and,Yj,Yk,Yl,Ym,Yn,Yo,Yp,Yq,Yr,Yt,Yu,Yv,Yw,Yx,Yy,Yz,XA,XB,XD,XE,XF,XG,beq_self_eq_true,reduceIte,reduceCtorEq,↓reduceIte,XH,XI,XJ, e]))
        refine s_both_wish hP1 hw hg ha ?_
        simp only [soonerP] at h
        have e' : (a != c) = true := by simp [hac]
        rw [e'] at h
        cases ea : both W g a with
        | false => rw [ea] at h; (repeat (first | with_reducible refine XM ?_ | with_reducible refine XN ?_ | dsimp only [ZA,ZB,ZC,ZD,ZE,ZF,ZG,ZH,ZI,ZJ,ZK,ZL,ZM,ZN,ZO,ZP,ZQ,ZR,ZS,ZT,ZU,ZV,ZW,ZX,ZY,ZZ,Za,Zb,Zc,Zd,Ze,Zf,Zg,Zh,Zi,Zj,Zk,Zl,Zm,Zn,Zo,Zp,Zq,Zr,Zs,Zt,Zu,Zv,Zw,Zx,Zy,Zz,YA,YB,YC,YD,YE,YF,YG,YH,YI,YJ,YK,YL,YM,YN,YO,YP,YQ,YR,YS,Env.set,cond_true,cond_false,String.reduceBEq,YT,YU,YV,YW,YX,YY,YZ,Ya,Yb,Yc,Yd,Ye,Yf,Yg] | simp only [Yh,Yi,true_and,Yj,Yk,Yl,Ym,Yn,Yo,Yp,Yq,Yr,Yt,Yu,Yv,Yw,Yx,Yy,Yz,XA,XB,XD,XE,XF,XG,beq_self_eq_true,reduceIte,reduceCtorEq,↓reduceIte,XH,XI,XJ])); exact h
        | true =>
          rw [ea] at h
          (repeat (first | with_reducible refine XM ?_ | with_reducible refine XN ?_ | dsimp only [ZA,ZB,ZC,ZD,ZE,ZF,ZG,ZH,ZI,ZJ,ZK,ZL,ZM,ZN,ZO,ZP,ZQ,ZR,ZS,ZT,ZU,ZV,ZW,ZX,ZY,ZZ,Za,Zb,Zc,Zd,Ze,Zf,Zg,Zh,Zi,Zj,Zk,Zl,Zm,Zn,Zo,Zp,Zq,Zr,Zs,Zt,Zu,Zv,Zw,Zx,Zy,Zz,YA,YB,YC,YD,YE,YF,YG,YH,YI,YJ,YK,YL,YM,YN,YO,YP,YQ,YR,YS,Env.set,cond_true,cond_false,String.reduceBEq,YT,YU,YV,YW,YX,YY,YZ,Ya,Yb,Yc,Yd,Ye,Yf,Yg] | simp only [Yh,Yi,true_and,Yj,Yk,Yl,Ym,Yn,Yo,Yp,Yq,Yr,Yt,Yu,Yv,Yw,Yx,Yy,Yz,XA,XB,XD,XE,XF,XG,beq_self_eq_true,reduceIte,reduceCtorEq,↓reduceIte,XH,XI,XJ]))
          refine s_both_wish hP1 hw hg hc ?_
          cases ec : both W g c with
          | false => rw [ec] at h; (repeat (first | with_reducible refine XM ?_ | with_reducible refine XN ?_ | dsimp only [ZA,ZB,ZC,ZD,ZE,ZF,ZG,ZH,ZI,ZJ,ZK,ZL,ZM,ZN,ZO,ZP,ZQ,ZR,ZS,ZT,ZU,ZV,ZW,ZX,ZY,ZZ,Za,Zb,Zc,Zd,Ze,Zf,Zg,Zh,Zi,Zj,Zk,Zl,Zm,Zn,Zo,Zp,Zq,Zr,Zs,Zt,Zu,Zv,Zw,Zx,Zy,Zz,YA,YB,YC,YD,YE,YF,YG,YH,YI,YJ,YK,YL,YM,YN,YO,YP,YQ,YR,YS,Env.set,cond_true,cond_false,String.reduceBEq,YT,YU,YV,YW,YX,YY,YZ,Ya,Yb,Yc,Yd,Ye,Yf,Yg] | simp only [Yh,Yi,true_and,Yj,Yk,Yl,Ym,Yn,Yo,Yp,Yq,Yr,Yt,Yu,Yv,Yw,Yx,Yy,Yz,XA,XB,XD,XE,XF,XG,beq_self_eq_true,reduceIte,reduceCtorEq,↓reduceIte,XH,XI,XJ])); simpa using h
          | true =>
            rw [ec] at h
            have ma : (a : Int) ∈ row W g := by unfold both at ea; simp at ea; exact ea.1
            have mc : (c : Int) ∈ row W g := by unfold both at ec; simp at ec; exact ec.1
            (repeat (first | with_reducible refine XM ?_ | with_reducible refine XN ?_ | dsimp only [ZA,ZB,ZC,ZD,ZE,ZF,ZG,ZH,ZI,ZJ,ZK,ZL,ZM,ZN,ZO,ZP,ZQ,ZR,ZS,ZT,ZU,ZV,ZW,ZX,ZY,ZZ,Za,Zb,Zc,Zd,Ze,Zf,Zg,Zh,Zi,Zj,Zk,Zl,Zm,Zn,Zo,Zp,Zq,Zr,Zs,Zt,Zu,Zv,Zw,Zx,Zy,Zz,YA,YB,YC,YD,YE,YF,YG,YH,YI,YJ,YK,YL,YM,YN,YO,YP,YQ,YR,YS,Env.set,cond_true,cond_false,String.reduceBEq,YT,YU,YV,YW,YX,YY,YZ,Ya,Yb,Yc,Yd,Ye,Yf,Yg] | simp only [Yh,Yi,true_and,Yj,Yk,Yl,Ym,Yn,Yo,Yp,Yq,Yr,Yt,Yu,Yv,Yw,Yx,Yy,Yz,XA,XB,XD,XE,XF,XG,beq_self_eq_true,reduceIte,reduceCtorEq,↓reduceIte,XH,XI,XJ, hr, (recvL hl).2.2, hl.index ma, hl.index mc]))
            have hcast : decide (((row W g).idxOf (a : Int) : Int) < ((row W g).idxOf (c : Int) : Int)) = decide ((row W g).idxOf (a : Int) < (row W g).idxOf (c : Int)) := by simp
            rw [hcast]
            simpa using h

theorem s_cell_at (hP : P.fn "_law_cell_at" = some f__law_cell_at) {a : Nat} {is : List Int} (hs : seqOf H a = some (is.map .int)) {k : Nat} (h : Q (.int (is.getD k 0)) H) : callN P b (n + 1) "_law_cell_at" [.ref a, .int (k : Int)] H Q X := by
  have hl : lenV (.ref a) H = some (is.length : Int) := by unfold lenV; simp [hs]
  (refine callN_in hP rfl ?_; unfold f__law_cell_at)
  (repeat (first | dsimp only [XK, XL] | dsimp only [ZA,ZB,ZC,ZD,ZE,ZF,ZG,ZH,ZI,ZJ,ZK,ZL,ZM,ZN,ZO,ZP,ZQ,ZR,ZS,ZT,ZU,ZV,ZW,ZX,ZY,ZZ,Za,Zb,Zc,Zd,Ze,Zf,Zg,Zh,Zi,Zj,Zk,Zl,Zm,Zn,Zo,Zp,Zq,Zr,Zs,Zt,Zu,Zv,Zw,Zx,Zy,Zz,YA,YB,YC,YD,YE,YF,YG,YH,YI,YJ,YK,YL,YM,YN,YO,YP,YQ,YR,YS,Env.set,cond_true,cond_false,String.reduceBEq,YT,YU,YV,YW,YX,YY,YZ,Ya,Yb,Yc,Yd,Ye,Yf,Yg] | simp only [Yh,Yi,true_and,Yj,Yk,Yl,Ym,Yn,Yo,Yp,Yq,Yr,Yt,Yu,Yv,Yw,Yx,Yy,Yz,XA,XB,XD,XE,XF,XG,beq_self_eq_true,reduceIte,reduceCtorEq,↓reduceIte,XH,XI,XJ, hl]))
  refine ⟨fun q => ?_, fun q => ?_⟩
  · have hk : k < is.length := by simp at q; exact q
    have : is[k]? = some is[k] := List.getElem?_eq_getElem hk
    (repeat (first | dsimp only [XK, XL] | dsimp only [ZA,ZB,ZC,ZD,ZE,ZF,ZG,ZH,ZI,ZJ,ZK,ZL,ZM,ZN,ZO,ZP,ZQ,ZR,ZS,ZT,ZU,ZV,ZW,ZX,ZY,ZZ,Za,Zb,Zc,Zd,Ze,Zf,Zg,Zh,Zi,Zj,Zk,Zl,Zm,Zn,Zo,Zp,Zq,Zr,Zs,Zt,Zu,Zv,Zw,Zx,Zy,Zz,YA,YB,YC,YD,YE,YF,YG,YH,YI,YJ,YK,YL,YM,YN,YO,YP,YQ,YR,YS,Env.set,cond_true,cond_false,String.reduceBEq,YT,YU,YV,YW,YX,YY,YZ,Ya,Yb,Yc,Yd,Ye,Yf,Yg] | simp only [Yh,Yi,true_and,Yj,Yk,Yl,Ym,Yn,Yo,Yp,Yq,Yr,Yt,Yu,Yv,Yw,Yx,Yy,Yz,XA,XB,XD,XE,XF,XG,beq_self_eq_true,reduceIte,reduceCtorEq,↓reduceIte,XH,XI,XJ, item_seq hs (i := k) (v := .int is[k]) (by rw [List.getElem?_map, this]; rfl)]))
    rw [List.getD_eq_getElem?_getD, this] at h
    exact h
  · have hk : ¬ k < is.length := by simp at q; omega
    rw [List.getD_eq_getElem?_getD, List.getElem?_eq_none (by omega)] at h
    exact h

theorem get2a (H : Hp) (x y : O) : (H ++ [x, y])[H.length]? = some x := by simp
theorem get2b (H : Hp) (x y : O) : (H ++ [x, y])[H.length + 1]? = some y := by simp
theorem set2a (H : Hp) (x y z : O) : (H ++ [x, y]).set H.length z = H ++ [z, y] := by simp
theorem set2b (H : Hp) (x y z : O) : (H ++ [x, y]).set (H.length + 1) z = H ++ [x, z] := by simp

theorem rowOk_take {row : List Int} {g m : Int} (h : RowOk row g m) (k : Nat) : RowOk (row.take k) g m :=
  ⟨fun x hx => h.low x (List.mem_of_mem_take hx), fun hx => h.ne (List.mem_of_mem_take hx), h.nodup.sublist (List.take_sublist _ _), by have := h.len; rw [List.length_take]; omega⟩

theorem pop_at {a : Nat} {xs : List V} {i : Nat} {v : V} (h : H[a]? = some (.list xs)) (hi : xs[i]? = some v) : methV .pop [.ref a, .int (i : Int)] H = some (v, H.set a (.list (xs.eraseIdx i))) := by
  have hl := (List.getElem?_eq_some_iff.mp hi).1
  rw [m_pop, listOf_eq h, Option.bind_some, normIdx_nat hl, Option.bind_some, hi]; rfl
theorem append_at {a : Nat} {xs : List V} {v : V} (h : H[a]? = some (.list xs)) (hl : xs.length < lim) : methV .append [.ref a, v] H = some (.none, H.set a (.list (xs ++ [v]))) := by
  rw [m_app, listOf_eq h, Option.bind_some, if_pos hl]

theorem fmod_nat (c : Int) {m : Nat} (hm : 0 < m) : ∃ i : Nat, i < m ∧ c.fmod (m : Int) = (i : Int) := by
  have h1 : 0 ≤ c.fmod (m : Int) := Int.fmod_nonneg_of_pos _ (by omega)
  have h2 : c.fmod (m : Int) < m := Int.fmod_lt_of_pos _ (by omega)
  exact ⟨(c.fmod m).toNat, by omega, by omega⟩

theorem map_erase (l : List Int) (i : Nat) : (l.map V.int).eraseIdx i = (l.eraseIdx i).map V.int := by
  induction l generalizing i with
  | nil => rfl
  | cons a l ih => cases i with
    | zero => rfl
    | succ i => simp [ih]

theorem erase_perm {α : Type} {x : α} : ∀ {l : List α} {i : Nat}, l[i]? = some x → List.Perm l (x :: l.eraseIdx i)
  | a :: l, 0, h => by simp at h; subst h; exact List.Perm.refl _
  | a :: l, i + 1, h => by
    have := erase_perm (l := l) (i := i) (by simpa using h)
    exact (this.cons a).trans (List.Perm.swap _ _ _)

theorem s_row_by2 (hP : P.fn "_law_row_by" = some f__law_row_by) {c : Int} {g m : Nat} {full : Bool} (hm : m ≤ 6)
    (h : ∀ H' r l, H <+: H' → H.length ≤ r → LI H' r l → RowOk l g m → Q (.ref r) H') : callN P b (n + 1) "_law_row_by" [.int c, .int (g : Int), .int (m : Int), .bool full] H Q X := by
  have hml : m ≤ lim := Nat.le_trans hm (by decide)
  (refine callN_in hP rfl ?_; unfold f__law_row_by)
  (repeat (first | with_reducible refine XM ?_ | with_reducible refine XN ?_ | dsimp only [ZA,ZB,ZC,ZD,ZE,ZF,ZG,ZH,ZI,ZJ,ZK,ZL,ZM,ZN,ZO,ZP,ZQ,ZR,ZS,ZT,ZU,ZV,ZW,ZX,ZY,ZZ,Za,Zb,Zc,Zd,Ze,Zf,Zg,Zh,Zi,Zj,Zk,Zl,Zm,Zn,Zo,Zp,Zq,Zr,Zs,Zt,Zu,Zv,Zw,Zx,Zy,Zz,YA,YB,YC,YD,YE,YF,YG,YH,YI,YJ,YK,YL,YM,YN,YO,YP,YQ,YR,YS,Env.set,cond_true,cond_false,String.reduceBEq,YT,YU,YV,YW,YX,YY,YZ,Ya,Yb,Yc,Yd,Ye,Yf,Yg] | simp only [Yh,Yi,true_and,Yj,Yk,Yl,Ym,Yn,Yo,Yp,Yq,Yr,Yt,Yu,Yv,Yw,Yx,Yy,Yz,XA,XB,XD,XE,XF,XG,beq_self_eq_true,reduceIte,reduceCtorEq,↓reduceIte,XH,XI,XJ, range_nat hml]))
  refine wLoop_idx (fun i acc H' => H' = H ∧ ∃ l : List Int, acc = l.map .int ∧ l.length ≤ i ∧ l.Nodup ∧ (g : Int) ∉ l ∧ ∀ x ∈ l, 0 ≤ x ∧ x < i) ⟨rfl, [], rfl, by simp, by simp, by simp, by simp⟩ (fun i v acc H' hv hI => ⟨trivial, fun k' h1 h2 => ?_⟩) fun acc H' hI => ⟨trivial, ?_⟩
  · obtain ⟨hi, rfl⟩ := rng_get hv
    obtain ⟨rfl, l, rfl, hl, nd, hn, hlow⟩ := hI
    (repeat (first | with_reducible refine XM ?_ | with_reducible refine XN ?_ | dsimp only [ZA,ZB,ZC,ZD,ZE,ZF,ZG,ZH,ZI,ZJ,ZK,ZL,ZM,ZN,ZO,ZP,ZQ,ZR,ZS,ZT,ZU,ZV,ZW,ZX,ZY,ZZ,Za,Zb,Zc,Zd,Ze,Zf,Zg,Zh,Zi,Zj,Zk,Zl,Zm,Zn,Zo,Zp,Zq,Zr,Zs,Zt,Zu,Zv,Zw,Zx,Zy,Zz,YA,YB,YC,YD,YE,YF,YG,YH,YI,YJ,YK,YL,YM,YN,YO,YP,YQ,YR,YS,Env.set,cond_true,cond_false,String.reduceBEq,YT,YU,YV,YW,YX,YY,YZ,Ya,Yb,Yc,Yd,Ye,Yf,Yg] | simp only [Yh,Yi,true_and,Yj,Yk,Yl,Ym,Yn,Yo,Yp,Yq,Yr,Yt,Yu,Yv,Yw,Yx,Yy,Yz,XA,XB,XD,XE,XF,XG,beq_self_eq_true,reduceIte,reduceCtorEq,↓reduceIte,XH,XI,XJ]))
    refine ⟨fun q => ?_, fun q => ?_⟩
    · refine h1 _ _ ⟨rfl, l ++ [(i : Int)], by simp, by simp; omega, ?_, ?_, ?_⟩
      · rw [List.nodup_append]
        refine ⟨nd, by simp, fun a ha b hb => ?_⟩
        simp at hb; subst hb
        have := hlow a ha; omega
      · simp only [List.mem_append, List.mem_singleton, not_or]
        refine ⟨hn, fun e => ?_⟩
        simp at q; omega
      · intro x hx
        rcases List.mem_append.mp hx with hx | hx
        · have := hlow x hx; omega
        · simp at hx; omega
    · exact h2 _ ⟨rfl, l, rfl, by omega, nd, hn, fun x hx => by have := hlow x hx; omega⟩
  · obtain ⟨rfl, l, rfl, hl, nd, hn, hlow⟩ := hI
    rw [rng_len] at hl hlow
    (repeat (first | with_reducible refine XM ?_ | with_reducible refine XN ?_ | dsimp only [ZA,ZB,ZC,ZD,ZE,ZF,ZG,ZH,ZI,ZJ,ZK,ZL,ZM,ZN,ZO,ZP,ZQ,ZR,ZS,ZT,ZU,ZV,ZW,ZX,ZY,ZZ,Za,Zb,Zc,Zd,Ze,Zf,Zg,Zh,Zi,Zj,Zk,Zl,Zm,Zn,Zo,Zp,Zq,Zr,Zs,Zt,Zu,Zv,Zw,Zx,Zy,Zz,YA,YB,YC,YD,YE,YF,YG,YH,YI,YJ,YK,YL,YM,YN,YO,YP,YQ,YR,YS,Env.set,cond_true,cond_false,String.reduceBEq,YT,YU,YV,YW,YX,YY,YZ,Ya,Yb,Yc,Yd,Ye,Yf,Yg] | simp only [Yh,Yi,true_and,Yj,Yk,Yl,Ym,Yn,Yo,Yp,Yq,Yr,Yt,Yu,Yv,Yw,Yx,Yy,Yz,XA,XB,XD,XE,XF,XG,beq_self_eq_true,reduceIte,reduceCtorEq,↓reduceIte,XH,XI,XJ]))
    refine wWhile_ex (fun k ρ H1 => ∃ (l r : List Int) (c : Int), H1 = H' ++ [.list (l.map .int), .list (r.map .int)] ∧ k = l.length ∧ (l ++ r).length ≤ 6 ∧ (l ++ r).Nodup ∧ (g : Int) ∉ l ++ r ∧ (∀ x ∈ l ++ r, 0 ≤ x ∧ x < (m : Int)) ∧
      ρ "_law_left" = some (.ref H'.length) ∧ ρ "_law_row" = some (.ref (H'.length + 1)) ∧ ρ "_law_cell" = some (.int c) ∧ ρ "_law_full" = some (.bool full)) (m := l.length) ⟨l, [], c, by simp, rfl, by simp; omega, by simpa using nd, by simpa using hn, by simpa using hlow, by (repeat (first | with_reducible refine XM ?_ | with_reducible refine XN ?_ | dsimp only [ZA,ZB,ZC,ZD,ZE,ZF,ZG,ZH,ZI,ZJ,ZK,ZL,ZM,ZN,ZO,ZP,ZQ,ZR,ZS,ZT,ZU,ZV,ZW,ZX,ZY,ZZ,Za,Zb,Zc,Zd,Ze,Zf,Zg,Zh,Zi,Zj,Zk,Zl,Zm,Zn,Zo,Zp,Zq,Zr,Zs,Zt,Zu,Zv,Zw,Zx,Zy,Zz,YA,YB,YC,YD,YE,YF,YG,YH,YI,YJ,YK,YL,YM,YN,YO,YP,YQ,YR,YS,Env.set,cond_true,cond_false,String.reduceBEq,YT,YU,YV,YW,YX,YY,YZ,Ya,Yb,Yc,Yd,Ye,Yf,Yg] | simp only [Yh,Yi,true_and,Yj,Yk,Yl,Ym,Yn,Yo,Yp,Yq,Yr,Yt,Yu,Yv,Yw,Yx,Yy,Yz,XA,XB,XD,XE,XF,XG,beq_self_eq_true,reduceIte,reduceCtorEq,↓reduceIte,XH,XI,XJ])), by (repeat (first | with_reducible refine XM ?_ | with_reducible refine XN ?_ | dsimp only [ZA,ZB,ZC,ZD,ZE,ZF,ZG,ZH,ZI,ZJ,ZK,ZL,ZM,ZN,ZO,ZP,ZQ,ZR,ZS,ZT,ZU,ZV,ZW,ZX,ZY,ZZ,Za,Zb,Zc,Zd,Ze,Zf,Zg,Zh,Zi,Zj,Zk,Zl,Zm,Zn,Zo,Zp,Zq,Zr,Zs,Zt,Zu,Zv,Zw,Zx,Zy,Zz,YA,YB,YC,YD,YE,YF,YG,YH,YI,YJ,YK,YL,YM,YN,YO,YP,YQ,YR,YS,Env.set,cond_true,cond_false,String.reduceBEq,YT,YU,YV,YW,YX,YY,YZ,Ya,Yb,Yc,Yd,Ye,Yf,Yg] | simp only [Yh,Yi,true_and,Yj,Yk,Yl,Ym,Yn,Yo,Yp,Yq,Yr,Yt,Yu,Yv,Yw,Yx,Yy,Yz,XA,XB,XD,XE,XF,XG,beq_self_eq_true,reduceIte,reduceCtorEq,↓reduceIte,XH,XI,XJ])); simp, by (repeat (first | with_reducible refine XM ?_ | with_reducible refine XN ?_ | dsimp only [ZA,ZB,ZC,ZD,ZE,ZF,ZG,ZH,ZI,ZJ,ZK,ZL,ZM,ZN,ZO,ZP,ZQ,ZR,ZS,ZT,ZU,ZV,ZW,ZX,ZY,ZZ,Za,Zb,Zc,Zd,Ze,Zf,Zg,Zh,Zi,Zj,Zk,Zl,Zm,Zn,Zo,Zp,Zq,Zr,Zs,Zt,Zu,Zv,Zw,Zx,Zy,Zz,YA,YB,YC,YD,YE,YF,YG,YH,YI,YJ,YK,YL,YM,YN,YO,YP,YQ,YR,YS,Env.set,cond_true,cond_false,String.reduceBEq,YT,YU,YV,YW,YX,YY,YZ,Ya,Yb,Yc,Yd,Ye,Yf,Yg] | simp only [Yh,Yi,true_and,Yj,Yk,Yl,Ym,Yn,Yo,Yp,Yq,Yr,Yt,Yu,Yv,Yw,Yx,Yy,Yz,XA,XB,XD,XE,XF,XG,beq_self_eq_true,reduceIte,reduceCtorEq,↓reduceIte,XH,XI,XJ])), by (repeat (first | with_reducible refine XM ?_ | with_reducible refine XN ?_ | dsimp only [ZA,ZB,ZC,ZD,ZE,ZF,ZG,ZH,ZI,ZJ,ZK,ZL,ZM,ZN,ZO,ZP,ZQ,ZR,ZS,ZT,ZU,ZV,ZW,ZX,ZY,ZZ,Za,Zb,Zc,Zd,Ze,Zf,Zg,Zh,Zi,Zj,Zk,Zl,Zm,Zn,Zo,Zp,Zq,Zr,Zs,Zt,Zu,Zv,Zw,Zx,Zy,Zz,YA,YB,YC,YD,YE,YF,YG,YH,YI,YJ,YK,YL,YM,YN,YO,YP,YQ,YR,YS,Env.set,cond_true,cond_false,String.reduceBEq,YT,YU,YV,YW,YX,YY,YZ,Ya,Yb,Yc,Yd,Ye,Yf,Yg] | simp only [Yh,Yi,true_and,Yj,Yk,Yl,Ym,Yn,Yo,Yp,Yq,Yr,Yt,Yu,Yv,Yw,Yx,Yy,Yz,XA,XB,XD,XE,XF,XG,beq_self_eq_true,reduceIte,reduceCtorEq,↓reduceIte,XH,XI,XJ]))⟩ fun k ρ H1 hI k' h1 h2 => ?_
    obtain ⟨l, r, c, rfl, rfl, hlen, nd, hn, hlow, e1, e2, e3, e4⟩ := hI
    have hL : LI (H' ++ [.list (l.map .int), .list (r.map .int)]) H'.length l := get2a _ _ _
    have hR : LI (H' ++ [.list (l.map .int), .list (r.map .int)]) (H'.length + 1) r := get2b _ _ _
    (repeat (first | with_reducible refine XM ?_ | with_reducible refine XN ?_ | dsimp only [ZA,ZB,ZC,ZD,ZE,ZF,ZG,ZH,ZI,ZJ,ZK,ZL,ZM,ZN,ZO,ZP,ZQ,ZR,ZS,ZT,ZU,ZV,ZW,ZX,ZY,ZZ,Za,Zb,Zc,Zd,Ze,Zf,Zg,Zh,Zi,Zj,Zk,Zl,Zm,Zn,Zo,Zp,Zq,Zr,Zs,Zt,Zu,Zv,Zw,Zx,Zy,Zz,YA,YB,YC,YD,YE,YF,YG,YH,YI,YJ,YK,YL,YM,YN,YO,YP,YQ,YR,YS,Env.set,cond_true,cond_false,String.reduceBEq,YT,YU,YV,YW,YX,YY,YZ,Ya,Yb,Yc,Yd,Ye,Yf,Yg] | simp only [Yh,Yi,true_and,Yj,Yk,Yl,Ym,Yn,Yo,Yp,Yq,Yr,Yt,Yu,Yv,Yw,Yx,Yy,Yz,XA,XB,XD,XE,XF,XG,beq_self_eq_true,reduceIte,reduceCtorEq,↓reduceIte,XH,XI,XJ, e1, e2, e3, e4, hL.len]))
    refine ⟨fun q => ?_, fun q => ?_⟩
    · have hpos : 0 < l.length := by simp at q; exact q
      obtain ⟨i, hi, ei⟩ := fmod_nat c hpos
      have hz : ((l.length : Int) = 0) = False := by simp; intro e; simp [e] at hpos
      obtain ⟨x, hx⟩ : ∃ x, l[i]? = some x := ⟨_, List.getElem?_eq_getElem hi⟩
      have hp := pop_at (i := i) (v := .int x) hL (by rw [List.getElem?_map, hx]; rfl)
      rw [set2a, map_erase] at hp
      have hL' : LI (H' ++ [.list ((l.eraseIdx i).map .int), .list (r.map .int)]) H'.length (l.eraseIdx i) := get2a _ _ _
      have hR' : LI (H' ++ [.list ((l.eraseIdx i).map .int), .list (r.map .int)]) (H'.length + 1) r := get2b _ _ _
      have hlr : l.length + r.length ≤ 6 := by simpa using hlen
      have ha := append_at (v := .int x) hR' (by rw [List.length_map]; exact Nat.lt_of_le_of_lt (Nat.le_trans (Nat.le_add_left _ _) hlr) (by decide))
      rw [set2b] at ha
      have hL2 : LI (H' ++ [.list ((l.eraseIdx i).map .int), .list (r.map .int ++ [.int x])]) H'.length (l.eraseIdx i) := get2a _ _ _
      have hz2 : (((l.eraseIdx i).length : Int) + 1 = 0 ∨ 2 ^ 30 ≤ (((l.eraseIdx i).length : Int) + 1).natAbs) = False := by
        have : (l.eraseIdx i).length ≤ 6 := by rw [List.length_eraseIdx]; split <;> omega
        simp; omega
      (repeat (first | with_reducible refine XM ?_ | with_reducible refine XN ?_ | dsimp only [ZA,ZB,ZC,ZD,ZE,ZF,ZG,ZH,ZI,ZJ,ZK,ZL,ZM,ZN,ZO,ZP,ZQ,ZR,ZS,ZT,ZU,ZV,ZW,ZX,ZY,ZZ,Za,Zb,Zc,Zd,Ze,Zf,Zg,Zh,Zi,Zj,Zk,Zl,Zm,Zn,Zo,Zp,Zq,Zr,Zs,Zt,Zu,Zv,Zw,Zx,Zy,Zz,YA,YB,YC,YD,YE,YF,YG,YH,YI,YJ,YK,YL,YM,YN,YO,YP,YQ,YR,YS,Env.set,cond_true,cond_false,String.reduceBEq,YT,YU,YV,YW,YX,YY,YZ,Ya,Yb,Yc,Yd,Ye,Yf,Yg] | simp only [Yh,Yi,true_and,Yj,Yk,Yl,Ym,Yn,Yo,Yp,Yq,Yr,Yt,Yu,Yv,Yw,Yx,Yy,Yz,XA,XB,XD,XE,XF,XG,beq_self_eq_true,reduceIte,reduceCtorEq,↓reduceIte,XH,XI,XJ, (recvL hL).2.1, (recvL hR).1, hz, ei, hp, ha, hL2.len, hL.len, e1, e2, e3, hz2]))
      have pm : List.Perm (l.eraseIdx i ++ (r ++ [x])) (l ++ r) := by
        have h1 : List.Perm l (x :: l.eraseIdx i) := erase_perm hx
        refine List.Perm.symm (List.Perm.trans (h1.append_right r) ?_)
        rw [← List.append_assoc]
        refine List.Perm.trans ?_ (List.perm_append_singleton _ _).symm
        exact List.Perm.refl _
      refine h1 (l.eraseIdx i).length _ _ (by rw [List.length_eraseIdx, if_pos hi]; omega) ⟨l.eraseIdx i, r ++ [x], c.fdiv (((l.eraseIdx i).length : Int) + 1), by simp, rfl, by rw [pm.length_eq]; exact hlen, pm.nodup_iff.mpr nd, fun hm => hn (pm.mem_iff.mp hm), fun y hy => hlow y (pm.mem_iff.mp hy), ?_⟩
      (repeat (first | with_reducible refine XM ?_ | with_reducible refine XN ?_ | dsimp only [ZA,ZB,ZC,ZD,ZE,ZF,ZG,ZH,ZI,ZJ,ZK,ZL,ZM,ZN,ZO,ZP,ZQ,ZR,ZS,ZT,ZU,ZV,ZW,ZX,ZY,ZZ,Za,Zb,Zc,Zd,Ze,Zf,Zg,Zh,Zi,Zj,Zk,Zl,Zm,Zn,Zo,Zp,Zq,Zr,Zs,Zt,Zu,Zv,Zw,Zx,Zy,Zz,YA,YB,YC,YD,YE,YF,YG,YH,YI,YJ,YK,YL,YM,YN,YO,YP,YQ,YR,YS,Env.set,cond_true,cond_false,String.reduceBEq,YT,YU,YV,YW,YX,YY,YZ,Ya,Yb,Yc,Yd,Ye,Yf,Yg] | simp only [Yh,Yi,true_and,Yj,Yk,Yl,Ym,Yn,Yo,Yp,Yq,Yr,Yt,Yu,Yv,Yw,Yx,Yy,Yz,XA,XB,XD,XE,XF,XG,beq_self_eq_true,reduceIte,reduceCtorEq,↓reduceIte,XH,XI,XJ, e1, e2, e4]))
    · have hpos : l = [] := by simp at q; exact q
      subst hpos
      have rok : RowOk r g m := ⟨by simpa using hlow, by simpa using hn, by simpa using nd, by simpa using hlen⟩
      have hR' : LI (H' ++ [.list (([] : List Int).map .int), .list (r.map .int)]) (H'.length + 1) r := get2b _ _ _
      obtain ⟨i, hi, ei⟩ := fmod_nat c (m := r.length + 1) (by omega)
      have hz : ((r.length : Int) + 1 = 0) = False := by simp; omega
      have ei' : c.fmod ((r.length : Int) + 1) = (i : Int) := ei
      (repeat (first | with_reducible refine XM ?_ | with_reducible refine XN ?_ | dsimp only [ZA,ZB,ZC,ZD,ZE,ZF,ZG,ZH,ZI,ZJ,ZK,ZL,ZM,ZN,ZO,ZP,ZQ,ZR,ZS,ZT,ZU,ZV,ZW,ZX,ZY,ZZ,Za,Zb,Zc,Zd,Ze,Zf,Zg,Zh,Zi,Zj,Zk,Zl,Zm,Zn,Zo,Zp,Zq,Zr,Zs,Zt,Zu,Zv,Zw,Zx,Zy,Zz,YA,YB,YC,YD,YE,YF,YG,YH,YI,YJ,YK,YL,YM,YN,YO,YP,YQ,YR,YS,Env.set,cond_true,cond_false,String.reduceBEq,YT,YU,YV,YW,YX,YY,YZ,Ya,Yb,Yc,Yd,Ye,Yf,Yg] | simp only [Yh,Yi,true_and,Yj,Yk,Yl,Ym,Yn,Yo,Yp,Yq,Yr,Yt,Yu,Yv,Yw,Yx,Yy,Yz,XA,XB,XD,XE,XF,XG,beq_self_eq_true,reduceIte,reduceCtorEq,↓reduceIte,XH,XI,XJ, e2, e3, e4, hR'.len, hz, ei', hR'.sliceTo i]))
      refine ⟨fun _ => ?_, fun _ => ?_⟩
      · (repeat (first | with_reducible refine XM ?_ | with_reducible refine XN ?_ | dsimp only [ZA,ZB,ZC,ZD,ZE,ZF,ZG,ZH,ZI,ZJ,ZK,ZL,ZM,ZN,ZO,ZP,ZQ,ZR,ZS,ZT,ZU,ZV,ZW,ZX,ZY,ZZ,Za,Zb,Zc,Zd,Ze,Zf,Zg,Zh,Zi,Zj,Zk,Zl,Zm,Zn,Zo,Zp,Zq,Zr,Zs,Zt,Zu,Zv,Zw,Zx,Zy,Zz,YA,YB,YC,YD,YE,YF,YG,YH,YI,YJ,YK,YL,YM,YN,YO,YP,YQ,YR,YS,Env.set,cond_true,cond_false,String.reduceBEq,YT,YU,YV,YW,YX,YY,YZ,Ya,Yb,Yc,Yd,Ye,Yf,Yg] | simp only [Yh,Yi,true_and,Yj,Yk,Yl,Ym,Yn,Yo,Yp,Yq,Yr,Yt,Yu,Yv,Yw,Yx,Yy,Yz,XA,XB,XD,XE,XF,XG,beq_self_eq_true,reduceIte,reduceCtorEq,↓reduceIte,XH,XI,XJ, e2]))
        exact h _ _ r (List.prefix_append _ _) (Nat.le_succ _) hR' rok
      · (repeat (first | with_reducible refine XM ?_ | with_reducible refine XN ?_ | dsimp only [ZA,ZB,ZC,ZD,ZE,ZF,ZG,ZH,ZI,ZJ,ZK,ZL,ZM,ZN,ZO,ZP,ZQ,ZR,ZS,ZT,ZU,ZV,ZW,ZX,ZY,ZZ,Za,Zb,Zc,Zd,Ze,Zf,Zg,Zh,Zi,Zj,Zk,Zl,Zm,Zn,Zo,Zp,Zq,Zr,Zs,Zt,Zu,Zv,Zw,Zx,Zy,Zz,YA,YB,YC,YD,YE,YF,YG,YH,YI,YJ,YK,YL,YM,YN,YO,YP,YQ,YR,YS,Env.set,cond_true,cond_false,String.reduceBEq,YT,YU,YV,YW,YX,YY,YZ,Ya,Yb,Yc,Yd,Ye,Yf,Yg] | simp only [Yh,Yi,true_and,Yj,Yk,Yl,Ym,Yn,Yo,Yp,Yq,Yr,Yt,Yu,Yv,Yw,Yx,Yy,Yz,XA,XB,XD,XE,XF,XG,beq_self_eq_true,reduceIte,reduceCtorEq,↓reduceIte,XH,XI,XJ, e2, e3, hR'.len, hz, ei', hR'.sliceTo i]))
        exact h _ _ (r.take i) ((List.prefix_append _ _).trans (pre_new _ _)) (by simp) (LI.new _ _) (rowOk_take rok i)

theorem s_row_by (hP : P.fn "_law_row_by" = some f__law_row_by) {c : Int} {g m : Nat} {full : Bool} (hm : m ≤ 6)
    (h : ∀ H' r l, H <+: H' → LI H' r l → RowOk l g m → Q (.ref r) H') : callN P b (n + 1) "_law_row_by" [.int c, .int (g : Int), .int (m : Int), .bool full] H Q X :=
  s_row_by2 hP hm fun H' r l hp _ hl ok => h H' r l hp hl ok

theorem s_wishes_by (hP : P.fn "_law_wishes_by" = some f__law_wishes_by) (hP1 : P.fn "_law_cell_at" = some f__law_cell_at) (hP2 : P.fn "_law_row_by" = some f__law_row_by) {a : Nat} {is : List Int} (hs : H[a]? = some (.frozen (is.map .int))) {m : Nat} (h1m : 1 ≤ m) (hm : m ≤ 6)
    (h : ∀ H' r W, H <+: H' → WH H' r W → WOk W → W.length = m → Q (.ref r) H') : callN P b (n + 2) "_law_wishes_by" [.ref a, .int (m : Int)] H Q X := by
  have hml : m ≤ lim := Nat.le_trans hm (by decide)
  have hseq : ∀ {H' : Hp}, H <+: H' → seqOf H' a = some (is.map .int) := fun hp => by unfold seqOf; rw [pre_get hp hs]
  (refine callN_in hP rfl ?_; unfold f__law_wishes_by)
  (repeat (first | dsimp only [XK, XL] | dsimp only [ZA,ZB,ZC,ZD,ZE,ZF,ZG,ZH,ZI,ZJ,ZK,ZL,ZM,ZN,ZO,ZP,ZQ,ZR,ZS,ZT,ZU,ZV,ZW,ZX,ZY,ZZ,Za,Zb,Zc,Zd,Ze,Zf,Zg,Zh,Zi,Zj,Zk,Zl,Zm,Zn,Zo,Zp,Zq,Zr,Zs,Zt,Zu,Zv,Zw,Zx,Zy,Zz,YA,YB,YC,YD,YE,YF,YG,YH,YI,YJ,YK,YL,YM,YN,YO,YP,YQ,YR,YS,Env.set,cond_true,cond_false,String.reduceBEq,YT,YU,YV,YW,YX,YY,YZ,Ya,Yb,Yc,Yd,Ye,Yf,Yg] | simp only [Yh,Yi,true_and,Yj,Yk,Yl,Ym,Yn,Yo,Yp,Yq,Yr,Yt,Yu,Yv,Yw,Yx,Yy,Yz,XA,XB,XD,XE,XF,XG,beq_self_eq_true,reduceIte,reduceCtorEq,↓reduceIte,XH,XI,XJ]))
  refine s_cell_at (k := 1) hP1 (hseq (List.prefix_refl _)) ?_
  (repeat (first | dsimp only [XK, XL] | dsimp only [ZA,ZB,ZC,ZD,ZE,ZF,ZG,ZH,ZI,ZJ,ZK,ZL,ZM,ZN,ZO,ZP,ZQ,ZR,ZS,ZT,ZU,ZV,ZW,ZX,ZY,ZZ,Za,Zb,Zc,Zd,Ze,Zf,Zg,Zh,Zi,Zj,Zk,Zl,Zm,Zn,Zo,Zp,Zq,Zr,Zs,Zt,Zu,Zv,Zw,Zx,Zy,Zz,YA,YB,YC,YD,YE,YF,YG,YH,YI,YJ,YK,YL,YM,YN,YO,YP,YQ,YR,YS,Env.set,cond_true,cond_false,String.reduceBEq,YT,YU,YV,YW,YX,YY,YZ,Ya,Yb,Yc,Yd,Ye,Yf,Yg] | simp only [Yh,Yi,true_and,Yj,Yk,Yl,Ym,Yn,Yo,Yp,Yq,Yr,Yt,Yu,Yv,Yw,Yx,Yy,Yz,XA,XB,XD,XE,XF,XG,beq_self_eq_true,reduceIte,reduceCtorEq,↓reduceIte,XH,XI,XJ, range_nat hml]))
  rw [if_neg (by decide)]
  (repeat (first | dsimp only [XK, XL] | dsimp only [ZA,ZB,ZC,ZD,ZE,ZF,ZG,ZH,ZI,ZJ,ZK,ZL,ZM,ZN,ZO,ZP,ZQ,ZR,ZS,ZT,ZU,ZV,ZW,ZX,ZY,ZZ,Za,Zb,Zc,Zd,Ze,Zf,Zg,Zh,Zi,Zj,Zk,Zl,Zm,Zn,Zo,Zp,Zq,Zr,Zs,Zt,Zu,Zv,Zw,Zx,Zy,Zz,YA,YB,YC,YD,YE,YF,YG,YH,YI,YJ,YK,YL,YM,YN,YO,YP,YQ,YR,YS,Env.set,cond_true,cond_false,String.reduceBEq,YT,YU,YV,YW,YX,YY,YZ,Ya,Yb,Yc,Yd,Ye,Yf,Yg] | simp only [Yh,Yi,true_and,Yj,Yk,Yl,Ym,Yn,Yo,Yp,Yq,Yr,Yt,Yu,Yv,Yw,Yx,Yy,Yz,XA,XB,XD,XE,XF,XG,beq_self_eq_true,reduceIte,reduceCtorEq,↓reduceIte,XH,XI,XJ]))
  refine wLoop_idx (fun i acc H' => H <+: H' ∧ ∃ W : List (List Int), W.length = i ∧ All2 (fun r is => ∃ b, r = V.ref b ∧ LI H' b is) acc W ∧ ∀ j, j < i → RowOk (row W j) j m) ⟨List.prefix_refl _, [], rfl, .nil, by simp⟩ (fun i v acc H' hv hI => ⟨trivial, fun k' h1 h2 => ?_⟩) fun acc H' hI => ⟨trivial, ?_⟩
  · obtain ⟨hi, rfl⟩ := rng_get hv
    obtain ⟨hp, W, hW, hA, hR⟩ := hI
    (repeat (first | dsimp only [XK, XL] | dsimp only [ZA,ZB,ZC,ZD,ZE,ZF,ZG,ZH,ZI,ZJ,ZK,ZL,ZM,ZN,ZO,ZP,ZQ,ZR,ZS,ZT,ZU,ZV,ZW,ZX,ZY,ZZ,Za,Zb,Zc,Zd,Ze,Zf,Zg,Zh,Zi,Zj,Zk,Zl,Zm,Zn,Zo,Zp,Zq,Zr,Zs,Zt,Zu,Zv,Zw,Zx,Zy,Zz,YA,YB,YC,YD,YE,YF,YG,YH,YI,YJ,YK,YL,YM,YN,YO,YP,YQ,YR,YS,Env.set,cond_true,cond_false,String.reduceBEq,YT,YU,YV,YW,YX,YY,YZ,Ya,Yb,Yc,Yd,Ye,Yf,Yg] | simp only [Yh,Yi,true_and,Yj,Yk,Yl,Ym,Yn,Yo,Yp,Yq,Yr,Yt,Yu,Yv,Yw,Yx,Yy,Yz,XA,XB,XD,XE,XF,XG,beq_self_eq_true,reduceIte,reduceCtorEq,↓reduceIte,XH,XI,XJ]))
    have e : (3 : Int) + (i : Int) = ((3 + i : Nat) : Int) := by omega
    rw [e]
    refine s_cell_at (k := 3 + i) hP1 (hseq hp) ?_
    (repeat (first | dsimp only [XK, XL] | dsimp only [ZA,ZB,ZC,ZD,ZE,ZF,ZG,ZH,ZI,ZJ,ZK,ZL,ZM,ZN,ZO,ZP,ZQ,ZR,ZS,ZT,ZU,ZV,ZW,ZX,ZY,ZZ,Za,Zb,Zc,Zd,Ze,Zf,Zg,Zh,Zi,Zj,Zk,Zl,Zm,Zn,Zo,Zp,Zq,Zr,Zs,Zt,Zu,Zv,Zw,Zx,Zy,Zz,YA,YB,YC,YD,YE,YF,YG,YH,YI,YJ,YK,YL,YM,YN,YO,YP,YQ,YR,YS,Env.set,cond_true,cond_false,String.reduceBEq,YT,YU,YV,YW,YX,YY,YZ,Ya,Yb,Yc,Yd,Ye,Yf,Yg] | simp only [Yh,Yi,true_and,Yj,Yk,Yl,Ym,Yn,Yo,Yp,Yq,Yr,Yt,Yu,Yv,Yw,Yx,Yy,Yz,XA,XB,XD,XE,XF,XG,beq_self_eq_true,reduceIte,reduceCtorEq,↓reduceIte,XH,XI,XJ]))
    refine s_row_by hP2 hm fun H'' r l hp' hl rok => ?_
    refine h1 _ _ ⟨hp.trans hp', W ++ [l], by simp [hW], (hA.mono fun _ _ ⟨b, e, q⟩ => ⟨b, e, q.pre hp'⟩).append (.cons ⟨r, rfl, hl⟩ .nil), fun j hj => ?_⟩
    by_cases hji : j < i
    · have : row (W ++ [l]) j = row W j := by unfold row; rw [List.getD_eq_getElem?_getD, List.getD_eq_getElem?_getD, List.getElem?_append_left (by omega)]
      rw [this]; exact hR j hji
    · have : j = i := by omega
      subst this
      have : row (W ++ [l]) j = l := by unfold row; rw [List.getD_eq_getElem?_getD, ← hW]; simp
      rw [this]; exact rok
  · obtain ⟨hp, W, hW, hA, hR⟩ := hI
    rw [rng_len] at hW hR
    refine h _ _ W (hp.trans (pre_new _ _)) ⟨acc, get_new _ _, hA.mono fun _ _ ⟨b, e, q⟩ => ⟨b, e, q.pre (pre_new _ _)⟩⟩ ⟨by omega, by omega, fun j hj => ?_⟩ hW
    rw [hW]; exact hR j (by omega)

end
end Mine

namespace Mine
open PySem

noncomputable def copyE (x y : String) : E := .compS (.op .list [.var y]) (.one y) (.var x) []

theorem WH.read {H : Hp} {w : Nat} {W : List (List Int)} (h : WH H w W) : readD 8 H (.ref w) = some (.list (W.map fun l => .list (l.map .int))) := by
  obtain ⟨rs, h1, h2⟩ := h
  have : rs.mapM (readD 7 H) = some (W.map fun l => PyData.list (l.map .int)) := by
    clear h1
    induction h2 with
    | nil => rfl
    | cons hr _ ih =>
      obtain ⟨b, rfl, hb⟩ := hr
      unfold LI at hb
      rw [List.mapM_cons, ih]
      simp only [rd_n, rd_b, rd_i, rd_s, rd_r, hb, mapM_read]; rfl
  simp [rd_n, rd_b, rd_i, rd_s, rd_r, h1, this]

theorem eqvAll_ints : ∀ l l' : List Int, PyData.eqvAll (l.map .int) (l'.map .int) = decide (l = l')
  | [], [] => rfl
  | [], _ :: _ => by simp [da_nn, da_cc, da_nc, da_cn]
  | _ :: _, [] => by simp [da_nn, da_cc, da_nc, da_cn]
  | i :: l, j :: l' => by
    simp only [List.map_cons, da_nn, da_cc, da_nc, da_cn, dq_ii, dq_nn, dq_in, dq_ni, dq_bb, dq_ss, dq_ll, dq_tt, eqvAll_ints l l', List.cons.injEq]
    by_cases e : i = j <;> simp [e]
theorem eqvAll_rows : ∀ W W' : List (List Int), PyData.eqvAll (W.map fun l => .list (l.map .int)) (W'.map fun l => .list (l.map .int)) = decide (W = W')
  | [], [] => rfl
  | [], _ :: _ => by simp [da_nn, da_cc, da_nc, da_cn]
  | _ :: _, [] => by simp [da_nn, da_cc, da_nc, da_cn]
  | i :: l, j :: l' => by
    simp only [List.map_cons, da_nn, da_cc, da_nc, da_cn, dq_ii, dq_nn, dq_in, dq_ni, dq_bb, dq_ss, dq_ll, dq_tt, eqvAll_rows l l', eqvAll_ints, List.cons.injEq]
    by_cases e : i = j <;> simp [e]
theorem canLay_rows : ∀ W : List (List Int), PyData.canLayAll0 (W.map fun l => .list (l.map .int)) = true
  | [] => rfl
  | l :: W => by simp [ca_n, ca_c, cl_n, cl_b, cl_i, cl_s, cl_l, cl_t, canLay_ints, canLay_rows W]
theorem WH.eq {H : Hp} {w w' : Nat} {W W' : List (List Int)} (h : WH H w W) (h' : WH H w' W') : eqD H (.ref w) (.ref w') = some (decide (W = W')) := by
  simp [eqD, h.read, h'.read, cl_n, cl_b, cl_i, cl_s, cl_l, cl_t, canLay_rows, dq_ii, dq_nn, dq_in, dq_ni, dq_bb, dq_ss, dq_ll, dq_tt, eqvAll_rows]

section
variable {P : Prog} {b : Bool} {n : Nat} {H : Hp} {Q : Post} {X : XP}

end


end Mine

namespace Mine
open PySem

noncomputable def MT (H : Hp) (a : Nat) (M : List (Option Nat)) : Prop := H[a]? = some (.list (M.map ov))
theorem MT.pre {H H' : Hp} {a : Nat} {M : List (Option Nat)} (h : MT H a M) (hp : H <+: H') : MT H' a M := pre_get hp h
theorem MT.item {H : Hp} {a : Nat} {M : List (Option Nat)} (h : MT H a M) {i : Nat} (hi : i < M.length) : itemV (.ref a) (.int (i : Int)) H = some (ov (M.getD i none)) :=
  item_seq (seqOf_list h) (by rw [List.getElem?_map, List.getElem?_eq_getElem hi, List.getD_eq_getElem?_getD, List.getElem?_eq_getElem hi]; rfl)
theorem MT.len {H : Hp} {w : Nat} {M : List (Option Nat)} (h : MT H w M) : lenV (.ref w) H = some (M.length : Int) := by
  unfold lenV; simp [seqOf_list h]
theorem MT.isList {H : Hp} {w : Nat} {M : List (Option Nat)} (h : MT H w M) : isInst (.ref w) ["list"] H = some true := by
  unfold MT at h; simp [isInst, isObj, typesOf, h]

structure MOk (W : List (List Int)) (M : List (Option Nat)) : Prop where
  len : M.length = W.length
  two : ∀ i j, M.getD i none = some j → j < W.length ∧ M.getD j none = some i ∧ both W i j = true

noncomputable def PRv (H : Hp) (v : V) (p : Nat × Nat) : Prop := ∃ b, v = .ref b ∧ H[b]? = some (.tuple [.int (p.1 : Int), .int (p.2 : Int)])
noncomputable def PR (H : Hp) (r : Nat) (ps : List (Nat × Nat)) : Prop := ∃ rs, H[r]? = some (.list rs) ∧ All2 (PRv H) rs ps
theorem PR.len {H : Hp} {w : Nat} {ps : List (Nat × Nat)} (h : PR H w ps) : lenV (.ref w) H = some (ps.length : Int) := by
  obtain ⟨rs, h1, h2⟩ := h
  unfold lenV; simp [seqOf_list h1, h2.length]
theorem pre_set {H H' : Hp} (hp : H <+: H') {r : Nat} (hr : H.length ≤ r) (o : O) : H <+: H'.set r o := by
  obtain ⟨t, rfl⟩ := hp
  rw [List.set_append_right _ _ hr]; exact List.prefix_append _ _
theorem get_set_ne {H : Hp} {r b : Nat} (h : b ≠ r) (o : O) : (H.set r o)[b]? = H[b]? := List.getElem?_set_ne (Ne.symm h)
theorem get_set_eq {H : Hp} {r : Nat} {o' : O} (h : H[r]? = some o') (o : O) : (H.set r o)[r]? = some o := by
  rw [List.getElem?_set_self (List.getElem?_eq_some_iff.mp h).1]

theorem PR.push {H : Hp} {r : Nat} {ps : List (Nat × Nat)} (h : PR H r ps) (hl : ps.length < lim) {i j : Nat} : ∃ H', methV .append [.ref r, .ref H.length] (H ++ [.tuple [.int (i : Int), .int (j : Int)]]) = some (.none, H') ∧ PR H' r (ps ++ [(i, j)]) ∧
    ∀ H₀, H₀ <+: H → H₀.length ≤ r → H₀ <+: H' := by
  obtain ⟨rs, h1, h2⟩ := h
  have h1' := pre_get (pre_new H (.tuple [.int (i : Int), .int (j : Int)])) h1
  refine ⟨_, append_at h1' (by rw [h2.length]; exact hl), ⟨_, get_set_eq h1' _, ?_⟩, fun H₀ hp hr => pre_set (hp.trans (pre_new _ _)) hr _⟩
  have keep : ∀ v p, PRv H v p → PRv ((H ++ [O.tuple [.int (i : Int), .int (j : Int)]]).set r (O.list (rs ++ [V.ref H.length]))) v p := fun v p ⟨b, e, q⟩ => ⟨b, e, by
    rw [get_set_ne (by rintro rfl; rw [h1] at q; cases q)]; exact pre_get (pre_new _ _) q⟩
  refine (h2.mono keep).append (.cons ⟨H.length, rfl, ?_⟩ .nil)
  have hlt := (List.getElem?_eq_some_iff.mp h1).1
  rw [get_set_ne (by omega)]; exact get_new _ _

noncomputable def restAt (W : List (List Int)) (M : List (Option Nat)) (i j : Nat) : Bool := soonerP W i (some j) (M.getD i none) && soonerP W j (some i) (M.getD j none)
noncomputable def rowP (W : List (List Int)) (M : List (Option Nat)) (i d : Nat) : List (Nat × Nat) := ((List.range d).filter fun k => restAt W M i (i + 1 + k)).map fun k => (i, i + 1 + k)
noncomputable def restTo (W : List (List Int)) (M : List (Option Nat)) (i : Nat) : List (Nat × Nat) := (List.range i).flatMap fun i => rowP W M i (W.length - (i + 1))
noncomputable def restP (W : List (List Int)) (M : List (Option Nat)) : List (Nat × Nat) := restTo W M W.length

theorem rowP_succ (W : List (List Int)) (M : List (Option Nat)) (i d : Nat) : rowP W M i (d + 1) = rowP W M i d ++ (if restAt W M i (i + 1 + d) then [(i, i + 1 + d)] else []) := by
  unfold rowP
  rw [List.range_succ, List.filter_append, List.map_append]
  congr 1
  by_cases h : restAt W M i (i + 1 + d) <;> simp [h]
theorem restTo_succ (W : List (List Int)) (M : List (Option Nat)) (i : Nat) : restTo W M (i + 1) = restTo W M i ++ rowP W M i (W.length - (i + 1)) := by
  unfold restTo
  rw [List.range_succ, List.flatMap_append]; simp
theorem rowP_len (W : List (List Int)) (M : List (Option Nat)) (i d : Nat) : (rowP W M i d).length ≤ d := by
  unfold rowP
  rw [List.length_map]; exact Nat.le_trans (List.length_filter_le _ _) (by simp)
theorem restTo_len (W : List (List Int)) (M : List (Option Nat)) (i : Nat) : (restTo W M i).length ≤ i * W.length := by
  induction i with
  | zero => simp [restTo]
  | succ i ih =>
    rw [restTo_succ, List.length_append, Nat.succ_mul]
    have := rowP_len W M i (W.length - (i + 1)); omega

noncomputable def rng2 (a b : Nat) : List V := (List.range (b - a)).map fun k : Nat => V.int ((a + k : Nat) : Int)
theorem rangeI_rng2 (a b : Nat) : (rangeI (a : Int) (b : Int) 1).map V.int = rng2 a b := by
  unfold rangeI rng2
  rw [List.map_map]
  have : (if (a : Int) < b then ((b : Int) - a - 1) / 1 + 1 else 0).toNat = b - a := by split <;> omega
  rw [this]
  refine List.map_congr_left fun k _ => ?_
  simp
theorem rng2_len (a b : Nat) : (rng2 a b).length = b - a := by simp [rng2]
theorem rng2_get {a b i : Nat} {v : V} (h : (rng2 a b)[i]? = some v) : a + i < b ∧ v = .int ((a + i : Nat) : Int) := by
  unfold rng2 at h
  rw [List.getElem?_map] at h
  obtain ⟨j, hj, rfl⟩ := Option.map_eq_some_iff.mp h
  obtain ⟨hl, e⟩ := List.getElem?_eq_some_iff.mp hj
  simp at hl e; subst e; exact ⟨by omega, rfl⟩
theorem range2_nat {a b : Nat} (ha : a ≤ lim) (hb : b ≤ lim) : rangeOf [.int (a : Int), .int (b : Int)] = some (rangeI (a : Int) (b : Int) 1) := by
  unfold rangeOf; simp [ha, hb]

noncomputable def SoonSpec (P : Prog) (b : Bool) (n : Nat) (f : String) : Prop := ∀ {H : Hp} {Q : Post} {X : XP} {w : Nat} {W : List (List Int)}, WH H w W → ∀ {g : Nat}, g < W.length → ∀ {one other : Option Nat}, (∀ i, one = some i → i < W.length) → (∀ i, other = some i → i < W.length) →
  Q (.bool (soonerP W g one other)) H → callN P b n f [.ref w, .int (g : Int), ov one, ov other] H Q X

noncomputable def restFn (w m p o t f : String) : Fn := ⟨[w, m], [.assign p (.op .mkList []),
  .forR o [.op .len [.var w]]
    [.forR t [.op (.bin .add) [.var o, .int 1], .op .len [.var w]]
      [.ite (.and_ [.call f [.var w, .var o, .var t, .op .item [.var m, .var o]], .call f [.var w, .var t, .var o, .op .item [.var m, .var t]]])
        [.expr (.mcall .append (.var p) [.op .mkTuple [.var o, .var t]])]
        []]],
  .ret (.var p)]⟩

section
variable {P : Prog} {b : Bool} {n : Nat} {H : Hp} {Q : Post} {X : XP}

theorem s_restFn {w m p o t f g : String} (hP : P.fn g = some (restFn w m p o t f)) (hf : SoonSpec P b n f) (hn : [w, m, p, o, t].Nodup) {aw am : Nat} {W : List (List Int)} {M : List (Option Nat)} (hw : WH H aw W) (ok : WOk W) (hm : MT H am M) (mok : MOk W M)
    (h : ∀ H' r, H <+: H' → H.length ≤ r → PR H' r (restP W M) → Q (.ref r) H') : callN P b (n + 1) g [.ref aw, .ref am] H Q X := by
  simp only [List.nodup_cons, List.mem_cons, List.not_mem_nil, or_false, not_or, not_false_eq_true, List.nodup_nil, _root_.and_true] at hn
  obtain ⟨⟨wm, wp, wo, wt⟩, ⟨mp, mo, mt⟩, ⟨po, pt⟩, ot⟩ := hn
  have bq : ∀ {a b : String}, ¬ a = b → (a == b) = false := fun h => beq_eq_false_iff_ne.mpr h
  have hl : W.length ≤ lim := Nat.le_trans ok.le (by decide)
  have l6 := ok.le
  have mlen := mok.len
  (refine callN_in hP rfl ?_; unfold restFn)
  (repeat (first | dsimp only [XK, XL] | dsimp only [ZA,ZB,ZC,ZD,ZE,ZF,ZG,ZH,ZI,ZJ,ZK,ZL,ZM,ZN,ZO,ZP,ZQ,ZR,ZS,ZT,ZU,ZV,ZW,ZX,ZY,ZZ,Za,Zb,Zc,Zd,Ze,Zf,Zg,Zh,Zi,Zj,Zk,Zl,Zm,Zn,Zo,Zp,Zq,Zr,Zs,Zt,Zu,Zv,Zw,Zx,Zy,Zz,YA,YB,YC,YD,YE,YF,YG,YH,YI,YJ,YK,YL,YM,YN,YO,YP,YQ,YR,YS,Env.set,cond_true,cond_false,String.reduceBEq,YT,YU,YV,YW,YX,YY,YZ,Ya,Yb,Yc,Yd,Ye,Yf,Yg] | simp only [Yh,Yi,true_and,Yj,Yk,Yl,Ym,Yn,Yo,Yp,Yq,Yr,Yt,Yu,Yv,Yw,Yx,Yy,Yz,XA,XB,XD,XE,XF,XG,beq_self_eq_true,reduceIte,reduceCtorEq,↓reduceIte,XH,XI,XJ, bq wm, (bq (Ne.symm wm)), bq wp, (bq (Ne.symm wp)), hw.pre (pre_new _ _) |>.len, range_nat hl]))
  refine wFor_idx (fun i ρ H' => H <+: H' ∧ PR H' H.length (restTo W M i) ∧ ρ w = some (.ref aw) ∧ ρ m = some (.ref am) ∧ ρ p = some (.ref H.length)) ⟨pre_new _ _, ⟨[], get_new _ _, .nil⟩, by (repeat (first | dsimp only [XK, XL] | dsimp only [ZA,ZB,ZC,ZD,ZE,ZF,ZG,ZH,ZI,ZJ,ZK,ZL,ZM,ZN,ZO,ZP,ZQ,ZR,ZS,ZT,ZU,ZV,ZW,ZX,ZY,ZZ,Za,Zb,Zc,Zd,Ze,Zf,Zg,Zh,Zi,Zj,Zk,Zl,Zm,Zn,Zo,Zp,Zq,Zr,Zs,Zt,Zu,Zv,Zw,Zx,Zy,Zz,YA,YB,YC,YD,YE,YF,YG,YH,YI,YJ,YK,YL,YM,YN,YO,YP,YQ,YR,YS,Env.set,cond_true,cond_false,String.reduceBEq,YT,YU,YV,YW,YX,YY,YZ,Ya,Yb,Yc,Yd,Ye,Yf,Yg] | simp only [Yh,Yi,true_and,Yj,Yk,Yl,Ym,Yn,Yo,Yp,Yq,Yr,Yt,Yu,Yv,Yw,Yx,Yy,Yz,XA,XB,XD,XE,XF,XG,beq_self_eq_true,reduceIte,reduceCtorEq,↓reduceIte,XH,XI,XJ, bq wp, bq wm])), by (repeat (first | dsimp only [XK, XL] | dsimp only [ZA,ZB,ZC,ZD,ZE,ZF,ZG,ZH,ZI,ZJ,ZK,ZL,ZM,ZN,ZO,ZP,ZQ,ZR,ZS,ZT,ZU,ZV,ZW,ZX,ZY,ZZ,Za,Zb,Zc,Zd,Ze,Zf,Zg,Zh,Zi,Zj,Zk,Zl,Zm,Zn,Zo,Zp,Zq,Zr,Zs,Zt,Zu,Zv,Zw,Zx,Zy,Zz,YA,YB,YC,YD,YE,YF,YG,YH,YI,YJ,YK,YL,YM,YN,YO,YP,YQ,YR,YS,Env.set,cond_true,cond_false,String.reduceBEq,YT,YU,YV,YW,YX,YY,YZ,Ya,Yb,Yc,Yd,Ye,Yf,Yg] | simp only [Yh,Yi,true_and,Yj,Yk,Yl,Ym,Yn,Yo,Yp,Yq,Yr,Yt,Yu,Yv,Yw,Yx,Yy,Yz,XA,XB,XD,XE,XF,XG,beq_self_eq_true,reduceIte,reduceCtorEq,↓reduceIte,XH,XI,XJ, bq mp, (bq (Ne.symm wm))])), by (repeat (first | dsimp only [XK, XL] | dsimp only [ZA,ZB,ZC,ZD,ZE,ZF,ZG,ZH,ZI,ZJ,ZK,ZL,ZM,ZN,ZO,ZP,ZQ,ZR,ZS,ZT,ZU,ZV,ZW,ZX,ZY,ZZ,Za,Zb,Zc,Zd,Ze,Zf,Zg,Zh,Zi,Zj,Zk,Zl,Zm,Zn,Zo,Zp,Zq,Zr,Zs,Zt,Zu,Zv,Zw,Zx,Zy,Zz,YA,YB,YC,YD,YE,YF,YG,YH,YI,YJ,YK,YL,YM,YN,YO,YP,YQ,YR,YS,Env.set,cond_true,cond_false,String.reduceBEq,YT,YU,YV,YW,YX,YY,YZ,Ya,Yb,Yc,Yd,Ye,Yf,Yg] | simp only [Yh,Yi,true_and,Yj,Yk,Yl,Ym,Yn,Yo,Yp,Yq,Yr,Yt,Yu,Yv,Yw,Yx,Yy,Yz,XA,XB,XD,XE,XF,XG,beq_self_eq_true,reduceIte,reduceCtorEq,↓reduceIte,XH,XI,XJ]))⟩ (fun i v ρ H' hv hI => ⟨trivial, fun k' h1 h2 => ?_⟩) fun ρ H' hI => ⟨trivial, ?_⟩
  · obtain ⟨hi, rfl⟩ := rng_get hv
    obtain ⟨hp, hpr, e1, e2, e3⟩ := hI
    have ec : (i : Int) + 1 = ((i + 1 : Nat) : Int) := by omega
    (repeat (first | dsimp only [XK, XL] | dsimp only [ZA,ZB,ZC,ZD,ZE,ZF,ZG,ZH,ZI,ZJ,ZK,ZL,ZM,ZN,ZO,ZP,ZQ,ZR,ZS,ZT,ZU,ZV,ZW,ZX,ZY,ZZ,Za,Zb,Zc,Zd,Ze,Zf,Zg,Zh,Zi,Zj,Zk,Zl,Zm,Zn,Zo,Zp,Zq,Zr,Zs,Zt,Zu,Zv,Zw,Zx,Zy,Zz,YA,YB,YC,YD,YE,YF,YG,YH,YI,YJ,YK,YL,YM,YN,YO,YP,YQ,YR,YS,Env.set,cond_true,cond_false,String.reduceBEq,YT,YU,YV,YW,YX,YY,YZ,Ya,Yb,Yc,Yd,Ye,Yf,Yg] | simp only [Yh,Yi,true_and,Yj,Yk,Yl,Ym,Yn,Yo,Yp,Yq,Yr,Yt,Yu,Yv,Yw,Yx,Yy,Yz,XA,XB,XD,XE,XF,XG,beq_self_eq_true,reduceIte,reduceCtorEq,↓reduceIte,XH,XI,XJ, e1, e2, e3, bq wo, (hw.pre hp).len, ec, range2_nat (show i + 1 ≤ lim by omega) hl, rangeI_rng2]))
    refine wFor_idx (fun d ρ H' => H <+: H' ∧ PR H' H.length (restTo W M i ++ rowP W M i d) ∧ ρ w = some (.ref aw) ∧ ρ m = some (.ref am) ∧ ρ p = some (.ref H.length) ∧ ρ o = some (.int (i : Int))) ⟨hp, by simpa [rowP] using hpr, by (repeat (first | dsimp only [XK, XL] | dsimp only [ZA,ZB,ZC,ZD,ZE,ZF,ZG,ZH,ZI,ZJ,ZK,ZL,ZM,ZN,ZO,ZP,ZQ,ZR,ZS,ZT,ZU,ZV,ZW,ZX,ZY,ZZ,Za,Zb,Zc,Zd,Ze,Zf,Zg,Zh,Zi,Zj,Zk,Zl,Zm,Zn,Zo,Zp,Zq,Zr,Zs,Zt,Zu,Zv,Zw,Zx,Zy,Zz,YA,YB,YC,YD,YE,YF,YG,YH,YI,YJ,YK,YL,YM,YN,YO,YP,YQ,YR,YS,Env.set,cond_true,cond_false,String.reduceBEq,YT,YU,YV,YW,YX,YY,YZ,Ya,Yb,Yc,Yd,Ye,Yf,Yg] | simp only [Yh,Yi,true_and,Yj,Yk,Yl,Ym,Yn,Yo,Yp,Yq,Yr,Yt,Yu,Yv,Yw,Yx,Yy,Yz,XA,XB,XD,XE,XF,XG,beq_self_eq_true,reduceIte,reduceCtorEq,↓reduceIte,XH,XI,XJ, bq wo, e1])), by (repeat (first | dsimp only [XK, XL] | dsimp only [ZA,ZB,ZC,ZD,ZE,ZF,ZG,ZH,ZI,ZJ,ZK,ZL,ZM,ZN,ZO,ZP,ZQ,ZR,ZS,ZT,ZU,ZV,ZW,ZX,ZY,ZZ,Za,Zb,Zc,Zd,Ze,Zf,Zg,Zh,Zi,Zj,Zk,Zl,Zm,Zn,Zo,Zp,Zq,Zr,Zs,Zt,Zu,Zv,Zw,Zx,Zy,Zz,YA,YB,YC,YD,YE,YF,YG,YH,YI,YJ,YK,YL,YM,YN,YO,YP,YQ,YR,YS,Env.set,cond_true,cond_false,String.reduceBEq,YT,YU,YV,YW,YX,YY,YZ,Ya,Yb,Yc,Yd,Ye,Yf,Yg] | simp only [Yh,Yi,true_and,Yj,Yk,Yl,Ym,Yn,Yo,Yp,Yq,Yr,Yt,Yu,Yv,Yw,Yx,Yy,Yz,XA,XB,XD,XE,XF,XG,beq_self_eq_true,reduceIte,reduceCtorEq,↓reduceIte,XH,XI,XJ, bq mo, e2])), by (repeat (first | dsimp only [XK, XL] | dsimp only [ZA,ZB,ZC,ZD,ZE,ZF,ZG,ZH,ZI,ZJ,ZK,ZL,ZM,ZN,ZO,ZP,ZQ,ZR,ZS,ZT,ZU,ZV,ZW,ZX,ZY,ZZ,Za,Zb,Zc,Zd,Ze,Zf,Zg,Zh,Zi,Zj,Zk,Zl,Zm,Zn,Zo,Zp,Zq,Zr,Zs,Zt,Zu,Zv,Zw,Zx,Zy,Zz,YA,YB,YC,YD,YE,YF,YG,YH,YI,YJ,YK,YL,YM,YN,YO,YP,YQ,YR,YS,Env.set,cond_true,cond_false,String.reduceBEq,YT,YU,YV,YW,YX,YY,YZ,Ya,Yb,Yc,Yd,Ye,Yf,Yg] | simp only [Yh,Yi,true_and,Yj,Yk,Yl,Ym,Yn,Yo,Yp,Yq,Yr,Yt,Yu,Yv,Yw,Yx,Yy,Yz,XA,XB,XD,XE,XF,XG,beq_self_eq_true,reduceIte,reduceCtorEq,↓reduceIte,XH,XI,XJ, bq po, e3])), by (repeat (first | dsimp only [XK, XL] | dsimp only [ZA,ZB,ZC,ZD,ZE,ZF,ZG,ZH,ZI,ZJ,ZK,ZL,ZM,ZN,ZO,ZP,ZQ,ZR,ZS,ZT,ZU,ZV,ZW,ZX,ZY,ZZ,Za,Zb,Zc,Zd,Ze,Zf,Zg,Zh,Zi,Zj,Zk,Zl,Zm,Zn,Zo,Zp,Zq,Zr,Zs,Zt,Zu,Zv,Zw,Zx,Zy,Zz,YA,YB,YC,YD,YE,YF,YG,YH,YI,YJ,YK,YL,YM,YN,YO,YP,YQ,YR,YS,Env.set,cond_true,cond_false,String.reduceBEq,YT,YU,YV,YW,YX,YY,YZ,Ya,Yb,Yc,Yd,Ye,Yf,Yg] | simp only [Yh,Yi,true_and,Yj,Yk,Yl,Ym,Yn,Yo,Yp,Yq,Yr,Yt,Yu,Yv,Yw,Yx,Yy,Yz,XA,XB,XD,XE,XF,XG,beq_self_eq_true,reduceIte,reduceCtorEq,↓reduceIte,XH,XI,XJ]))⟩ (fun d v ρ H' hv hI => ⟨trivial, fun k'' g1 g2 => ?_⟩) fun ρ H' hI => ⟨trivial, ?_⟩
    · obtain ⟨hd, rfl⟩ := rng2_get hv
      obtain ⟨hp, hpr, e1, e2, e3, e4⟩ := hI
      have hw' := hw.pre hp
      have hm' := hm.pre hp
      have ho : ∀ {i k}, M.getD i none = some k → k < W.length := fun q => (mok.two _ _ q).1
      (repeat (first | dsimp only [XK, XL] | dsimp only [ZA,ZB,ZC,ZD,ZE,ZF,ZG,ZH,ZI,ZJ,ZK,ZL,ZM,ZN,ZO,ZP,ZQ,ZR,ZS,ZT,ZU,ZV,ZW,ZX,ZY,ZZ,Za,Zb,Zc,Zd,Ze,Zf,Zg,Zh,Zi,Zj,Zk,Zl,Zm,Zn,Zo,Zp,Zq,Zr,Zs,Zt,Zu,Zv,Zw,Zx,Zy,Zz,YA,YB,YC,YD,YE,YF,YG,YH,YI,YJ,YK,YL,YM,YN,YO,YP,YQ,YR,YS,Env.set,cond_true,cond_false,String.reduceBEq,YT,YU,YV,YW,YX,YY,YZ,Ya,Yb,Yc,Yd,Ye,Yf,Yg] | simp only [Yh,Yi,true_and,Yj,Yk,Yl,Ym,Yn,Yo,Yp,Yq,Yr,Yt,Yu,Yv,Yw,Yx,Yy,Yz,XA,XB,XD,XE,XF,XG,beq_self_eq_true,reduceIte,reduceCtorEq,↓reduceIte,XH,XI,XJ, e1, e2, e3, e4, bq wt, bq mt, bq pt, bq ot, hm'.item (show i < M.length by omega), hm'.item (show i + 1 + d < M.length by omega)]))
      refine hf hw' hi (one := some (i + 1 + d)) (fun k q => by cases q; omega) (fun k q => ho q) ?_
      have fin : ∀ q, restAt W M i (i + 1 + d) = q → q = false → k'' none (ρ.set t (.int ((i + 1 + d : Nat) : Int))) H' := fun q hq hf => by
        refine g1 _ _ ⟨hp, ?_, by (repeat (first | dsimp only [XK, XL] | dsimp only [ZA,ZB,ZC,ZD,ZE,ZF,ZG,ZH,ZI,ZJ,ZK,ZL,ZM,ZN,ZO,ZP,ZQ,ZR,ZS,ZT,ZU,ZV,ZW,ZX,ZY,ZZ,Za,Zb,Zc,Zd,Ze,Zf,Zg,Zh,Zi,Zj,Zk,Zl,Zm,Zn,Zo,Zp,Zq,Zr,Zs,Zt,Zu,Zv,Zw,Zx,Zy,Zz,YA,YB,YC,YD,YE,YF,YG,YH,YI,YJ,YK,YL,YM,YN,YO,YP,YQ,YR,YS,Env.set,cond_true,cond_false,String.reduceBEq,YT,YU,YV,YW,YX,YY,YZ,Ya,Yb,Yc,Yd,Ye,Yf,Yg] | simp only [Yh,Yi,true_and,Yj,Yk,Yl,Ym,Yn,Yo,Yp,Yq,Yr,Yt,Yu,Yv,Yw,Yx,Yy,Yz,XA,XB,XD,XE,XF,XG,beq_self_eq_true,reduceIte,reduceCtorEq,↓reduceIte,XH,XI,XJ, bq wt, e1])), by (repeat (first | dsimp only [XK, XL] | dsimp only [ZA,ZB,ZC,ZD,ZE,ZF,ZG,ZH,ZI,ZJ,ZK,ZL,ZM,ZN,ZO,ZP,ZQ,ZR,ZS,ZT,ZU,ZV,ZW,ZX,ZY,ZZ,Za,Zb,Zc,Zd,Ze,Zf,Zg,Zh,Zi,Zj,Zk,Zl,Zm,Zn,Zo,Zp,Zq,Zr,Zs,Zt,Zu,Zv,Zw,Zx,Zy,Zz,YA,YB,YC,YD,YE,YF,YG,YH,YI,YJ,YK,YL,YM,YN,YO,YP,YQ,YR,YS,Env.set,cond_true,cond_false,String.reduceBEq,YT,YU,YV,YW,YX,YY,YZ,Ya,Yb,Yc,Yd,Ye,Yf,Yg] | simp only [Yh,Yi,true_and,Yj,Yk,Yl,Ym,Yn,Yo,Yp,Yq,Yr,Yt,Yu,Yv,Yw,Yx,Yy,Yz,XA,XB,XD,XE,XF,XG,beq_self_eq_true,reduceIte,reduceCtorEq,↓reduceIte,XH,XI,XJ, bq mt, e2])), by (repeat (first | dsimp only [XK, XL] | dsimp only [ZA,ZB,ZC,ZD,ZE,ZF,ZG,ZH,ZI,ZJ,ZK,ZL,ZM,ZN,ZO,ZP,ZQ,ZR,ZS,ZT,ZU,ZV,ZW,ZX,ZY,ZZ,Za,Zb,Zc,Zd,Ze,Zf,Zg,Zh,Zi,Zj,Zk,Zl,Zm,Zn,Zo,Zp,Zq,Zr,Zs,Zt,Zu,Zv,Zw,Zx,Zy,Zz,YA,YB,YC,YD,YE,YF,YG,YH,YI,YJ,YK,YL,YM,YN,YO,YP,YQ,YR,YS,Env.set,cond_true,cond_false,String.reduceBEq,YT,YU,YV,YW,YX,YY,YZ,Ya,Yb,Yc,Yd,Ye,Yf,Yg] | simp only [Yh,Yi,true_and,Yj,Yk,Yl,Ym,Yn,Yo,Yp,Yq,Yr,Yt,Yu,Yv,Yw,Yx,Yy,Yz,XA,XB,XD,XE,XF,XG,beq_self_eq_true,reduceIte,reduceCtorEq,↓reduceIte,XH,XI,XJ, bq pt, e3])), by (repeat (first | dsimp only [XK, XL] | dsimp only [ZA,ZB,ZC,ZD,ZE,ZF,ZG,ZH,ZI,ZJ,ZK,ZL,ZM,ZN,ZO,ZP,ZQ,ZR,ZS,ZT,ZU,ZV,ZW,ZX,ZY,ZZ,Za,Zb,Zc,Zd,Ze,Zf,Zg,Zh,Zi,Zj,Zk,Zl,Zm,Zn,Zo,Zp,Zq,Zr,Zs,Zt,Zu,Zv,Zw,Zx,Zy,Zz,YA,YB,YC,YD,YE,YF,YG,YH,YI,YJ,YK,YL,YM,YN,YO,YP,YQ,YR,YS,Env.set,cond_true,cond_false,String.reduceBEq,YT,YU,YV,YW,YX,YY,YZ,Ya,Yb,Yc,Yd,Ye,Yf,Yg] | simp only [Yh,Yi,true_and,Yj,Yk,Yl,Ym,Yn,Yo,Yp,Yq,Yr,Yt,Yu,Yv,Yw,Yx,Yy,Yz,XA,XB,XD,XE,XF,XG,beq_self_eq_true,reduceIte,reduceCtorEq,↓reduceIte,XH,XI,XJ, bq ot, e4]))⟩
        rw [rowP_succ, hq, hf]; simpa using hpr
      cases q1 : soonerP W i (some (i + 1 + d)) (M.getD i none) with
      | false => (repeat (first | dsimp only [XK, XL] | dsimp only [ZA,ZB,ZC,ZD,ZE,ZF,ZG,ZH,ZI,ZJ,ZK,ZL,ZM,ZN,ZO,ZP,ZQ,ZR,ZS,ZT,ZU,ZV,ZW,ZX,ZY,ZZ,Za,Zb,Zc,Zd,Ze,Zf,Zg,Zh,Zi,Zj,Zk,Zl,Zm,Zn,Zo,Zp,Zq,Zr,Zs,Zt,Zu,Zv,Zw,Zx,Zy,Zz,YA,YB,YC,YD,YE,YF,YG,YH,YI,YJ,YK,YL,YM,YN,YO,YP,YQ,YR,YS,Env.set,cond_true,cond_false,String.reduceBEq,YT,YU,YV,YW,YX,YY,YZ,Ya,Yb,Yc,Yd,Ye,Yf,Yg] | simp only [Yh,Yi,true_and,Yj,Yk,Yl,Ym,Yn,Yo,Yp,Yq,Yr,Yt,Yu,Yv,Yw,Yx,Yy,Yz,XA,XB,XD,XE,XF,XG,beq_self_eq_true,reduceIte,reduceCtorEq,↓reduceIte,XH,XI,XJ])); exact fin _ rfl (by unfold restAt; rw [q1]; rfl)
      | true =>
        (repeat (first | dsimp only [XK, XL] | dsimp only [ZA,ZB,ZC,ZD,ZE,ZF,ZG,ZH,ZI,ZJ,ZK,ZL,ZM,ZN,ZO,ZP,ZQ,ZR,ZS,ZT,ZU,ZV,ZW,ZX,ZY,ZZ,Za,Zb,Zc,Zd,Ze,Zf,Zg,Zh,Zi,Zj,Zk,Zl,Zm,Zn,Zo,Zp,Zq,Zr,Zs,Zt,Zu,Zv,Zw,Zx,Zy,Zz,YA,YB,YC,YD,YE,YF,YG,YH,YI,YJ,YK,YL,YM,YN,YO,YP,YQ,YR,YS,Env.set,cond_true,cond_false,String.reduceBEq,YT,YU,YV,YW,YX,YY,YZ,Ya,Yb,Yc,Yd,Ye,Yf,Yg] | simp only [Yh,Yi,true_and,Yj,Yk,Yl,Ym,Yn,Yo,Yp,Yq,Yr,Yt,Yu,Yv,Yw,Yx,Yy,Yz,XA,XB,XD,XE,XF,XG,beq_self_eq_true,reduceIte,reduceCtorEq,↓reduceIte,XH,XI,XJ, hm'.item (show i + 1 + d < M.length by omega)]))
        refine hf hw' (show i + 1 + d < W.length by omega) (one := some i) (fun k q => by cases q; omega) (fun k q => ho q) ?_
        cases q2 : soonerP W (i + 1 + d) (some i) (M.getD (i + 1 + d) none) with
        | false => (repeat (first | dsimp only [XK, XL] | dsimp only [ZA,ZB,ZC,ZD,ZE,ZF,ZG,ZH,ZI,ZJ,ZK,ZL,ZM,ZN,ZO,ZP,ZQ,ZR,ZS,ZT,ZU,ZV,ZW,ZX,ZY,ZZ,Za,Zb,Zc,Zd,Ze,Zf,Zg,Zh,Zi,Zj,Zk,Zl,Zm,Zn,Zo,Zp,Zq,Zr,Zs,Zt,Zu,Zv,Zw,Zx,Zy,Zz,YA,YB,YC,YD,YE,YF,YG,YH,YI,YJ,YK,YL,YM,YN,YO,YP,YQ,YR,YS,Env.set,cond_true,cond_false,String.reduceBEq,YT,YU,YV,YW,YX,YY,YZ,Ya,Yb,Yc,Yd,Ye,Yf,Yg] | simp only [Yh,Yi,true_and,Yj,Yk,Yl,Ym,Yn,Yo,Yp,Yq,Yr,Yt,Yu,Yv,Yw,Yx,Yy,Yz,XA,XB,XD,XE,XF,XG,beq_self_eq_true,reduceIte,reduceCtorEq,↓reduceIte,XH,XI,XJ])); exact fin _ rfl (by unfold restAt; rw [q1, q2]; rfl)
        | true =>
          have hlen : (restTo W M i ++ rowP W M i d).length < lim := by
            rw [List.length_append]
            have a1 := restTo_len W M i
            have a2 := rowP_len W M i d
            have a3 : i * W.length ≤ 6 * 6 := Nat.mul_le_mul (by omega) (by omega)
            unfold lim; omega
          obtain ⟨H'', hap, hpr', hpre⟩ := hpr.push hlen (i := i) (j := i + 1 + d)
          obtain ⟨rs, hrs, _⟩ := hpr
          (repeat (first | dsimp only [XK, XL] | dsimp only [ZA,ZB,ZC,ZD,ZE,ZF,ZG,ZH,ZI,ZJ,ZK,ZL,ZM,ZN,ZO,ZP,ZQ,ZR,ZS,ZT,ZU,ZV,ZW,ZX,ZY,ZZ,Za,Zb,Zc,Zd,Ze,Zf,Zg,Zh,Zi,Zj,Zk,Zl,Zm,Zn,Zo,Zp,Zq,Zr,Zs,Zt,Zu,Zv,Zw,Zx,Zy,Zz,YA,YB,YC,YD,YE,YF,YG,YH,YI,YJ,YK,YL,YM,YN,YO,YP,YQ,YR,YS,Env.set,cond_true,cond_false,String.reduceBEq,YT,YU,YV,YW,YX,YY,YZ,Ya,Yb,Yc,Yd,Ye,Yf,Yg] | simp only [Yh,Yi,true_and,Yj,Yk,Yl,Ym,Yn,Yo,Yp,Yq,Yr,Yt,Yu,Yv,Yw,Yx,Yy,Yz,XA,XB,XD,XE,XF,XG,beq_self_eq_true,reduceIte,reduceCtorEq,↓reduceIte,XH,XI,XJ, e1, e2, e3, e4, bq wt, bq mt, bq pt, bq ot, (recvL hrs).1, hap]))
          refine g1 _ _ ⟨hpre H hp (Nat.le_refl _), ?_, by (repeat (first | dsimp only [XK, XL] | dsimp only [ZA,ZB,ZC,ZD,ZE,ZF,ZG,ZH,ZI,ZJ,ZK,ZL,ZM,ZN,ZO,ZP,ZQ,ZR,ZS,ZT,ZU,ZV,ZW,ZX,ZY,ZZ,Za,Zb,Zc,Zd,Ze,Zf,Zg,Zh,Zi,Zj,Zk,Zl,Zm,Zn,Zo,Zp,Zq,Zr,Zs,Zt,Zu,Zv,Zw,Zx,Zy,Zz,YA,YB,YC,YD,YE,YF,YG,YH,YI,YJ,YK,YL,YM,YN,YO,YP,YQ,YR,YS,Env.set,cond_true,cond_false,String.reduceBEq,YT,YU,YV,YW,YX,YY,YZ,Ya,Yb,Yc,Yd,Ye,Yf,Yg] | simp only [Yh,Yi,true_and,Yj,Yk,Yl,Ym,Yn,Yo,Yp,Yq,Yr,Yt,Yu,Yv,Yw,Yx,Yy,Yz,XA,XB,XD,XE,XF,XG,beq_self_eq_true,reduceIte,reduceCtorEq,↓reduceIte,XH,XI,XJ, bq wt, e1])), by (repeat (first | dsimp only [XK, XL] | dsimp only [ZA,ZB,ZC,ZD,ZE,ZF,ZG,ZH,ZI,ZJ,ZK,ZL,ZM,ZN,ZO,ZP,ZQ,ZR,ZS,ZT,ZU,ZV,ZW,ZX,ZY,ZZ,Za,Zb,Zc,Zd,Ze,Zf,Zg,Zh,Zi,Zj,Zk,Zl,Zm,Zn,Zo,Zp,Zq,Zr,Zs,Zt,Zu,Zv,Zw,Zx,Zy,Zz,YA,YB,YC,YD,YE,YF,YG,YH,YI,YJ,YK,YL,YM,YN,YO,YP,YQ,YR,YS,Env.set,cond_true,cond_false,String.reduceBEq,YT,YU,YV,YW,YX,YY,YZ,Ya,Yb,Yc,Yd,Ye,Yf,Yg] | simp only [Yh,Yi,true_and,Yj,Yk,Yl,Ym,Yn,Yo,Yp,Yq,Yr,Yt,Yu,Yv,Yw,Yx,Yy,Yz,XA,XB,XD,XE,XF,XG,beq_self_eq_true,reduceIte,reduceCtorEq,↓reduceIte,XH,XI,XJ, bq mt, e2])), by (repeat (first | dsimp only [XK, XL] | dsimp only [ZA,ZB,ZC,ZD,ZE,ZF,ZG,ZH,ZI,ZJ,ZK,ZL,ZM,ZN,ZO,ZP,ZQ,ZR,ZS,ZT,ZU,ZV,ZW,ZX,ZY,ZZ,Za,Zb,Zc,Zd,Ze,Zf,Zg,Zh,Zi,Zj,Zk,Zl,Zm,Zn,Zo,Zp,Zq,Zr,Zs,Zt,Zu,Zv,Zw,Zx,Zy,Zz,YA,YB,YC,YD,YE,YF,YG,YH,YI,YJ,YK,YL,YM,YN,YO,YP,YQ,YR,YS,Env.set,cond_true,cond_false,String.reduceBEq,YT,YU,YV,YW,YX,YY,YZ,Ya,Yb,Yc,Yd,Ye,Yf,Yg] | simp only [Yh,Yi,true_and,Yj,Yk,Yl,Ym,Yn,Yo,Yp,Yq,Yr,Yt,Yu,Yv,Yw,Yx,Yy,Yz,XA,XB,XD,XE,XF,XG,beq_self_eq_true,reduceIte,reduceCtorEq,↓reduceIte,XH,XI,XJ, bq pt, e3])), by (repeat (first | dsimp only [XK, XL] | dsimp only [ZA,ZB,ZC,ZD,ZE,ZF,ZG,ZH,ZI,ZJ,ZK,ZL,ZM,ZN,ZO,ZP,ZQ,ZR,ZS,ZT,ZU,ZV,ZW,ZX,ZY,ZZ,Za,Zb,Zc,Zd,Ze,Zf,Zg,Zh,Zi,Zj,Zk,Zl,Zm,Zn,Zo,Zp,Zq,Zr,Zs,Zt,Zu,Zv,Zw,Zx,Zy,Zz,YA,YB,YC,YD,YE,YF,YG,YH,YI,YJ,YK,YL,YM,YN,YO,YP,YQ,YR,YS,Env.set,cond_true,cond_false,String.reduceBEq,YT,YU,YV,YW,YX,YY,YZ,Ya,Yb,Yc,Yd,Ye,Yf,Yg] | simp only [Yh,Yi,true_and,Yj,Yk,Yl,Ym,Yn,Yo,Yp,Yq,Yr,Yt,Yu,Yv,Yw,Yx,Yy,Yz,XA,XB,XD,XE,XF,XG,beq_self_eq_true,reduceIte,reduceCtorEq,↓reduceIte,XH,XI,XJ, bq ot, e4]))⟩
          rw [rowP_succ, ← List.append_assoc]
          have : restAt W M i (i + 1 + d) = true := by unfold restAt; rw [q1, q2]; rfl
          rw [this]; exact hpr'
    · obtain ⟨hp, hpr, e1, e2, e3, e4⟩ := hI
      rw [rng2_len] at hpr
      refine h1 _ _ ⟨hp, ?_, e1, e2, e3⟩
      rw [restTo_succ]; exact hpr
  · obtain ⟨hp, hpr, e1, e2, e3⟩ := hI
    rw [rng_len] at hpr
    (repeat (first | dsimp only [XK, XL] | dsimp only [ZA,ZB,ZC,ZD,ZE,ZF,ZG,ZH,ZI,ZJ,ZK,ZL,ZM,ZN,ZO,ZP,ZQ,ZR,ZS,ZT,ZU,ZV,ZW,ZX,ZY,ZZ,Za,Zb,Zc,Zd,Ze,Zf,Zg,Zh,Zi,Zj,Zk,Zl,Zm,Zn,Zo,Zp,Zq,Zr,Zs,Zt,Zu,Zv,Zw,Zx,Zy,Zz,YA,YB,YC,YD,YE,YF,YG,YH,YI,YJ,YK,YL,YM,YN,YO,YP,YQ,YR,YS,Env.set,cond_true,cond_false,String.reduceBEq,YT,YU,YV,YW,YX,YY,YZ,Ya,Yb,Yc,Yd,Ye,Yf,Yg] | simp only [Yh,Yi,true_and,Yj,Yk,Yl,Ym,Yn,Yo,Yp,Yq,Yr,Yt,Yu,Yv,Yw,Yx,Yy,Yz,XA,XB,XD,XE,XF,XG,beq_self_eq_true,reduceIte,reduceCtorEq,↓reduceIte,XH,XI,XJ, e3]))
    exact h _ _ hp (Nat.le_refl _) hpr

end
end Mine

namespace Mine
open PySem

section
variable {P : Prog} {b : Bool} {n : Nat} {H : Hp} {Q : Post} {X : XP}

theorem getD_set {α : Type} (l : List α) (i j : Nat) (x d : α) (hi : i < l.length) : (l.set i x).getD j d = if i = j then x else l.getD j d := by
  rw [List.getD_eq_getElem?_getD, List.getD_eq_getElem?_getD, List.getElem?_set]
  split
  · rename_i e; subst e; simp [hi]
  · rfl

theorem MOk.pair {W : List (List Int)} {M : List (Option Nat)} (h : MOk W M) {g x : Nat} (hg : g < W.length) (hx : x < W.length) (hne : x ≠ g) (eg : M.getD g none = none) (ex : M.getD x none = none) (hb : both W g x = true) : MOk W ((M.set g (some x)).set x (some g)) := by
  have hl := h.len
  have hb' : both W x g = true := by unfold both at hb ⊢; rw [Bool.and_comm]; exact hb
  refine ⟨by simp [hl], fun i j hij => ?_⟩
  rw [getD_set _ _ _ _ _ (by simp; omega), getD_set _ _ _ _ _ (by omega)] at hij
  rw [getD_set _ _ _ _ _ (by simp; omega), getD_set _ _ _ _ _ (by omega)]
  by_cases hxi : x = i
  · rw [if_pos hxi] at hij; cases hij
    subst hxi
    exact ⟨hg, by rw [if_neg hne, if_pos rfl], hb'⟩
  · rw [if_neg hxi] at hij
    by_cases hgi : g = i
    · rw [if_pos hgi] at hij; cases hij
      subst hgi
      exact ⟨hx, by rw [if_pos rfl], hb⟩
    · rw [if_neg hgi] at hij
      obtain ⟨a1, a2, a3⟩ := h.two i j hij
      have n1 : x ≠ j := by rintro rfl; rw [ex] at a2; cases a2
      have n2 : g ≠ j := by rintro rfl; rw [eg] at a2; cases a2
      exact ⟨a1, by rw [if_neg n1, if_neg n2]; exact a2, a3⟩

theorem MT.set {a : Nat} {M : List (Option Nat)} (h : MT H a M) {i : Nat} (hi : i < M.length) (x : Option Nat) : setV (.ref a) (.int (i : Int)) (ov x) H = some (H.set a (.list ((M.set i x).map ov))) ∧ MT (H.set a (.list ((M.set i x).map ov))) a (M.set i x) := by
  have h' := h
  unfold MT at h'
  have e : (M.map ov).set i (ov x) = (M.set i x).map ov := by rw [List.map_set]
  refine ⟨?_, get_set_eq h' _⟩
  rw [set_seq h' (by rw [List.length_map]; exact hi), e]

end

noncomputable def od : Option Nat → PyData
  | none => .none
  | some i => .int (i : Int)

theorem MT.readN {H : Hp} {w : Nat} {M : List (Option Nat)} (h : MT H w M) (n : Nat) : readD (n + 1) H (.ref w) = some (.list (M.map od)) := by
  unfold MT at h
  have : ∀ M : List (Option Nat), (M.map ov).mapM (readD n H) = some (M.map od) := by
    intro M
    induction M with
    | nil => rfl
    | cons x M ih =>
      rw [List.map_cons, List.mapM_cons, ih]
      cases x <;> cases n <;> rfl
  simp only [rd_n, rd_b, rd_i, rd_s, rd_r, h, this]; rfl
theorem canLay_od : ∀ M : List (Option Nat), PyData.canLayAll0 (M.map od) = true
  | [] => rfl
  | none :: M => by simp [ca_n, ca_c, cl_n, cl_b, cl_i, cl_s, cl_l, cl_t, od, canLay_od M]
  | some _ :: M => by simp [ca_n, ca_c, cl_n, cl_b, cl_i, cl_s, cl_l, cl_t, od, canLay_od M]
theorem eqv_od : ∀ M M' : List (Option Nat), PyData.eqvAll (M.map od) (M'.map od) = decide (M = M')
  | [], [] => rfl
  | [], _ :: _ => by simp [da_nn, da_cc, da_nc, da_cn]
  | _ :: _, [] => by simp [da_nn, da_cc, da_nc, da_cn]
  | x :: M, y :: M' => by
    rw [List.map_cons, List.map_cons, da_cc, eqv_od M M']
    cases x with
    | none => cases y <;> simp [od, dq_ii, dq_nn, dq_in, dq_ni, dq_bb, dq_ss, dq_ll, dq_tt]
    | some a => cases y with
      | none => simp [od, dq_ii, dq_nn, dq_in, dq_ni, dq_bb, dq_ss, dq_ll, dq_tt]
      | some c =>
        simp only [od, dq_ii, dq_nn, dq_in, dq_ni, dq_bb, dq_ss, dq_ll, dq_tt, List.cons.injEq, Option.some.injEq]
        by_cases e : a = c
        · subst e; simp
        · have : ((a : Int) == (c : Int)) = false := beq_eq_false_iff_ne.mpr (by omega)
          simp [e, this]
end Mine

namespace Mine

noncomputable abbrev Mt := List (Option Nat)

noncomputable def pairM (M : Mt) (g o : Nat) : Mt := (M.set g (some o)).set o (some g)

noncomputable def twos (bo : Nat → Nat → Bool) : Nat → List Nat → Mt → List Mt
  | 0, _, M => [M]
  | _ + 1, [], M => [M]
  | k + 1, g :: r, M => twos bo k r M ++ (r.filter (bo g)).flatMap fun o => twos bo k (r.filter (· != o)) (pairM M g o)

noncomputable def cnt (bo : Nat → Nat → Bool) : Nat → List Nat → Nat
  | 0, _ => 1
  | _ + 1, [] => 1
  | k + 1, g :: r => cnt bo k r + ((r.filter (bo g)).map fun o => cnt bo k (r.filter (· != o))).sum

theorem twos_len (bo : Nat → Nat → Bool) : ∀ (k : Nat) (l : List Nat) (M : Mt), (twos bo k l M).length = cnt bo k l
  | 0, _, _ => rfl
  | _ + 1, [], _ => rfl
  | k + 1, g :: r, M => by
    rw [twos, cnt, List.length_append, twos_len bo k, List.length_flatMap]
    congr 2
    exact List.map_congr_left fun o _ => twos_len bo k _ _

theorem pairM_len (M : Mt) (g o : Nat) : (pairM M g o).length = M.length := by simp [pairM]
theorem pairM_ne {M : Mt} {g o i : Nat} (h1 : i ≠ g) (h2 : i ≠ o) : (pairM M g o).getD i none = M.getD i none := by
  simp only [pairM, List.getD_eq_getElem?_getD]
  rw [List.getElem?_set_ne (Ne.symm h2), List.getElem?_set_ne (Ne.symm h1)]
theorem twos_all (bo : Nat → Nat → Bool) (p : Mt → Prop) : ∀ (k : Nat) (l : List Nat) (M : Mt), l.Nodup → p M → (∀ x ∈ l, x < M.length ∧ M.getD x none = none) →
    (∀ M g o, p M → g < M.length → o < M.length → g ≠ o → M.getD g none = none → M.getD o none = none → bo g o = true → p (pairM M g o)) → ∀ X ∈ twos bo k l M, p X
  | 0, _, M, _, hp, _, _, X, h => by rw [twos, List.mem_singleton] at h; subst h; exact hp
  | _ + 1, [], M, _, hp, _, _, X, h => by rw [twos, List.mem_singleton] at h; subst h; exact hp
  | k + 1, g :: r, M, hs, hp, hl, step, X, h => by
    rw [twos, List.mem_append, List.mem_flatMap] at h
    obtain ⟨gr, hr⟩ := List.nodup_cons.mp hs
    rcases h with h | ⟨o, ho, h⟩
    · exact twos_all bo p k r M hr hp (fun x hx => hl x (.tail _ hx)) step X h
    · obtain ⟨hor, hb⟩ := List.mem_filter.mp ho
      obtain ⟨g1, g2⟩ := hl g (.head _)
      obtain ⟨o1, o2⟩ := hl o (.tail _ hor)
      have hgo : g ≠ o := fun e => gr (e ▸ hor)
      refine twos_all bo p k _ _ (hr.sublist List.filter_sublist) (step M g o hp g1 o1 hgo g2 o2 hb) (fun x hx => ?_) step X h
      obtain ⟨hxr, hxo⟩ := List.mem_filter.mp hx
      have hxo : x ≠ o := by simpa using hxo
      obtain ⟨q1, q2⟩ := hl x (.tail _ hxr)
      refine ⟨by rw [pairM_len]; exact q1, ?_⟩
      rw [pairM_ne (fun e : x = g => gr (e ▸ hxr)) hxo]; exact q2

end Mine

namespace Mine
open PySem

noncomputable def Fd (H₀ H : Hp) (m t f : Nat) (v : V) (M : Mt) : Prop := ∃ r, v = .ref r ∧ H₀.length ≤ r ∧ r ≠ m ∧ r ≠ t ∧ r ≠ f ∧ MT H r M

structure SS (H₀ H : Hp) (m t f : Nat) (M : Mt) (B : List Bool) (Xs : List Mt) : Prop where
  pre : H₀ <+: H
  m0 : H₀.length ≤ m
  t0 : H₀.length ≤ t
  f0 : H₀.length ≤ f
  mt : m ≠ t
  mf : m ≠ f
  tf : t ≠ f
  hm : MT H m M
  ht : H[t]? = some (.list (B.map .bool))
  hf : ∃ fs, H[f]? = some (.list fs) ∧ All2 (Fd H₀ H m t f) fs Xs

section
variable {H₀ H : Hp} {m t f : Nat} {M : Mt} {B : List Bool} {Xs : List Mt}

theorem SS.setM (h : SS H₀ H m t f M B Xs) {i : Nat} (hi : i < M.length) (x : Option Nat) : ∃ H', setV (.ref m) (.int (i : Int)) (ov x) H = some H' ∧ SS H₀ H' m t f (M.set i x) B Xs := by
  obtain ⟨a, b⟩ := h.hm.set hi x
  obtain ⟨fs, f1, f2⟩ := h.hf
  refine ⟨_, a, pre_set h.pre h.m0 _, h.m0, h.t0, h.f0, h.mt, h.mf, h.tf, b, by rw [get_set_ne (Ne.symm h.mt)]; exact h.ht, fs, by rw [get_set_ne (Ne.symm h.mf)]; exact f1, f2.mono fun v X ⟨r, e, r0, r1, r2, r3, r4⟩ => ⟨r, e, r0, r1, r2, r3, ?_⟩⟩
  unfold MT; rw [get_set_ne r1]; exact r4

theorem SS.setB (h : SS H₀ H m t f M B Xs) {i : Nat} (hi : i < B.length) (x : Bool) : ∃ H', setV (.ref t) (.int (i : Int)) (.bool x) H = some H' ∧ SS H₀ H' m t f M (B.set i x) Xs := by
  have a := set_seq h.ht (i := i) (by rw [List.length_map]; exact hi) (.bool x)
  obtain ⟨fs, f1, f2⟩ := h.hf
  refine ⟨_, a, pre_set h.pre h.t0 _, h.m0, h.t0, h.f0, h.mt, h.mf, h.tf, by unfold MT; rw [get_set_ne h.mt]; exact h.hm, by rw [get_set_eq h.ht, List.map_set], fs, by rw [get_set_ne (Ne.symm h.tf)]; exact f1, f2.mono fun v X ⟨r, e, r0, r1, r2, r3, r4⟩ => ⟨r, e, r0, r1, r2, r3, ?_⟩⟩
  unfold MT; rw [get_set_ne r2]; exact r4

theorem SS.grow (h : SS H₀ H m t f M B Xs) (o : O) : SS H₀ (H ++ [o]) m t f M B Xs := by
  obtain ⟨fs, f1, f2⟩ := h.hf
  exact ⟨h.pre.trans (pre_new _ _), h.m0, h.t0, h.f0, h.mt, h.mf, h.tf, h.hm.pre (pre_new _ _), pre_get (pre_new _ _) h.ht, fs, pre_get (pre_new _ _) f1, f2.mono fun v X ⟨r, e, r0, r1, r2, r3, r4⟩ => ⟨r, e, r0, r1, r2, r3, r4.pre (pre_new _ _)⟩⟩

theorem SS.push (h : SS H₀ H m t f M B Xs) (hl : Xs.length < lim) : ∃ H', methV .append [.ref f, .ref H.length] (H ++ [.list (M.map ov)]) = some (.none, H') ∧ SS H₀ H' m t f M B (Xs ++ [M]) := by
  have g := h.grow (.list (M.map ov))
  obtain ⟨fs, f1, f2⟩ := g.hf
  have hlt : ∀ {a o}, H[a]? = some o → a < H.length := fun q => (List.getElem?_eq_some_iff.mp q).1
  obtain ⟨fs', f1', _⟩ := h.hf
  have a := append_at (v := .ref H.length) f1 (by rw [f2.length]; exact hl)
  refine ⟨_, a, pre_set g.pre h.f0 _, h.m0, h.t0, h.f0, h.mt, h.mf, h.tf, by unfold MT; rw [get_set_ne h.mf]; exact g.hm, by rw [get_set_ne h.tf]; exact g.ht, _, get_set_eq f1 _, ?_⟩
  refine (f2.mono fun v X ⟨r, e, r0, r1, r2, r3, r4⟩ => ⟨r, e, r0, r1, r2, r3, ?_⟩).append (.cons ⟨H.length, rfl, h.pre.length_le, Ne.symm (Nat.ne_of_lt (hlt h.hm)), Ne.symm (Nat.ne_of_lt (hlt h.ht)), Ne.symm (Nat.ne_of_lt (hlt f1')), ?_⟩ .nil)
  · unfold MT; rw [get_set_ne (Ne.symm (Nat.ne_of_lt (hlt f1')))]; exact get_new _ _
  · unfold MT; rw [get_set_ne r3]; exact r4

theorem SS.itemB (h : SS H₀ H m t f M B Xs) {i : Nat} (hi : i < B.length) : itemV (.ref t) (.int (i : Int)) H = some (.bool (B.getD i true)) :=
  item_seq (seqOf_list h.ht) (by rw [List.getElem?_map, List.getElem?_eq_getElem hi, List.getD_eq_getElem?_getD, List.getElem?_eq_getElem hi]; rfl)
end

noncomputable def lf (B : List Bool) (g n : Nat) : List Nat := (List.range' g (n - g)).filter fun i => !B.getD i true

theorem lf_end (B : List Bool) (n : Nat) : lf B n n = [] := by simp [lf]
theorem lf_cons {B : List Bool} {g n : Nat} (h : g < n) : lf B g n = if B.getD g true then lf B (g + 1) n else g :: lf B (g + 1) n := by
  unfold lf
  obtain ⟨d, rfl⟩ : ∃ d, n = g + 1 + d := ⟨n - (g + 1), by omega⟩
  rw [show g + 1 + d - g = d + 1 by omega, show g + 1 + d - (g + 1) = d by omega, List.range'_succ, List.filter_cons]
  cases B.getD g true <;> simp
theorem lf_set {B : List Bool} {g n : Nat} (h : g < B.length) : lf (B.set g true) (g + 1) n = lf B (g + 1) n := by
  unfold lf
  refine List.filter_congr fun i hi => ?_
  have : g + 1 ≤ i := by have := List.mem_range'.mp hi; omega
  rw [getD_set _ _ _ _ _ h, if_neg (by omega)]
theorem lf_set2 {B : List Bool} {g o n : Nat} (hg : g < B.length) (ho : o < B.length) : lf ((B.set g true).set o true) (g + 1) n = (lf B (g + 1) n).filter (· != o) := by
  unfold lf
  rw [List.filter_filter]
  refine List.filter_congr fun i hi => ?_
  have : g + 1 ≤ i := by have := List.mem_range'.mp hi; omega
  rw [getD_set _ _ _ _ _ (by simpa using ho), getD_set _ _ _ _ _ hg, if_neg (show ¬ g = i by omega)]
  by_cases e : o = i
  · subst e; simp
  · have : (i != o) = true := by simp [Ne.symm e]
    rw [if_neg e, this]; simp
theorem lf_mem {B : List Bool} {g n i : Nat} : i ∈ lf B g n ↔ g ≤ i ∧ i < n ∧ B.getD i true = false := by
  unfold lf
  rw [List.mem_filter, List.mem_range'_1]
  constructor
  · rintro ⟨⟨a, b⟩, c⟩; exact ⟨a, by omega, by simpa using c⟩
  · rintro ⟨a, b, c⟩; exact ⟨⟨a, by omega⟩, by simpa using c⟩
theorem set_back {α : Type} {l : List α} {i : Nat} {x : α} (h : l[i]? = some x) (y : α) : (l.set i y).set i x = l := by
  rw [List.set_set]
  obtain ⟨hi, rfl⟩ := List.getElem?_eq_some_iff.mp h
  exact List.set_getElem_self hi
theorem getD_some {α : Type} {l : List α} {i : Nat} {d x : α} (hi : i < l.length) (h : l.getD i d = x) : l[i]? = some x := by
  rw [List.getD_eq_getElem?_getD, List.getElem?_eq_getElem hi] at h
  rw [List.getElem?_eq_getElem hi]; exact congrArg some h
theorem pair_back {M : Mt} {g o : Nat} (hg : M[g]? = some none) (ho : M[o]? = some none) (hne : g ≠ o) : ((pairM M g o).set g none).set o none = M := by
  unfold pairM
  rw [List.set_comm _ _ (Ne.symm hne), List.set_set, List.set_set]
  have e1 : M.set g none = M := by obtain ⟨q, e⟩ := List.getElem?_eq_some_iff.mp hg; rw [← e]; exact List.set_getElem_self q
  have e2 : M.set o none = M := by obtain ⟨q, e⟩ := List.getElem?_eq_some_iff.mp ho; rw [← e]; exact List.set_getElem_self q
  rw [e1, e2]
theorem sub_sum {l m : List Nat} (h : l.Sublist m) : l.sum ≤ m.sum := by
  induction h with
  | slnil => exact Nat.le_refl _
  | cons a _ ih => simp only [List.sum_cons]; omega
  | cons_cons a _ ih => simp only [List.sum_cons]; omega

section
variable {P : Prog} {b : Bool} {n : Nat} {Q : Post} {X : XP}

noncomputable def room (bo : Nat → Nat → Bool) (k : Nat) (l : List Nat) (Xs : List Mt) : Prop := Xs.length + cnt bo k l < lim

set_option maxRecDepth 5000 in
theorem s_settled (hP : P.fn "settled" = some f_settled) (hP1 : P.fn "both_wish" = some f_both_wish) {H₀ : Hp} {w m t f : Nat} {W : List (List Int)} (hw : WH H₀ w W) (ok : WOk W) : ∀ (k : Nat) {H : Hp} {Q : Post} {g : Nat} {M : Mt} {B : List Bool} {Xs : List Mt},
    SS H₀ H m t f M B Xs → M.length = W.length → B.length = W.length → g ≤ W.length → (lf B g W.length).length ≤ k → (∀ i ∈ lf B g W.length, M.getD i none = none) → room (both W) k (lf B g W.length) Xs →
    (∀ H', SS H₀ H' m t f M B (Xs ++ twos (both W) k (lf B g W.length) M) → Q .none H') → callN P b (n + (k + 2)) "settled" [.ref w, .int (g : Int), .ref m, .ref t, .ref f] H Q X := by
  intro k
  induction k with
  | zero =>
    intro H Q g M B Xs ss lm lb hg hk hM hr h
    have hl0 : lf B g W.length = [] := List.length_eq_zero_iff.mp (Nat.le_zero.mp hk)
    rw [hl0] at h hr
    have hw' := hw.pre ss.pre
    (refine callN_in hP rfl ?_; unfold f_settled)
    refine wSs_step fun K hn hrr => ?_
    rw [s_while]
    refine wWhile_ex (fun d ρ H' => ∃ i : Nat, H' = H ∧ d = W.length - i ∧ i ≤ W.length ∧ lf B i W.length = [] ∧ ρ "wishes" = some (.ref w) ∧ ρ "guest" = some (.int (i : Int)) ∧ ρ "mates" = some (.ref m) ∧ ρ "met" = some (.ref t) ∧ ρ "found" = some (.ref f)) (m := W.length - g) ⟨g, rfl, rfl, hg, hl0, rfl, rfl, rfl, rfl, rfl⟩ fun d ρ H' hI k' h1 h2 => ?_
    obtain ⟨i, rfl, rfl, hi, hl, e1, e2, e3, e4, e5⟩ := hI
    (repeat (first | dsimp only [XK, XL] | dsimp only [ZA,ZB,ZC,ZD,ZE,ZF,ZG,ZH,ZI,ZJ,ZK,ZL,ZM,ZN,ZO,ZP,ZQ,ZR,ZS,ZT,ZU,ZV,ZW,ZX,ZY,ZZ,Za,Zb,Zc,Zd,Ze,Zf,Zg,Zh,Zi,Zj,Zk,Zl,Zm,Zn,Zo,Zp,Zq,Zr,Zs,Zt,Zu,Zv,Zw,Zx,Zy,Zz,YA,YB,YC,YD,YE,YF,YG,YH,YI,YJ,YK,YL,YM,YN,YO,YP,YQ,YR,YS,Env.set,cond_true,cond_false,String.reduceBEq,YT,YU,YV,YW,YX,YY,YZ,Ya,Yb,Yc,Yd,Ye,Yf,Yg] | simp only [Yh,Yi,true_and,Yj,Yk,Yl,Ym,Yn,Yo,Yp,Yq,Yr,Yt,Yu,Yv,Yw,Yx,Yy,Yz,XA,XB,XD,XE,XF,XG,beq_self_eq_true,reduceIte,reduceCtorEq,↓reduceIte,XH,XI,XJ, e1, e2, e3, e4, e5, hw'.len]))
    refine ⟨fun q => ?_, fun q => ?_⟩
    · have hi' : i < W.length := by simp at q; exact q
      have hb : B.getD i true = true := by
        cases e : B.getD i true with
        | true => rfl
        | false => rw [lf_cons hi', e] at hl; simp at hl
      (repeat (first | dsimp only [XK, XL] | dsimp only [ZA,ZB,ZC,ZD,ZE,ZF,ZG,ZH,ZI,ZJ,ZK,ZL,ZM,ZN,ZO,ZP,ZQ,ZR,ZS,ZT,ZU,ZV,ZW,ZX,ZY,ZZ,Za,Zb,Zc,Zd,Ze,Zf,Zg,Zh,Zi,Zj,Zk,Zl,Zm,Zn,Zo,Zp,Zq,Zr,Zs,Zt,Zu,Zv,Zw,Zx,Zy,Zz,YA,YB,YC,YD,YE,YF,YG,YH,YI,YJ,YK,YL,YM,YN,YO,YP,YQ,YR,YS,Env.set,cond_true,cond_false,String.reduceBEq,YT,YU,YV,YW,YX,YY,YZ,Ya,Yb,Yc,Yd,Ye,Yf,Yg] | simp only [Yh,Yi,true_and,Yj,Yk,Yl,Ym,Yn,Yo,Yp,Yq,Yr,Yt,Yu,Yv,Yw,Yx,Yy,Yz,XA,XB,XD,XE,XF,XG,beq_self_eq_true,reduceIte,reduceCtorEq,↓reduceIte,XH,XI,XJ, ss.itemB (show i < B.length by omega), hb, e2]))
      refine h1 _ _ _ ?_ ⟨i + 1, rfl, rfl, hi', ?_, by (repeat (first | dsimp only [XK, XL] | dsimp only [ZA,ZB,ZC,ZD,ZE,ZF,ZG,ZH,ZI,ZJ,ZK,ZL,ZM,ZN,ZO,ZP,ZQ,ZR,ZS,ZT,ZU,ZV,ZW,ZX,ZY,ZZ,Za,Zb,Zc,Zd,Ze,Zf,Zg,Zh,Zi,Zj,Zk,Zl,Zm,Zn,Zo,Zp,Zq,Zr,Zs,Zt,Zu,Zv,Zw,Zx,Zy,Zz,YA,YB,YC,YD,YE,YF,YG,YH,YI,YJ,YK,YL,YM,YN,YO,YP,YQ,YR,YS,Env.set,cond_true,cond_false,String.reduceBEq,YT,YU,YV,YW,YX,YY,YZ,Ya,Yb,Yc,Yd,Ye,Yf,Yg] | simp only [Yh,Yi,true_and,Yj,Yk,Yl,Ym,Yn,Yo,Yp,Yq,Yr,Yt,Yu,Yv,Yw,Yx,Yy,Yz,XA,XB,XD,XE,XF,XG,beq_self_eq_true,reduceIte,reduceCtorEq,↓reduceIte,XH,XI,XJ, e1])), by (repeat (first | dsimp only [XK, XL] | dsimp only [ZA,ZB,ZC,ZD,ZE,ZF,ZG,ZH,ZI,ZJ,ZK,ZL,ZM,ZN,ZO,ZP,ZQ,ZR,ZS,ZT,ZU,ZV,ZW,ZX,ZY,ZZ,Za,Zb,Zc,Zd,Ze,Zf,Zg,Zh,Zi,Zj,Zk,Zl,Zm,Zn,Zo,Zp,Zq,Zr,Zs,Zt,Zu,Zv,Zw,Zx,Zy,Zz,YA,YB,YC,YD,YE,YF,YG,YH,YI,YJ,YK,YL,YM,YN,YO,YP,YQ,YR,YS,Env.set,cond_true,cond_false,String.reduceBEq,YT,YU,YV,YW,YX,YY,YZ,Ya,Yb,Yc,Yd,Ye,Yf,Yg] | simp only [Yh,Yi,true_and,Yj,Yk,Yl,Ym,Yn,Yo,Yp,Yq,Yr,Yt,Yu,Yv,Yw,Yx,Yy,Yz,XA,XB,XD,XE,XF,XG,beq_self_eq_true,reduceIte,reduceCtorEq,↓reduceIte,XH,XI,XJ, e2])); rfl, by (repeat (first | dsimp only [XK, XL] | dsimp only [ZA,ZB,ZC,ZD,ZE,ZF,ZG,ZH,ZI,ZJ,ZK,ZL,ZM,ZN,ZO,ZP,ZQ,ZR,ZS,ZT,ZU,ZV,ZW,ZX,ZY,ZZ,Za,Zb,Zc,Zd,Ze,Zf,Zg,Zh,Zi,Zj,Zk,Zl,Zm,Zn,Zo,Zp,Zq,Zr,Zs,Zt,Zu,Zv,Zw,Zx,Zy,Zz,YA,YB,YC,YD,YE,YF,YG,YH,YI,YJ,YK,YL,YM,YN,YO,YP,YQ,YR,YS,Env.set,cond_true,cond_false,String.reduceBEq,YT,YU,YV,YW,YX,YY,YZ,Ya,Yb,Yc,Yd,Ye,Yf,Yg] | simp only [Yh,Yi,true_and,Yj,Yk,Yl,Ym,Yn,Yo,Yp,Yq,Yr,Yt,Yu,Yv,Yw,Yx,Yy,Yz,XA,XB,XD,XE,XF,XG,beq_self_eq_true,reduceIte,reduceCtorEq,↓reduceIte,XH,XI,XJ, e3])), by (repeat (first | dsimp only [XK, XL] | dsimp only [ZA,ZB,ZC,ZD,ZE,ZF,ZG,ZH,ZI,ZJ,ZK,ZL,ZM,ZN,ZO,ZP,ZQ,ZR,ZS,ZT,ZU,ZV,ZW,ZX,ZY,ZZ,Za,Zb,Zc,Zd,Ze,Zf,Zg,Zh,Zi,Zj,Zk,Zl,Zm,Zn,Zo,Zp,Zq,Zr,Zs,Zt,Zu,Zv,Zw,Zx,Zy,Zz,YA,YB,YC,YD,YE,YF,YG,YH,YI,YJ,YK,YL,YM,YN,YO,YP,YQ,YR,YS,Env.set,cond_true,cond_false,String.reduceBEq,YT,YU,YV,YW,YX,YY,YZ,Ya,Yb,Yc,Yd,Ye,Yf,Yg] | simp only [Yh,Yi,true_and,Yj,Yk,Yl,Ym,Yn,Yo,Yp,Yq,Yr,Yt,Yu,Yv,Yw,Yx,Yy,Yz,XA,XB,XD,XE,XF,XG,beq_self_eq_true,reduceIte,reduceCtorEq,↓reduceIte,XH,XI,XJ, e4])), by (repeat (first | dsimp only [XK, XL] | dsimp only [ZA,ZB,ZC,ZD,ZE,ZF,ZG,ZH,ZI,ZJ,ZK,ZL,ZM,ZN,ZO,ZP,ZQ,ZR,ZS,ZT,ZU,ZV,ZW,ZX,ZY,ZZ,Za,Zb,Zc,Zd,Ze,Zf,Zg,Zh,Zi,Zj,Zk,Zl,Zm,Zn,Zo,Zp,Zq,Zr,Zs,Zt,Zu,Zv,Zw,Zx,Zy,Zz,YA,YB,YC,YD,YE,YF,YG,YH,YI,YJ,YK,YL,YM,YN,YO,YP,YQ,YR,YS,Env.set,cond_true,cond_false,String.reduceBEq,YT,YU,YV,YW,YX,YY,YZ,Ya,Yb,Yc,Yd,Ye,Yf,Yg] | simp only [Yh,Yi,true_and,Yj,Yk,Yl,Ym,Yn,Yo,Yp,Yq,Yr,Yt,Yu,Yv,Yw,Yx,Yy,Yz,XA,XB,XD,XE,XF,XG,beq_self_eq_true,reduceIte,reduceCtorEq,↓reduceIte,XH,XI,XJ, e5]))⟩
      · omega
      · rw [lf_cons hi', hb] at hl; simpa using hl
    · have hi' : i = W.length := by simp at q; omega
      subst hi'
      (repeat (first | dsimp only [XK, XL] | dsimp only [ZA,ZB,ZC,ZD,ZE,ZF,ZG,ZH,ZI,ZJ,ZK,ZL,ZM,ZN,ZO,ZP,ZQ,ZR,ZS,ZT,ZU,ZV,ZW,ZX,ZY,ZZ,Za,Zb,Zc,Zd,Ze,Zf,Zg,Zh,Zi,Zj,Zk,Zl,Zm,Zn,Zo,Zp,Zq,Zr,Zs,Zt,Zu,Zv,Zw,Zx,Zy,Zz,YA,YB,YC,YD,YE,YF,YG,YH,YI,YJ,YK,YL,YM,YN,YO,YP,YQ,YR,YS,Env.set,cond_true,cond_false,String.reduceBEq,YT,YU,YV,YW,YX,YY,YZ,Ya,Yb,Yc,Yd,Ye,Yf,Yg] | simp only [Yh,Yi,true_and,Yj,Yk,Yl,Ym,Yn,Yo,Yp,Yq,Yr,Yt,Yu,Yv,Yw,Yx,Yy,Yz,XA,XB,XD,XE,XF,XG,beq_self_eq_true,reduceIte,reduceCtorEq,↓reduceIte,XH,XI,XJ]))
      refine hn _ _ ?_
      obtain ⟨H2, p1, p2⟩ := ss.push (by unfold room cnt at hr; omega)
      obtain ⟨fs, f1, _⟩ := ss.hf
      refine if_do (fun Q hq => by (repeat (first | dsimp only [XK, XL] | dsimp only [ZA,ZB,ZC,ZD,ZE,ZF,ZG,ZH,ZI,ZJ,ZK,ZL,ZM,ZN,ZO,ZP,ZQ,ZR,ZS,ZT,ZU,ZV,ZW,ZX,ZY,ZZ,Za,Zb,Zc,Zd,Ze,Zf,Zg,Zh,Zi,Zj,Zk,Zl,Zm,Zn,Zo,Zp,Zq,Zr,Zs,Zt,Zu,Zv,Zw,Zx,Zy,Zz,YA,YB,YC,YD,YE,YF,YG,YH,YI,YJ,YK,YL,YM,YN,YO,YP,YQ,YR,YS,Env.set,cond_true,cond_false,String.reduceBEq,YT,YU,YV,YW,YX,YY,YZ,Ya,Yb,Yc,Yd,Ye,Yf,Yg] | simp only [Yh,Yi,true_and,Yj,Yk,Yl,Ym,Yn,Yo,Yp,Yq,Yr,Yt,Yu,Yv,Yw,Yx,Yy,Yz,XA,XB,XD,XE,XF,XG,beq_self_eq_true,reduceIte,reduceCtorEq,↓reduceIte,XH,XI,XJ, e1, e2, hw'.len])); exact hq) ?_
      (repeat (first | dsimp only [XK, XL] | dsimp only [ZA,ZB,ZC,ZD,ZE,ZF,ZG,ZH,ZI,ZJ,ZK,ZL,ZM,ZN,ZO,ZP,ZQ,ZR,ZS,ZT,ZU,ZV,ZW,ZX,ZY,ZZ,Za,Zb,Zc,Zd,Ze,Zf,Zg,Zh,Zi,Zj,Zk,Zl,Zm,Zn,Zo,Zp,Zq,Zr,Zs,Zt,Zu,Zv,Zw,Zx,Zy,Zz,YA,YB,YC,YD,YE,YF,YG,YH,YI,YJ,YK,YL,YM,YN,YO,YP,YQ,YR,YS,Env.set,cond_true,cond_false,String.reduceBEq,YT,YU,YV,YW,YX,YY,YZ,Ya,Yb,Yc,Yd,Ye,Yf,Yg] | simp only [Yh,Yi,true_and,Yj,Yk,Yl,Ym,Yn,Yo,Yp,Yq,Yr,Yt,Yu,Yv,Yw,Yx,Yy,Yz,XA,XB,XD,XE,XF,XG,beq_self_eq_true,reduceIte,reduceCtorEq,↓reduceIte,XH,XI,XJ, e3, e5, seqOf_list ss.hm, (recvL f1).1, p1]))
      exact h _ p2
  | succ k ih =>
    intro H Q g M B Xs ss lm lb hg hk hM hr h
    have hw' := hw.pre ss.pre
    have l6 := ok.le
    have hll : W.length ≤ lim := Nat.le_trans ok.le (by decide)
    (refine callN_in hP rfl ?_; unfold f_settled)
    refine wSs_step fun K hn hrr => ?_
    rw [s_while]
    refine wWhile_ex (fun d ρ H' => ∃ i : Nat, H' = H ∧ d = W.length - i ∧ i ≤ W.length ∧ lf B i W.length = lf B g W.length ∧ ρ "wishes" = some (.ref w) ∧ ρ "guest" = some (.int (i : Int)) ∧ ρ "mates" = some (.ref m) ∧ ρ "met" = some (.ref t) ∧ ρ "found" = some (.ref f)) (m := W.length - g) ⟨g, rfl, rfl, hg, rfl, rfl, rfl, rfl, rfl, rfl⟩ fun d ρ H' hI k' h1 h2 => ?_
    obtain ⟨i, rfl, rfl, hi, hl, e1, e2, e3, e4, e5⟩ := hI
    (repeat (first | dsimp only [XK, XL] | dsimp only [ZA,ZB,ZC,ZD,ZE,ZF,ZG,ZH,ZI,ZJ,ZK,ZL,ZM,ZN,ZO,ZP,ZQ,ZR,ZS,ZT,ZU,ZV,ZW,ZX,ZY,ZZ,Za,Zb,Zc,Zd,Ze,Zf,Zg,Zh,Zi,Zj,Zk,Zl,Zm,Zn,Zo,Zp,Zq,Zr,Zs,Zt,Zu,Zv,Zw,Zx,Zy,Zz,YA,YB,YC,YD,YE,YF,YG,YH,YI,YJ,YK,YL,YM,YN,YO,YP,YQ,YR,YS,Env.set,cond_true,cond_false,String.reduceBEq,YT,YU,YV,YW,YX,YY,YZ,Ya,Yb,Yc,Yd,Ye,Yf,Yg] | simp only [Yh,Yi,true_and,Yj,Yk,Yl,Ym,Yn,Yo,Yp,Yq,Yr,Yt,Yu,Yv,Yw,Yx,Yy,Yz,XA,XB,XD,XE,XF,XG,beq_self_eq_true,reduceIte,reduceCtorEq,↓reduceIte,XH,XI,XJ, e1, e2, e3, e4, e5, hw'.len]))
    refine ⟨fun q => ?_, fun q => ?_⟩
    · have hi' : i < W.length := by simp at q; exact q
      (repeat (first | dsimp only [XK, XL] | dsimp only [ZA,ZB,ZC,ZD,ZE,ZF,ZG,ZH,ZI,ZJ,ZK,ZL,ZM,ZN,ZO,ZP,ZQ,ZR,ZS,ZT,ZU,ZV,ZW,ZX,ZY,ZZ,Za,Zb,Zc,Zd,Ze,Zf,Zg,Zh,Zi,Zj,Zk,Zl,Zm,Zn,Zo,Zp,Zq,Zr,Zs,Zt,Zu,Zv,Zw,Zx,Zy,Zz,YA,YB,YC,YD,YE,YF,YG,YH,YI,YJ,YK,YL,YM,YN,YO,YP,YQ,YR,YS,Env.set,cond_true,cond_false,String.reduceBEq,YT,YU,YV,YW,YX,YY,YZ,Ya,Yb,Yc,Yd,Ye,Yf,Yg] | simp only [Yh,Yi,true_and,Yj,Yk,Yl,Ym,Yn,Yo,Yp,Yq,Yr,Yt,Yu,Yv,Yw,Yx,Yy,Yz,XA,XB,XD,XE,XF,XG,beq_self_eq_true,reduceIte,reduceCtorEq,↓reduceIte,XH,XI,XJ, ss.itemB (show i < B.length by omega)]))
      cases hb : B.getD i true with
      | true =>
        (repeat (first | dsimp only [XK, XL] | dsimp only [ZA,ZB,ZC,ZD,ZE,ZF,ZG,ZH,ZI,ZJ,ZK,ZL,ZM,ZN,ZO,ZP,ZQ,ZR,ZS,ZT,ZU,ZV,ZW,ZX,ZY,ZZ,Za,Zb,Zc,Zd,Ze,Zf,Zg,Zh,Zi,Zj,Zk,Zl,Zm,Zn,Zo,Zp,Zq,Zr,Zs,Zt,Zu,Zv,Zw,Zx,Zy,Zz,YA,YB,YC,YD,YE,YF,YG,YH,YI,YJ,YK,YL,YM,YN,YO,YP,YQ,YR,YS,Env.set,cond_true,cond_false,String.reduceBEq,YT,YU,YV,YW,YX,YY,YZ,Ya,Yb,Yc,Yd,Ye,Yf,Yg] | simp only [Yh,Yi,true_and,Yj,Yk,Yl,Ym,Yn,Yo,Yp,Yq,Yr,Yt,Yu,Yv,Yw,Yx,Yy,Yz,XA,XB,XD,XE,XF,XG,beq_self_eq_true,reduceIte,reduceCtorEq,↓reduceIte,XH,XI,XJ, e2]))
        refine h1 _ _ _ ?_ ⟨i + 1, rfl, rfl, hi', ?_, by (repeat (first | dsimp only [XK, XL] | dsimp only [ZA,ZB,ZC,ZD,ZE,ZF,ZG,ZH,ZI,ZJ,ZK,ZL,ZM,ZN,ZO,ZP,ZQ,ZR,ZS,ZT,ZU,ZV,ZW,ZX,ZY,ZZ,Za,Zb,Zc,Zd,Ze,Zf,Zg,Zh,Zi,Zj,Zk,Zl,Zm,Zn,Zo,Zp,Zq,Zr,Zs,Zt,Zu,Zv,Zw,Zx,Zy,Zz,YA,YB,YC,YD,YE,YF,YG,YH,YI,YJ,YK,YL,YM,YN,YO,YP,YQ,YR,YS,Env.set,cond_true,cond_false,String.reduceBEq,YT,YU,YV,YW,YX,YY,YZ,Ya,Yb,Yc,Yd,Ye,Yf,Yg] | simp only [Yh,Yi,true_and,Yj,Yk,Yl,Ym,Yn,Yo,Yp,Yq,Yr,Yt,Yu,Yv,Yw,Yx,Yy,Yz,XA,XB,XD,XE,XF,XG,beq_self_eq_true,reduceIte,reduceCtorEq,↓reduceIte,XH,XI,XJ, e1])), by (repeat (first | dsimp only [XK, XL] | dsimp only [ZA,ZB,ZC,ZD,ZE,ZF,ZG,ZH,ZI,ZJ,ZK,ZL,ZM,ZN,ZO,ZP,ZQ,ZR,ZS,ZT,ZU,ZV,ZW,ZX,ZY,ZZ,Za,Zb,Zc,Zd,Ze,Zf,Zg,Zh,Zi,Zj,Zk,Zl,Zm,Zn,Zo,Zp,Zq,Zr,Zs,Zt,Zu,Zv,Zw,Zx,Zy,Zz,YA,YB,YC,YD,YE,YF,YG,YH,YI,YJ,YK,YL,YM,YN,YO,YP,YQ,YR,YS,Env.set,cond_true,cond_false,String.reduceBEq,YT,YU,YV,YW,YX,YY,YZ,Ya,Yb,Yc,Yd,Ye,Yf,Yg] | simp only [Yh,Yi,true_and,Yj,Yk,Yl,Ym,Yn,Yo,Yp,Yq,Yr,Yt,Yu,Yv,Yw,Yx,Yy,Yz,XA,XB,XD,XE,XF,XG,beq_self_eq_true,reduceIte,reduceCtorEq,↓reduceIte,XH,XI,XJ, e2])); rfl, by (repeat (first | dsimp only [XK, XL] | dsimp only [ZA,ZB,ZC,ZD,ZE,ZF,ZG,ZH,ZI,ZJ,ZK,ZL,ZM,ZN,ZO,ZP,ZQ,ZR,ZS,ZT,ZU,ZV,ZW,ZX,ZY,ZZ,Za,Zb,Zc,Zd,Ze,Zf,Zg,Zh,Zi,Zj,Zk,Zl,Zm,Zn,Zo,Zp,Zq,Zr,Zs,Zt,Zu,Zv,Zw,Zx,Zy,Zz,YA,YB,YC,YD,YE,YF,YG,YH,YI,YJ,YK,YL,YM,YN,YO,YP,YQ,YR,YS,Env.set,cond_true,cond_false,String.reduceBEq,YT,YU,YV,YW,YX,YY,YZ,Ya,Yb,Yc,Yd,Ye,Yf,Yg] | simp only [Yh,Yi,true_and,Yj,Yk,Yl,Ym,Yn,Yo,Yp,Yq,Yr,Yt,Yu,Yv,Yw,Yx,Yy,Yz,XA,XB,XD,XE,XF,XG,beq_self_eq_true,reduceIte,reduceCtorEq,↓reduceIte,XH,XI,XJ, e3])), by (repeat (first | dsimp only [XK, XL] | dsimp only [ZA,ZB,ZC,ZD,ZE,ZF,ZG,ZH,ZI,ZJ,ZK,ZL,ZM,ZN,ZO,ZP,ZQ,ZR,ZS,ZT,ZU,ZV,ZW,ZX,ZY,ZZ,Za,Zb,Zc,Zd,Ze,Zf,Zg,Zh,Zi,Zj,Zk,Zl,Zm,Zn,Zo,Zp,Zq,Zr,Zs,Zt,Zu,Zv,Zw,Zx,Zy,Zz,YA,YB,YC,YD,YE,YF,YG,YH,YI,YJ,YK,YL,YM,YN,YO,YP,YQ,YR,YS,Env.set,cond_true,cond_false,String.reduceBEq,YT,YU,YV,YW,YX,YY,YZ,Ya,Yb,Yc,Yd,Ye,Yf,Yg] | simp only [Yh,Yi,true_and,Yj,Yk,Yl,Ym,Yn,Yo,Yp,Yq,Yr,Yt,Yu,Yv,Yw,Yx,Yy,Yz,XA,XB,XD,XE,XF,XG,beq_self_eq_true,reduceIte,reduceCtorEq,↓reduceIte,XH,XI,XJ, e4])), by (repeat (first | dsimp only [XK, XL] | dsimp only [ZA,ZB,ZC,ZD,ZE,ZF,ZG,ZH,ZI,ZJ,ZK,ZL,ZM,ZN,ZO,ZP,ZQ,ZR,ZS,ZT,ZU,ZV,ZW,ZX,ZY,ZZ,Za,Zb,Zc,Zd,Ze,Zf,Zg,Zh,Zi,Zj,Zk,Zl,Zm,Zn,Zo,Zp,Zq,Zr,Zs,Zt,Zu,Zv,Zw,Zx,Zy,Zz,YA,YB,YC,YD,YE,YF,YG,YH,YI,YJ,YK,YL,YM,YN,YO,YP,YQ,YR,YS,Env.set,cond_true,cond_false,String.reduceBEq,YT,YU,YV,YW,YX,YY,YZ,Ya,Yb,Yc,Yd,Ye,Yf,Yg] | simp only [Yh,Yi,true_and,Yj,Yk,Yl,Ym,Yn,Yo,Yp,Yq,Yr,Yt,Yu,Yv,Yw,Yx,Yy,Yz,XA,XB,XD,XE,XF,XG,beq_self_eq_true,reduceIte,reduceCtorEq,↓reduceIte,XH,XI,XJ, e5]))⟩
        · omega
        · rw [lf_cons hi', hb] at hl; simpa using hl
      | false =>
        (repeat (first | dsimp only [XK, XL] | dsimp only [ZA,ZB,ZC,ZD,ZE,ZF,ZG,ZH,ZI,ZJ,ZK,ZL,ZM,ZN,ZO,ZP,ZQ,ZR,ZS,ZT,ZU,ZV,ZW,ZX,ZY,ZZ,Za,Zb,Zc,Zd,Ze,Zf,Zg,Zh,Zi,Zj,Zk,Zl,Zm,Zn,Zo,Zp,Zq,Zr,Zs,Zt,Zu,Zv,Zw,Zx,Zy,Zz,YA,YB,YC,YD,YE,YF,YG,YH,YI,YJ,YK,YL,YM,YN,YO,YP,YQ,YR,YS,Env.set,cond_true,cond_false,String.reduceBEq,YT,YU,YV,YW,YX,YY,YZ,Ya,Yb,Yc,Yd,Ye,Yf,Yg] | simp only [Yh,Yi,true_and,Yj,Yk,Yl,Ym,Yn,Yo,Yp,Yq,Yr,Yt,Yu,Yv,Yw,Yx,Yy,Yz,XA,XB,XD,XE,XF,XG,beq_self_eq_true,reduceIte,reduceCtorEq,↓reduceIte,XH,XI,XJ]))
        refine hn _ _ ?_
        clear hn hrr h1 h2 q
        have hlc : lf B g W.length = i :: lf B (i + 1) W.length := by rw [← hl, lf_cons hi', hb]; simp
        rw [hlc] at hk hM hr h
        clear hl hlc
        have hne : ((i : Int) == (W.length : Int)) = false := beq_eq_false_iff_ne.mpr (by omega)
        have hBi : B[i]? = some false := getD_some (by omega) hb
        have hMi : M[i]? = some none := getD_some (by omega) (hM i (.head _))
        have ec : (i : Int) + 1 = ((i + 1 : Nat) : Int) := by omega
        have hrk : room (both W) k (lf B (i + 1) W.length) Xs := by unfold room cnt at hr; unfold room; omega
        have hkk : (lf B (i + 1) W.length).length ≤ k := by simp at hk; omega
        obtain ⟨H1, s1, ss1⟩ := ss.setB (show i < B.length by omega) true
        refine if_go (fun Q hq => by (repeat (first | dsimp only [XK, XL] | dsimp only [ZA,ZB,ZC,ZD,ZE,ZF,ZG,ZH,ZI,ZJ,ZK,ZL,ZM,ZN,ZO,ZP,ZQ,ZR,ZS,ZT,ZU,ZV,ZW,ZX,ZY,ZZ,Za,Zb,Zc,Zd,Ze,Zf,Zg,Zh,Zi,Zj,Zk,Zl,Zm,Zn,Zo,Zp,Zq,Zr,Zs,Zt,Zu,Zv,Zw,Zx,Zy,Zz,YA,YB,YC,YD,YE,YF,YG,YH,YI,YJ,YK,YL,YM,YN,YO,YP,YQ,YR,YS,Env.set,cond_true,cond_false,String.reduceBEq,YT,YU,YV,YW,YX,YY,YZ,Ya,Yb,Yc,Yd,Ye,Yf,Yg] | simp only [Yh,Yi,true_and,Yj,Yk,Yl,Ym,Yn,Yo,Yp,Yq,Yr,Yt,Yu,Yv,Yw,Yx,Yy,Yz,XA,XB,XD,XE,XF,XG,beq_self_eq_true,reduceIte,reduceCtorEq,↓reduceIte,XH,XI,XJ, e1, e2, hw'.len, hne])); exact hq) ?_
        refine wSs_step fun K hn hrr => ?_
        (repeat (first | dsimp only [XK, XL] | dsimp only [ZA,ZB,ZC,ZD,ZE,ZF,ZG,ZH,ZI,ZJ,ZK,ZL,ZM,ZN,ZO,ZP,ZQ,ZR,ZS,ZT,ZU,ZV,ZW,ZX,ZY,ZZ,Za,Zb,Zc,Zd,Ze,Zf,Zg,Zh,Zi,Zj,Zk,Zl,Zm,Zn,Zo,Zp,Zq,Zr,Zs,Zt,Zu,Zv,Zw,Zx,Zy,Zz,YA,YB,YC,YD,YE,YF,YG,YH,YI,YJ,YK,YL,YM,YN,YO,YP,YQ,YR,YS,Env.set,cond_true,cond_false,String.reduceBEq,YT,YU,YV,YW,YX,YY,YZ,Ya,Yb,Yc,Yd,Ye,Yf,Yg] | simp only [Yh,Yi,true_and,Yj,Yk,Yl,Ym,Yn,Yo,Yp,Yq,Yr,Yt,Yu,Yv,Yw,Yx,Yy,Yz,XA,XB,XD,XE,XF,XG,beq_self_eq_true,reduceIte,reduceCtorEq,↓reduceIte,XH,XI,XJ, e2, e4, s1]))
        refine hn _ _ ?_
        clear hn hrr K
        refine wSs_step fun K hn hrr => ?_
        (repeat (first | dsimp only [XK, XL] | dsimp only [ZA,ZB,ZC,ZD,ZE,ZF,ZG,ZH,ZI,ZJ,ZK,ZL,ZM,ZN,ZO,ZP,ZQ,ZR,ZS,ZT,ZU,ZV,ZW,ZX,ZY,ZZ,Za,Zb,Zc,Zd,Ze,Zf,Zg,Zh,Zi,Zj,Zk,Zl,Zm,Zn,Zo,Zp,Zq,Zr,Zs,Zt,Zu,Zv,Zw,Zx,Zy,Zz,YA,YB,YC,YD,YE,YF,YG,YH,YI,YJ,YK,YL,YM,YN,YO,YP,YQ,YR,YS,Env.set,cond_true,cond_false,String.reduceBEq,YT,YU,YV,YW,YX,YY,YZ,Ya,Yb,Yc,Yd,Ye,Yf,Yg] | simp only [Yh,Yi,true_and,Yj,Yk,Yl,Ym,Yn,Yo,Yp,Yq,Yr,Yt,Yu,Yv,Yw,Yx,Yy,Yz,XA,XB,XD,XE,XF,XG,beq_self_eq_true,reduceIte,reduceCtorEq,↓reduceIte,XH,XI,XJ, e1, e2, e3, e4, e5, ec]))
        have l1 := lf_set (B := B) (g := i) (n := W.length) (by omega)
        refine ih ss1 lm (by simpa using lb) hi' (by rw [l1]; exact hkk) (by rw [l1]; exact fun j hj => hM j (.tail _ hj)) (by rw [l1]; exact hrk) fun H2 ss2 => ?_
        rw [l1] at ss2
        have hw2 := hw.pre ss2.pre
        refine hn _ _ ?_
        clear hn hrr K
        refine wSs_step fun K hn hrr => ?_
        refine for_range (fun Q' hq => by (repeat (first | dsimp only [XK, XL] | dsimp only [ZA,ZB,ZC,ZD,ZE,ZF,ZG,ZH,ZI,ZJ,ZK,ZL,ZM,ZN,ZO,ZP,ZQ,ZR,ZS,ZT,ZU,ZV,ZW,ZX,ZY,ZZ,Za,Zb,Zc,Zd,Ze,Zf,Zg,Zh,Zi,Zj,Zk,Zl,Zm,Zn,Zo,Zp,Zq,Zr,Zs,Zt,Zu,Zv,Zw,Zx,Zy,Zz,YA,YB,YC,YD,YE,YF,YG,YH,YI,YJ,YK,YL,YM,YN,YO,YP,YQ,YR,YS,Env.set,cond_true,cond_false,String.reduceBEq,YT,YU,YV,YW,YX,YY,YZ,Ya,Yb,Yc,Yd,Ye,Yf,Yg] | simp only [Yh,Yi,true_and,Yj,Yk,Yl,Ym,Yn,Yo,Yp,Yq,Yr,Yt,Yu,Yv,Yw,Yx,Yy,Yz,XA,XB,XD,XE,XF,XG,beq_self_eq_true,reduceIte,reduceCtorEq,↓reduceIte,XH,XI,XJ, e1, e2, hw2.len, ec])); exact hq) (range2_nat (show i + 1 ≤ lim by omega) hll) ?_
        rw [rangeI_rng2]
        have F : ∀ d, d ≤ W.length - (i + 1) → (((List.range' (i + 1) d).filter fun i => !B.getD i true).filter (both W i)).Sublist ((lf B (i + 1) W.length).filter (both W i)) := fun d hd => by
          refine List.Sublist.filter _ (List.Sublist.filter _ ?_)
          obtain ⟨d', e⟩ : ∃ d', W.length - (i + 1) = d + d' := ⟨_, (Nat.add_sub_of_le hd).symm⟩
          rw [e, ← List.range'_append_1]
          exact List.sublist_append_left _ _
        refine wFor_idx (fun d ρ H' => SS H₀ H' m t f M (B.set i true) (Xs ++ twos (both W) k (lf B (i + 1) W.length) M ++ (((List.range' (i + 1) d).filter fun i => !B.getD i true).filter (both W i)).flatMap fun o => twos (both W) k ((lf B (i + 1) W.length).filter (· != o)) (pairM M i o)) ∧
          ρ "wishes" = some (.ref w) ∧ ρ "guest" = some (.int (i : Int)) ∧ ρ "mates" = some (.ref m) ∧ ρ "met" = some (.ref t) ∧ ρ "found" = some (.ref f)) ⟨by simpa using ss2, e1, e2, e3, e4, e5⟩ (fun d v ρ H' hv hI => ⟨trivial, fun k' h1 h2 => ?_⟩) fun ρ H' hI => ⟨trivial, ?_⟩
        · obtain ⟨hd, rfl⟩ := rng2_get hv
          obtain ⟨ss3, e1, e2, e3, e4, e5⟩ := hI
          have hw3 := hw.pre ss3.pre
          have it := ss3.itemB (i := i + 1 + d) (by simp; omega)
          rw [getD_set _ _ _ _ _ (by omega), if_neg (by omega)] at it
          have step : ((List.range' (i + 1) (d + 1)).filter fun i => !B.getD i true).filter (both W i) = ((List.range' (i + 1) d).filter fun i => !B.getD i true).filter (both W i) ++ if !B.getD (i + 1 + d) true && both W i (i + 1 + d) then [i + 1 + d] else [] := by
            rw [List.range'_1_concat, List.filter_append, List.filter_append]
            congr 1
            cases hB : B.getD (i + 1 + d) true <;> cases hq : both W i (i + 1 + d) <;> simp only [List.filter, hB, hq, Bool.not_true, Bool.not_false, Bool.false_and, Bool.true_and, if_true, if_false, Bool.false_eq_true]
          have skip : (!B.getD (i + 1 + d) true && both W i (i + 1 + d)) = false → k' none (ρ.set "other" (.int ((i + 1 + d : Nat) : Int))) H' := fun q => by
            refine h1 _ _ ⟨?_, by (repeat (first | dsimp only [XK, XL] | dsimp only [ZA,ZB,ZC,ZD,ZE,ZF,ZG,ZH,ZI,ZJ,ZK,ZL,ZM,ZN,ZO,ZP,ZQ,ZR,ZS,ZT,ZU,ZV,ZW,ZX,ZY,ZZ,Za,Zb,Zc,Zd,Ze,Zf,Zg,Zh,Zi,Zj,Zk,Zl,Zm,Zn,Zo,Zp,Zq,Zr,Zs,Zt,Zu,Zv,Zw,Zx,Zy,Zz,YA,YB,YC,YD,YE,YF,YG,YH,YI,YJ,YK,YL,YM,YN,YO,YP,YQ,YR,YS,Env.set,cond_true,cond_false,String.reduceBEq,YT,YU,YV,YW,YX,YY,YZ,Ya,Yb,Yc,Yd,Ye,Yf,Yg] | simp only [Yh,Yi,true_and,Yj,Yk,Yl,Ym,Yn,Yo,Yp,Yq,Yr,Yt,Yu,Yv,Yw,Yx,Yy,Yz,XA,XB,XD,XE,XF,XG,beq_self_eq_true,reduceIte,reduceCtorEq,↓reduceIte,XH,XI,XJ, e1])), by (repeat (first | dsimp only [XK, XL] | dsimp only [ZA,ZB,ZC,ZD,ZE,ZF,ZG,ZH,ZI,ZJ,ZK,ZL,ZM,ZN,ZO,ZP,ZQ,ZR,ZS,ZT,ZU,ZV,ZW,ZX,ZY,ZZ,Za,Zb,Zc,Zd,Ze,Zf,Zg,Zh,Zi,Zj,Zk,Zl,Zm,Zn,Zo,Zp,Zq,Zr,Zs,Zt,Zu,Zv,Zw,Zx,Zy,Zz,YA,YB,YC,YD,YE,YF,YG,YH,YI,YJ,YK,YL,YM,YN,YO,YP,YQ,YR,YS,Env.set,cond_true,cond_false,String.reduceBEq,YT,YU,YV,YW,YX,YY,YZ,Ya,Yb,Yc,Yd,Ye,Yf,Yg] | simp only [Yh,Yi,true_and,Yj,Yk,Yl,Ym,Yn,Yo,Yp,Yq,Yr,Yt,Yu,Yv,Yw,Yx,Yy,Yz,XA,XB,XD,XE,XF,XG,beq_self_eq_true,reduceIte,reduceCtorEq,↓reduceIte,XH,XI,XJ, e2])), by (repeat (first | dsimp only [XK, XL] | dsimp only [ZA,ZB,ZC,ZD,ZE,ZF,ZG,ZH,ZI,ZJ,ZK,ZL,ZM,ZN,ZO,ZP,ZQ,ZR,ZS,ZT,ZU,ZV,ZW,ZX,ZY,ZZ,Za,Zb,Zc,Zd,Ze,Zf,Zg,Zh,Zi,Zj,Zk,Zl,Zm,Zn,Zo,Zp,Zq,Zr,Zs,Zt,Zu,Zv,Zw,Zx,Zy,Zz,YA,YB,YC,YD,YE,YF,YG,YH,YI,YJ,YK,YL,YM,YN,YO,YP,YQ,YR,YS,Env.set,cond_true,cond_false,String.reduceBEq,YT,YU,YV,YW,YX,YY,YZ,Ya,Yb,Yc,Yd,Ye,Yf,Yg] | simp only [Yh,Yi,true_and,Yj,Yk,Yl,Ym,Yn,Yo,Yp,Yq,Yr,Yt,Yu,Yv,Yw,Yx,Yy,Yz,XA,XB,XD,XE,XF,XG,beq_self_eq_true,reduceIte,reduceCtorEq,↓reduceIte,XH,XI,XJ, e3])), by (repeat (first | dsimp only [XK, XL] | dsimp only [ZA,ZB,ZC,ZD,ZE,ZF,ZG,ZH,ZI,ZJ,ZK,ZL,ZM,ZN,ZO,ZP,ZQ,ZR,ZS,ZT,ZU,ZV,ZW,ZX,ZY,ZZ,Za,Zb,Zc,Zd,Ze,Zf,Zg,Zh,Zi,Zj,Zk,Zl,Zm,Zn,Zo,Zp,Zq,Zr,Zs,Zt,Zu,Zv,Zw,Zx,Zy,Zz,YA,YB,YC,YD,YE,YF,YG,YH,YI,YJ,YK,YL,YM,YN,YO,YP,YQ,YR,YS,Env.set,cond_true,cond_false,String.reduceBEq,YT,YU,YV,YW,YX,YY,YZ,Ya,Yb,Yc,Yd,Ye,Yf,Yg] | simp only [Yh,Yi,true_and,Yj,Yk,Yl,Ym,Yn,Yo,Yp,Yq,Yr,Yt,Yu,Yv,Yw,Yx,Yy,Yz,XA,XB,XD,XE,XF,XG,beq_self_eq_true,reduceIte,reduceCtorEq,↓reduceIte,XH,XI,XJ, e4])), by (repeat (first | dsimp only [XK, XL] | dsimp only [ZA,ZB,ZC,ZD,ZE,ZF,ZG,ZH,ZI,ZJ,ZK,ZL,ZM,ZN,ZO,ZP,ZQ,ZR,ZS,ZT,ZU,ZV,ZW,ZX,ZY,ZZ,Za,Zb,Zc,Zd,Ze,Zf,Zg,Zh,Zi,Zj,Zk,Zl,Zm,Zn,Zo,Zp,Zq,Zr,Zs,Zt,Zu,Zv,Zw,Zx,Zy,Zz,YA,YB,YC,YD,YE,YF,YG,YH,YI,YJ,YK,YL,YM,YN,YO,YP,YQ,YR,YS,Env.set,cond_true,cond_false,String.reduceBEq,YT,YU,YV,YW,YX,YY,YZ,Ya,Yb,Yc,Yd,Ye,Yf,Yg] | simp only [Yh,Yi,true_and,Yj,Yk,Yl,Ym,Yn,Yo,Yp,Yq,Yr,Yt,Yu,Yv,Yw,Yx,Yy,Yz,XA,XB,XD,XE,XF,XG,beq_self_eq_true,reduceIte,reduceCtorEq,↓reduceIte,XH,XI,XJ, e5]))⟩
            rw [step, q]; simpa using ss3
          cases hb2 : B.getD (i + 1 + d) true with
          | true => exact if_go (fun Q hq => by (repeat (first | dsimp only [XK, XL] | dsimp only [ZA,ZB,ZC,ZD,ZE,ZF,ZG,ZH,ZI,ZJ,ZK,ZL,ZM,ZN,ZO,ZP,ZQ,ZR,ZS,ZT,ZU,ZV,ZW,ZX,ZY,ZZ,Za,Zb,Zc,Zd,Ze,Zf,Zg,Zh,Zi,Zj,Zk,Zl,Zm,Zn,Zo,Zp,Zq,Zr,Zs,Zt,Zu,Zv,Zw,Zx,Zy,Zz,YA,YB,YC,YD,YE,YF,YG,YH,YI,YJ,YK,YL,YM,YN,YO,YP,YQ,YR,YS,Env.set,cond_true,cond_false,String.reduceBEq,YT,YU,YV,YW,YX,YY,YZ,Ya,Yb,Yc,Yd,Ye,Yf,Yg] | simp only [Yh,Yi,true_and,Yj,Yk,Yl,Ym,Yn,Yo,Yp,Yq,Yr,Yt,Yu,Yv,Yw,Yx,Yy,Yz,XA,XB,XD,XE,XF,XG,beq_self_eq_true,reduceIte,reduceCtorEq,↓reduceIte,XH,XI,XJ, e4, it, hb2])); exact hq) (skip (by rw [hb2]; rfl))
          | false =>
            cases hbo : both W i (i + 1 + d) with
            | false => exact if_go (fun Q hq => by (repeat (first | dsimp only [XK, XL] | dsimp only [ZA,ZB,ZC,ZD,ZE,ZF,ZG,ZH,ZI,ZJ,ZK,ZL,ZM,ZN,ZO,ZP,ZQ,ZR,ZS,ZT,ZU,ZV,ZW,ZX,ZY,ZZ,Za,Zb,Zc,Zd,Ze,Zf,Zg,Zh,Zi,Zj,Zk,Zl,Zm,Zn,Zo,Zp,Zq,Zr,Zs,Zt,Zu,Zv,Zw,Zx,Zy,Zz,YA,YB,YC,YD,YE,YF,YG,YH,YI,YJ,YK,YL,YM,YN,YO,YP,YQ,YR,YS,Env.set,cond_true,cond_false,String.reduceBEq,YT,YU,YV,YW,YX,YY,YZ,Ya,Yb,Yc,Yd,Ye,Yf,Yg] | simp only [Yh,Yi,true_and,Yj,Yk,Yl,Ym,Yn,Yo,Yp,Yq,Yr,Yt,Yu,Yv,Yw,Yx,Yy,Yz,XA,XB,XD,XE,XF,XG,beq_self_eq_true,reduceIte,reduceCtorEq,↓reduceIte,XH,XI,XJ, e1, e2, e4, it, hb2])); refine s_both_wish hP1 hw3 hi' (show i + 1 + d < W.length by omega) ?_; (repeat (first | dsimp only [XK, XL] | dsimp only [ZA,ZB,ZC,ZD,ZE,ZF,ZG,ZH,ZI,ZJ,ZK,ZL,ZM,ZN,ZO,ZP,ZQ,ZR,ZS,ZT,ZU,ZV,ZW,ZX,ZY,ZZ,Za,Zb,Zc,Zd,Ze,Zf,Zg,Zh,Zi,Zj,Zk,Zl,Zm,Zn,Zo,Zp,Zq,Zr,Zs,Zt,Zu,Zv,Zw,Zx,Zy,Zz,YA,YB,YC,YD,YE,YF,YG,YH,YI,YJ,YK,YL,YM,YN,YO,YP,YQ,YR,YS,Env.set,cond_true,cond_false,String.reduceBEq,YT,YU,YV,YW,YX,YY,YZ,Ya,Yb,Yc,Yd,Ye,Yf,Yg] | simp only [Yh,Yi,true_and,Yj,Yk,Yl,Ym,Yn,Yo,Yp,Yq,Yr,Yt,Yu,Yv,Yw,Yx,Yy,Yz,XA,XB,XD,XE,XF,XG,beq_self_eq_true,reduceIte,reduceCtorEq,↓reduceIte,XH,XI,XJ, hbo])); exact hq) (skip (by rw [hb2, hbo]; rfl))
            | true =>
              refine if_do (fun Q hq => by (repeat (first | dsimp only [XK, XL] | dsimp only [ZA,ZB,ZC,ZD,ZE,ZF,ZG,ZH,ZI,ZJ,ZK,ZL,ZM,ZN,ZO,ZP,ZQ,ZR,ZS,ZT,ZU,ZV,ZW,ZX,ZY,ZZ,Za,Zb,Zc,Zd,Ze,Zf,Zg,Zh,Zi,Zj,Zk,Zl,Zm,Zn,Zo,Zp,Zq,Zr,Zs,Zt,Zu,Zv,Zw,Zx,Zy,Zz,YA,YB,YC,YD,YE,YF,YG,YH,YI,YJ,YK,YL,YM,YN,YO,YP,YQ,YR,YS,Env.set,cond_true,cond_false,String.reduceBEq,YT,YU,YV,YW,YX,YY,YZ,Ya,Yb,Yc,Yd,Ye,Yf,Yg] | simp only [Yh,Yi,true_and,Yj,Yk,Yl,Ym,Yn,Yo,Yp,Yq,Yr,Yt,Yu,Yv,Yw,Yx,Yy,Yz,XA,XB,XD,XE,XF,XG,beq_self_eq_true,reduceIte,reduceCtorEq,↓reduceIte,XH,XI,XJ, e1, e2, e4, it, hb2])); refine s_both_wish hP1 hw3 hi' (show i + 1 + d < W.length by omega) ?_; (repeat (first | dsimp only [XK, XL] | dsimp only [ZA,ZB,ZC,ZD,ZE,ZF,ZG,ZH,ZI,ZJ,ZK,ZL,ZM,ZN,ZO,ZP,ZQ,ZR,ZS,ZT,ZU,ZV,ZW,ZX,ZY,ZZ,Za,Zb,Zc,Zd,Ze,Zf,Zg,Zh,Zi,Zj,Zk,Zl,Zm,Zn,Zo,Zp,Zq,Zr,Zs,Zt,Zu,Zv,Zw,Zx,Zy,Zz,YA,YB,YC,YD,YE,YF,YG,YH,YI,YJ,YK,YL,YM,YN,YO,YP,YQ,YR,YS,Env.set,cond_true,cond_false,String.reduceBEq,YT,YU,YV,YW,YX,YY,YZ,Ya,Yb,Yc,Yd,Ye,Yf,Yg] | simp only [Yh,Yi,true_and,Yj,Yk,Yl,Ym,Yn,Yo,Yp,Yq,Yr,Yt,Yu,Yv,Yw,Yx,Yy,Yz,XA,XB,XD,XE,XF,XG,beq_self_eq_true,reduceIte,reduceCtorEq,↓reduceIte,XH,XI,XJ, hbo])); exact hq) ?_
              have homem : i + 1 + d ∈ lf B (i + 1) W.length := lf_mem.mpr ⟨by omega, by omega, hb2⟩
              have hMo : M[i + 1 + d]? = some none := getD_some (by omega) (hM _ (.tail _ homem))
              have hBo : (B.set i true)[i + 1 + d]? = some false := by rw [List.getElem?_set_ne (by omega)]; exact getD_some (by omega) hb2
              obtain ⟨H4, s4, ss4⟩ := ss3.setB (i := i + 1 + d) (by simp; omega) true
              obtain ⟨H5, s5, ss5⟩ := ss4.setM (i := i) (by omega) (some (i + 1 + d))
              obtain ⟨H6, s6, ss6⟩ := ss5.setM (i := i + 1 + d) (by simp; omega) (some i)
              (repeat (first | dsimp only [XK, XL] | dsimp only [ZA,ZB,ZC,ZD,ZE,ZF,ZG,ZH,ZI,ZJ,ZK,ZL,ZM,ZN,ZO,ZP,ZQ,ZR,ZS,ZT,ZU,ZV,ZW,ZX,ZY,ZZ,Za,Zb,Zc,Zd,Ze,Zf,Zg,Zh,Zi,Zj,Zk,Zl,Zm,Zn,Zo,Zp,Zq,Zr,Zs,Zt,Zu,Zv,Zw,Zx,Zy,Zz,YA,YB,YC,YD,YE,YF,YG,YH,YI,YJ,YK,YL,YM,YN,YO,YP,YQ,YR,YS,Env.set,cond_true,cond_false,String.reduceBEq,YT,YU,YV,YW,YX,YY,YZ,Ya,Yb,Yc,Yd,Ye,Yf,Yg] | simp only [Yh,Yi,true_and,Yj,Yk,Yl,Ym,Yn,Yo,Yp,Yq,Yr,Yt,Yu,Yv,Yw,Yx,Yy,Yz,XA,XB,XD,XE,XF,XG,beq_self_eq_true,reduceIte,reduceCtorEq,↓reduceIte,XH,XI,XJ, e1, e2, e3, e4, e5, s4, show setV (.ref m) (.int (i : Int)) (.int ((i + 1 + d : Nat) : Int)) H4 = some H5 from s5, show setV (.ref m) (.int ((i + 1 + d : Nat) : Int)) (.int (i : Int)) H5 = some H6 from s6, ec]))
              have l2 := lf_set2 (B := B) (g := i) (o := i + 1 + d) (n := W.length) (by omega) (by omega)
              have hsub := F (d + 1) (by omega)
              rw [step, hb2, hbo] at hsub
              have hroom : room (both W) k ((lf B (i + 1) W.length).filter (· != (i + 1 + d))) (Xs ++ twos (both W) k (lf B (i + 1) W.length) M ++ (((List.range' (i + 1) d).filter fun i => !B.getD i true).filter (both W i)).flatMap fun o => twos (both W) k ((lf B (i + 1) W.length).filter (· != o)) (pairM M i o)) := by
                unfold room at hr ⊢
                rw [cnt] at hr
                have := sub_sum (hsub.map fun o => cnt (both W) k ((lf B (i + 1) W.length).filter (· != o)))
                simp only [Bool.not_false, Bool.true_and, if_true, List.map_append, List.sum_append, List.map_cons, List.map_nil, List.sum_cons, List.sum_nil] at this
                simp only [List.length_append, twos_len, List.length_flatMap]
                omega
              refine ih ss6 (by simp; omega) (by simp; omega) hi' (by rw [l2]; exact Nat.le_trans (List.length_filter_le _ _) hkk) (fun j hj => ?_) (by rw [l2]; exact hroom) fun H7 ss7 => ?_
              · rw [l2] at hj
                obtain ⟨j1, j2⟩ := List.mem_filter.mp hj
                have j2 : j ≠ i + 1 + d := by simpa using j2
                have j3 := (lf_mem.mp j1).1
                show (pairM M i (i + 1 + d)).getD j none = none
                rw [pairM_ne (by omega) j2]; exact hM j (.tail _ j1)
              · rw [l2] at ss7
                obtain ⟨H8, s8, ss8⟩ := ss7.setM (i := i) (by simp; omega) none
                obtain ⟨H9, s9, ss9⟩ := ss8.setM (i := i + 1 + d) (by simp; omega) none
                have eM : ((((M.set i (some (i + 1 + d))).set (i + 1 + d) (some i)).set i none).set (i + 1 + d) none) = M := pair_back hMi hMo (by omega)
                rw [eM] at ss9
                obtain ⟨H10, s10, ss10⟩ := ss9.setB (i := i + 1 + d) (by simp; omega) false
                rw [set_back hBo] at ss10
                (repeat (first | dsimp only [XK, XL] | dsimp only [ZA,ZB,ZC,ZD,ZE,ZF,ZG,ZH,ZI,ZJ,ZK,ZL,ZM,ZN,ZO,ZP,ZQ,ZR,ZS,ZT,ZU,ZV,ZW,ZX,ZY,ZZ,Za,Zb,Zc,Zd,Ze,Zf,Zg,Zh,Zi,Zj,Zk,Zl,Zm,Zn,Zo,Zp,Zq,Zr,Zs,Zt,Zu,Zv,Zw,Zx,Zy,Zz,YA,YB,YC,YD,YE,YF,YG,YH,YI,YJ,YK,YL,YM,YN,YO,YP,YQ,YR,YS,Env.set,cond_true,cond_false,String.reduceBEq,YT,YU,YV,YW,YX,YY,YZ,Ya,Yb,Yc,Yd,Ye,Yf,Yg] | simp only [Yh,Yi,true_and,Yj,Yk,Yl,Ym,Yn,Yo,Yp,Yq,Yr,Yt,Yu,Yv,Yw,Yx,Yy,Yz,XA,XB,XD,XE,XF,XG,beq_self_eq_true,reduceIte,reduceCtorEq,↓reduceIte,XH,XI,XJ, e1, e2, e3, e4, e5, show setV (.ref m) (.int (i : Int)) .none H7 = some H8 from s8, show setV (.ref m) (.int ((i + 1 + d : Nat) : Int)) .none H8 = some H9 from s9, s10]))
                refine h1 _ _ ⟨?_, by (repeat (first | dsimp only [XK, XL] | dsimp only [ZA,ZB,ZC,ZD,ZE,ZF,ZG,ZH,ZI,ZJ,ZK,ZL,ZM,ZN,ZO,ZP,ZQ,ZR,ZS,ZT,ZU,ZV,ZW,ZX,ZY,ZZ,Za,Zb,Zc,Zd,Ze,Zf,Zg,Zh,Zi,Zj,Zk,Zl,Zm,Zn,Zo,Zp,Zq,Zr,Zs,Zt,Zu,Zv,Zw,Zx,Zy,Zz,YA,YB,YC,YD,YE,YF,YG,YH,YI,YJ,YK,YL,YM,YN,YO,YP,YQ,YR,YS,Env.set,cond_true,cond_false,String.reduceBEq,YT,YU,YV,YW,YX,YY,YZ,Ya,Yb,Yc,Yd,Ye,Yf,Yg] | simp only [Yh,Yi,true_and,Yj,Yk,Yl,Ym,Yn,Yo,Yp,Yq,Yr,Yt,Yu,Yv,Yw,Yx,Yy,Yz,XA,XB,XD,XE,XF,XG,beq_self_eq_true,reduceIte,reduceCtorEq,↓reduceIte,XH,XI,XJ, e1])), by (repeat (first | dsimp only [XK, XL] | dsimp only [ZA,ZB,ZC,ZD,ZE,ZF,ZG,ZH,ZI,ZJ,ZK,ZL,ZM,ZN,ZO,ZP,ZQ,ZR,ZS,ZT,ZU,ZV,ZW,ZX,ZY,ZZ,Za,Zb,Zc,Zd,Ze,Zf,Zg,Zh,Zi,Zj,Zk,Zl,Zm,Zn,Zo,Zp,Zq,Zr,Zs,Zt,Zu,Zv,Zw,Zx,Zy,Zz,YA,YB,YC,YD,YE,YF,YG,YH,YI,YJ,YK,YL,YM,YN,YO,YP,YQ,YR,YS,Env.set,cond_true,cond_false,String.reduceBEq,YT,YU,YV,YW,YX,YY,YZ,Ya,Yb,Yc,Yd,Ye,Yf,Yg] | simp only [Yh,Yi,true_and,Yj,Yk,Yl,Ym,Yn,Yo,Yp,Yq,Yr,Yt,Yu,Yv,Yw,Yx,Yy,Yz,XA,XB,XD,XE,XF,XG,beq_self_eq_true,reduceIte,reduceCtorEq,↓reduceIte,XH,XI,XJ, e2])), by (repeat (first | dsimp only [XK, XL] | dsimp only [ZA,ZB,ZC,ZD,ZE,ZF,ZG,ZH,ZI,ZJ,ZK,ZL,ZM,ZN,ZO,ZP,ZQ,ZR,ZS,ZT,ZU,ZV,ZW,ZX,ZY,ZZ,Za,Zb,Zc,Zd,Ze,Zf,Zg,Zh,Zi,Zj,Zk,Zl,Zm,Zn,Zo,Zp,Zq,Zr,Zs,Zt,Zu,Zv,Zw,Zx,Zy,Zz,YA,YB,YC,YD,YE,YF,YG,YH,YI,YJ,YK,YL,YM,YN,YO,YP,YQ,YR,YS,Env.set,cond_true,cond_false,String.reduceBEq,YT,YU,YV,YW,YX,YY,YZ,Ya,Yb,Yc,Yd,Ye,Yf,Yg] | simp only [Yh,Yi,true_and,Yj,Yk,Yl,Ym,Yn,Yo,Yp,Yq,Yr,Yt,Yu,Yv,Yw,Yx,Yy,Yz,XA,XB,XD,XE,XF,XG,beq_self_eq_true,reduceIte,reduceCtorEq,↓reduceIte,XH,XI,XJ, e3])), by (repeat (first | dsimp only [XK, XL] | dsimp only [ZA,ZB,ZC,ZD,ZE,ZF,ZG,ZH,ZI,ZJ,ZK,ZL,ZM,ZN,ZO,ZP,ZQ,ZR,ZS,ZT,ZU,ZV,ZW,ZX,ZY,ZZ,Za,Zb,Zc,Zd,Ze,Zf,Zg,Zh,Zi,Zj,Zk,Zl,Zm,Zn,Zo,Zp,Zq,Zr,Zs,Zt,Zu,Zv,Zw,Zx,Zy,Zz,YA,YB,YC,YD,YE,YF,YG,YH,YI,YJ,YK,YL,YM,YN,YO,YP,YQ,YR,YS,Env.set,cond_true,cond_false,String.reduceBEq,YT,YU,YV,YW,YX,YY,YZ,Ya,Yb,Yc,Yd,Ye,Yf,Yg] | simp only [Yh,Yi,true_and,Yj,Yk,Yl,Ym,Yn,Yo,Yp,Yq,Yr,Yt,Yu,Yv,Yw,Yx,Yy,Yz,XA,XB,XD,XE,XF,XG,beq_self_eq_true,reduceIte,reduceCtorEq,↓reduceIte,XH,XI,XJ, e4])), by (repeat (first | dsimp only [XK, XL] | dsimp only [ZA,ZB,ZC,ZD,ZE,ZF,ZG,ZH,ZI,ZJ,ZK,ZL,ZM,ZN,ZO,ZP,ZQ,ZR,ZS,ZT,ZU,ZV,ZW,ZX,ZY,ZZ,Za,Zb,Zc,Zd,Ze,Zf,Zg,Zh,Zi,Zj,Zk,Zl,Zm,Zn,Zo,Zp,Zq,Zr,Zs,Zt,Zu,Zv,Zw,Zx,Zy,Zz,YA,YB,YC,YD,YE,YF,YG,YH,YI,YJ,YK,YL,YM,YN,YO,YP,YQ,YR,YS,Env.set,cond_true,cond_false,String.reduceBEq,YT,YU,YV,YW,YX,YY,YZ,Ya,Yb,Yc,Yd,Ye,Yf,Yg] | simp only [Yh,Yi,true_and,Yj,Yk,Yl,Ym,Yn,Yo,Yp,Yq,Yr,Yt,Yu,Yv,Yw,Yx,Yy,Yz,XA,XB,XD,XE,XF,XG,beq_self_eq_true,reduceIte,reduceCtorEq,↓reduceIte,XH,XI,XJ, e5]))⟩
                rw [step, hb2, hbo]
                simpa [List.flatMap_append, pairM] using ss10
        · obtain ⟨ss3, e1, e2, e3, e4, e5⟩ := hI
          rw [rng2_len] at ss3
          obtain ⟨H4, s4, ss4⟩ := ss3.setB (i := i) (by simp; omega) false
          rw [set_back hBi] at ss4
          refine hn _ _ ?_
          (repeat (first | dsimp only [XK, XL] | dsimp only [ZA,ZB,ZC,ZD,ZE,ZF,ZG,ZH,ZI,ZJ,ZK,ZL,ZM,ZN,ZO,ZP,ZQ,ZR,ZS,ZT,ZU,ZV,ZW,ZX,ZY,ZZ,Za,Zb,Zc,Zd,Ze,Zf,Zg,Zh,Zi,Zj,Zk,Zl,Zm,Zn,Zo,Zp,Zq,Zr,Zs,Zt,Zu,Zv,Zw,Zx,Zy,Zz,YA,YB,YC,YD,YE,YF,YG,YH,YI,YJ,YK,YL,YM,YN,YO,YP,YQ,YR,YS,Env.set,cond_true,cond_false,String.reduceBEq,YT,YU,YV,YW,YX,YY,YZ,Ya,Yb,Yc,Yd,Ye,Yf,Yg] | simp only [Yh,Yi,true_and,Yj,Yk,Yl,Ym,Yn,Yo,Yp,Yq,Yr,Yt,Yu,Yv,Yw,Yx,Yy,Yz,XA,XB,XD,XE,XF,XG,beq_self_eq_true,reduceIte,reduceCtorEq,↓reduceIte,XH,XI,XJ, e2, e4, s4]))
          refine h _ ?_
          rw [twos, ← List.append_assoc]; exact ss4
    · have hi' : i = W.length := by simp at q; omega
      subst hi'
      rw [lf_end] at hl
      rw [← hl] at h hr
      (repeat (first | dsimp only [XK, XL] | dsimp only [ZA,ZB,ZC,ZD,ZE,ZF,ZG,ZH,ZI,ZJ,ZK,ZL,ZM,ZN,ZO,ZP,ZQ,ZR,ZS,ZT,ZU,ZV,ZW,ZX,ZY,ZZ,Za,Zb,Zc,Zd,Ze,Zf,Zg,Zh,Zi,Zj,Zk,Zl,Zm,Zn,Zo,Zp,Zq,Zr,Zs,Zt,Zu,Zv,Zw,Zx,Zy,Zz,YA,YB,YC,YD,YE,YF,YG,YH,YI,YJ,YK,YL,YM,YN,YO,YP,YQ,YR,YS,Env.set,cond_true,cond_false,String.reduceBEq,YT,YU,YV,YW,YX,YY,YZ,Ya,Yb,Yc,Yd,Ye,Yf,Yg] | simp only [Yh,Yi,true_and,Yj,Yk,Yl,Ym,Yn,Yo,Yp,Yq,Yr,Yt,Yu,Yv,Yw,Yx,Yy,Yz,XA,XB,XD,XE,XF,XG,beq_self_eq_true,reduceIte,reduceCtorEq,↓reduceIte,XH,XI,XJ]))
      refine hn _ _ ?_
      obtain ⟨H2, p1, p2⟩ := ss.push (by unfold room cnt at hr; omega)
      obtain ⟨fs, f1, _⟩ := ss.hf
      refine if_do (fun Q hq => by (repeat (first | dsimp only [XK, XL] | dsimp only [ZA,ZB,ZC,ZD,ZE,ZF,ZG,ZH,ZI,ZJ,ZK,ZL,ZM,ZN,ZO,ZP,ZQ,ZR,ZS,ZT,ZU,ZV,ZW,ZX,ZY,ZZ,Za,Zb,Zc,Zd,Ze,Zf,Zg,Zh,Zi,Zj,Zk,Zl,Zm,Zn,Zo,Zp,Zq,Zr,Zs,Zt,Zu,Zv,Zw,Zx,Zy,Zz,YA,YB,YC,YD,YE,YF,YG,YH,YI,YJ,YK,YL,YM,YN,YO,YP,YQ,YR,YS,Env.set,cond_true,cond_false,String.reduceBEq,YT,YU,YV,YW,YX,YY,YZ,Ya,Yb,Yc,Yd,Ye,Yf,Yg] | simp only [Yh,Yi,true_and,Yj,Yk,Yl,Ym,Yn,Yo,Yp,Yq,Yr,Yt,Yu,Yv,Yw,Yx,Yy,Yz,XA,XB,XD,XE,XF,XG,beq_self_eq_true,reduceIte,reduceCtorEq,↓reduceIte,XH,XI,XJ, e1, e2, hw'.len])); exact hq) ?_
      (repeat (first | dsimp only [XK, XL] | dsimp only [ZA,ZB,ZC,ZD,ZE,ZF,ZG,ZH,ZI,ZJ,ZK,ZL,ZM,ZN,ZO,ZP,ZQ,ZR,ZS,ZT,ZU,ZV,ZW,ZX,ZY,ZZ,Za,Zb,Zc,Zd,Ze,Zf,Zg,Zh,Zi,Zj,Zk,Zl,Zm,Zn,Zo,Zp,Zq,Zr,Zs,Zt,Zu,Zv,Zw,Zx,Zy,Zz,YA,YB,YC,YD,YE,YF,YG,YH,YI,YJ,YK,YL,YM,YN,YO,YP,YQ,YR,YS,Env.set,cond_true,cond_false,String.reduceBEq,YT,YU,YV,YW,YX,YY,YZ,Ya,Yb,Yc,Yd,Ye,Yf,Yg] | simp only [Yh,Yi,true_and,Yj,Yk,Yl,Ym,Yn,Yo,Yp,Yq,Yr,Yt,Yu,Yv,Yw,Yx,Yy,Yz,XA,XB,XD,XE,XF,XG,beq_self_eq_true,reduceIte,reduceCtorEq,↓reduceIte,XH,XI,XJ, e3, e5, seqOf_list ss.hm, (recvL f1).1, p1]))
      exact h _ p2
end
end Mine

namespace Mine
open PySem

noncomputable def twosW (W : List (List Int)) : List Mt := twos (both W) W.length (List.range W.length) (List.replicate W.length none)
noncomputable def calmW (W : List (List Int)) : List Mt := (twosW W).filter fun X => (((restP W X).length : Int) == 0)

noncomputable def fct : Nat → Nat
  | 0 => 1
  | n + 1 => (n + 1) * fct n
theorem fct_pos : ∀ n, 0 < fct n
  | 0 => Nat.one_pos
  | n + 1 => Nat.mul_pos (Nat.succ_pos _) (fct_pos n)
theorem fct_mono {m n : Nat} (h : m ≤ n) : fct m ≤ fct n := by
  induction h with
  | refl => exact Nat.le_refl _
  | step _ ih => exact Nat.le_trans ih (by rw [fct]; exact Nat.le_mul_of_pos_left _ (Nat.succ_pos _))
theorem sum_le_mul {α : Type} {f : α → Nat} {c : Nat} : ∀ {l : List α}, (∀ x ∈ l, f x ≤ c) → (l.map f).sum ≤ l.length * c
  | [], _ => by simp
  | a :: l, h => by
    have h1 := h a (.head _)
    have h2 := sum_le_mul (l := l) fun x hx => h x (.tail _ hx)
    simp only [List.map_cons, List.sum_cons, List.length_cons, Nat.succ_mul]; omega
theorem cnt_le (bo : Nat → Nat → Bool) : ∀ (k : Nat) (l : List Nat), cnt bo k l ≤ fct l.length
  | 0, l => fct_pos _
  | _ + 1, [] => Nat.le_refl _
  | k + 1, g :: r => by
    rw [cnt, List.length_cons, fct, Nat.succ_mul]
    have h1 := cnt_le bo k r
    have h2 : ((r.filter (bo g)).map fun o => cnt bo k (r.filter (· != o))).sum ≤ (r.filter (bo g)).length * fct r.length :=
      sum_le_mul fun o _ => Nat.le_trans (cnt_le bo k _) (fct_mono (List.length_filter_le _ _))
    have h3 : (r.filter (bo g)).length * fct r.length ≤ r.length * fct r.length := Nat.mul_le_mul_right _ (List.length_filter_le _ _)
    omega

theorem lf_all (n : Nat) : lf (List.replicate n false) 0 n = List.range n := by
  unfold lf
  rw [List.range_eq_range', Nat.sub_zero, List.filter_eq_self]
  intro a ha
  have : a < n := by have := List.mem_range'.mp ha; omega
  simp [List.getD_eq_getElem?_getD, this]

theorem twosW_ok {W : List (List Int)} {X : Mt} (h : X ∈ twosW W) : MOk W X := by
  refine twos_all (both W) (MOk W) _ _ _ List.nodup_range ⟨by simp, fun i j q => ?_⟩ (fun x hx => ⟨by simpa using hx, ?_⟩) (fun M g o mok hg ho hne eg eo hb => ?_) X h
  · exfalso
    by_cases e : i < W.length <;> simp [List.getD_eq_getElem?_getD, e] at q
  · have : x < W.length := by simpa using hx
    simp [List.getD_eq_getElem?_getD, this]
  · have hl := mok.len
    exact mok.pair (by omega) (by omega) (Ne.symm hne) eg eo hb
theorem twosW_len {W : List (List Int)} : (twosW W).length = cnt (both W) W.length (List.range W.length) := twos_len _ _ _ _
theorem twosW_few {W : List (List Int)} (ok : WOk W) : (twosW W).length ≤ 720 := by
  rw [twosW_len]
  refine Nat.le_trans (cnt_le _ _ _) ?_
  rw [List.length_range]
  exact Nat.le_trans (fct_mono ok.le) (by decide)

noncomputable def ML (c : Nat) (H : Hp) (r : Nat) (Xs : List Mt) : Prop := c ≤ r ∧ ∃ fs, H[r]? = some (.list fs) ∧ All2 (fun v X => ∃ a, v = .ref a ∧ c ≤ a ∧ a < H.length ∧ a ≠ r ∧ MT H a X) fs Xs
theorem ML.len {c : Nat} {H : Hp} {r : Nat} {Xs : List Mt} (h : ML c H r Xs) : lenV (.ref r) H = some (Xs.length : Int) := by
  obtain ⟨_, fs, h1, h2⟩ := h
  unfold lenV; simp [seqOf_list h1, h2.length]
section
variable {P : Prog} {b : Bool} {n : Nat} {H : Hp} {Q : Post} {X : XP}

theorem s_all_twos (hP : P.fn "all_twos" = some f_all_twos) (hP1 : P.fn "need_wishes" = some f_need_wishes) (hP4 : P.fn "is_row" = some f_is_row) (hP5 : P.fn "is_guest" = some f_is_guest) (hP6 : P.fn "both_wish" = some f_both_wish) (hP7 : P.fn "settled" = some f_settled) (hG : P.glob "MOST_GUESTS" = some (.int 6))
    {w : Nat} {W : List (List Int)} (hw : WH H w W) (ok : WOk W) (h : ∀ H' r, H <+: H' → ML H.length H' r (twosW W) → Q (.ref r) H') : callN P b (n + 9) "all_twos" [.ref w] H Q X := by
  have l6 := ok.le
  have hl : W.length ≤ lim := Nat.le_trans ok.le (by decide)
  have ef : n + 8 = (n + (6 - W.length)) + (W.length + 2) := by omega
  (refine callN_in hP rfl ?_; unfold f_all_twos)
  (repeat (first | dsimp only [XK, XL] | dsimp only [ZA,ZB,ZC,ZD,ZE,ZF,ZG,ZH,ZI,ZJ,ZK,ZL,ZM,ZN,ZO,ZP,ZQ,ZR,ZS,ZT,ZU,ZV,ZW,ZX,ZY,ZZ,Za,Zb,Zc,Zd,Ze,Zf,Zg,Zh,Zi,Zj,Zk,Zl,Zm,Zn,Zo,Zp,Zq,Zr,Zs,Zt,Zu,Zv,Zw,Zx,Zy,Zz,YA,YB,YC,YD,YE,YF,YG,YH,YI,YJ,YK,YL,YM,YN,YO,YP,YQ,YR,YS,Env.set,cond_true,cond_false,String.reduceBEq,YT,YU,YV,YW,YX,YY,YZ,Ya,Yb,Yc,Yd,Ye,Yf,Yg] | simp only [Yh,Yi,true_and,Yj,Yk,Yl,Ym,Yn,Yo,Yp,Yq,Yr,Yt,Yu,Yv,Yw,Yx,Yy,Yz,XA,XB,XD,XE,XF,XG,beq_self_eq_true,reduceIte,reduceCtorEq,↓reduceIte,XH,XI,XJ]))
  refine s_need_wishes (n := n + 5) hP1 hP4 hP5 hG hw ok fun H1 hp1 => ?_
  have hw1 := hw.pre hp1
  have hw2 := hw1.pre (pre_new H1 (.list []))
  (repeat (first | dsimp only [XK, XL] | dsimp only [ZA,ZB,ZC,ZD,ZE,ZF,ZG,ZH,ZI,ZJ,ZK,ZL,ZM,ZN,ZO,ZP,ZQ,ZR,ZS,ZT,ZU,ZV,ZW,ZX,ZY,ZZ,Za,Zb,Zc,Zd,Ze,Zf,Zg,Zh,Zi,Zj,Zk,Zl,Zm,Zn,Zo,Zp,Zq,Zr,Zs,Zt,Zu,Zv,Zw,Zx,Zy,Zz,YA,YB,YC,YD,YE,YF,YG,YH,YI,YJ,YK,YL,YM,YN,YO,YP,YQ,YR,YS,Env.set,cond_true,cond_false,String.reduceBEq,YT,YU,YV,YW,YX,YY,YZ,Ya,Yb,Yc,Yd,Ye,Yf,Yg] | simp only [Yh,Yi,true_and,Yj,Yk,Yl,Ym,Yn,Yo,Yp,Yq,Yr,Yt,Yu,Yv,Yw,Yx,Yy,Yz,XA,XB,XD,XE,XF,XG,beq_self_eq_true,reduceIte,reduceCtorEq,↓reduceIte,XH,XI,XJ, hw2.len]))
  generalize hH2 : H1 ++ [O.list []] = H2 at hw2 ⊢
  have g2 : H2[H1.length]? = some (.list []) := by rw [← hH2]; exact get_new _ _
  have p2 : H1 <+: H2 := by rw [← hH2]; exact pre_new _ _
  have m1 : mulV (.ref H2.length) (.int (W.length : Int)) (H2 ++ [O.list [.none]]) = some (.ref (H2.length + 1), (H2 ++ [O.list [.none]]) ++ [.list (List.replicate W.length .none)]) := by
    rw [mul_at (get_new _ _) hl]; simp
  (repeat (first | dsimp only [XK, XL] | dsimp only [ZA,ZB,ZC,ZD,ZE,ZF,ZG,ZH,ZI,ZJ,ZK,ZL,ZM,ZN,ZO,ZP,ZQ,ZR,ZS,ZT,ZU,ZV,ZW,ZX,ZY,ZZ,Za,Zb,Zc,Zd,Ze,Zf,Zg,Zh,Zi,Zj,Zk,Zl,Zm,Zn,Zo,Zp,Zq,Zr,Zs,Zt,Zu,Zv,Zw,Zx,Zy,Zz,YA,YB,YC,YD,YE,YF,YG,YH,YI,YJ,YK,YL,YM,YN,YO,YP,YQ,YR,YS,Env.set,cond_true,cond_false,String.reduceBEq,YT,YU,YV,YW,YX,YY,YZ,Ya,Yb,Yc,Yd,Ye,Yf,Yg] | simp only [Yh,Yi,true_and,Yj,Yk,Yl,Ym,Yn,Yo,Yp,Yq,Yr,Yt,Yu,Yv,Yw,Yx,Yy,Yz,XA,XB,XD,XE,XF,XG,beq_self_eq_true,reduceIte,reduceCtorEq,↓reduceIte,XH,XI,XJ, m1]))
  generalize hH3 : H2 ++ [O.list [V.none]] ++ [O.list (List.replicate W.length V.none)] = H3
  have l3 : H3.length = H2.length + 2 := by rw [← hH3]; simp
  have p3 : H2 <+: H3 := by rw [← hH3]; exact (pre_new _ _).trans (pre_new _ _)
  have g3 : H3[H2.length + 1]? = some (.list (List.replicate W.length .none)) := by rw [← hH3]; simp
  have m2 : mulV (.ref H3.length) (.int (W.length : Int)) (H3 ++ [O.list [.bool false]]) = some (.ref (H3.length + 1), (H3 ++ [O.list [.bool false]]) ++ [.list (List.replicate W.length (.bool false))]) := by
    rw [mul_at (get_new _ _) hl]; simp
  (repeat (first | dsimp only [XK, XL] | dsimp only [ZA,ZB,ZC,ZD,ZE,ZF,ZG,ZH,ZI,ZJ,ZK,ZL,ZM,ZN,ZO,ZP,ZQ,ZR,ZS,ZT,ZU,ZV,ZW,ZX,ZY,ZZ,Za,Zb,Zc,Zd,Ze,Zf,Zg,Zh,Zi,Zj,Zk,Zl,Zm,Zn,Zo,Zp,Zq,Zr,Zs,Zt,Zu,Zv,Zw,Zx,Zy,Zz,YA,YB,YC,YD,YE,YF,YG,YH,YI,YJ,YK,YL,YM,YN,YO,YP,YQ,YR,YS,Env.set,cond_true,cond_false,String.reduceBEq,YT,YU,YV,YW,YX,YY,YZ,Ya,Yb,Yc,Yd,Ye,Yf,Yg] | simp only [Yh,Yi,true_and,Yj,Yk,Yl,Ym,Yn,Yo,Yp,Yq,Yr,Yt,Yu,Yv,Yw,Yx,Yy,Yz,XA,XB,XD,XE,XF,XG,beq_self_eq_true,reduceIte,reduceCtorEq,↓reduceIte,XH,XI,XJ, m2]))
  generalize hH4 : H3 ++ [O.list [V.bool false]] ++ [O.list (List.replicate W.length (V.bool false))] = H4
  have p4 : H3 <+: H4 := by rw [← hH4]; exact (pre_new _ _).trans (pre_new _ _)
  have g4 : H4[H3.length + 1]? = some (.list (List.replicate W.length (.bool false))) := by rw [← hH4]; simp
  have l2 : H2.length = H1.length + 1 := by rw [← hH2]; simp
  have l1 := hp1.length_le
  have ss : SS H1 H4 (H2.length + 1) (H3.length + 1) H1.length (List.replicate W.length none) (List.replicate W.length false) [] := by
    refine ⟨p2.trans (p3.trans p4), by omega, by omega, Nat.le_refl _, by omega, by omega, by omega, ?_, ?_, [], pre_get (p3.trans p4) g2, .nil⟩
    · unfold MT; rw [pre_get p4 g3]; simp [ov]
    · rw [g4]; simp
  rw [ef]
  have ela := lf_all W.length
  refine s_settled (g := 0) hP7 hP6 hw1 ok W.length ss (by simp) (by simp) (Nat.zero_le _) (by rw [ela]; simp) (fun i hi => ?_) ?_ fun H5 ss5 => ?_
  · rw [ela] at hi
    have : i < W.length := by simpa using hi
    simp [List.getD_eq_getElem?_getD, this]
  · rw [ela]
    have := twosW_few ok
    rw [twosW_len] at this
    unfold room lim; simp; omega
  · rw [ela, List.nil_append] at ss5
    (repeat (first | dsimp only [XK, XL] | dsimp only [ZA,ZB,ZC,ZD,ZE,ZF,ZG,ZH,ZI,ZJ,ZK,ZL,ZM,ZN,ZO,ZP,ZQ,ZR,ZS,ZT,ZU,ZV,ZW,ZX,ZY,ZZ,Za,Zb,Zc,Zd,Ze,Zf,Zg,Zh,Zi,Zj,Zk,Zl,Zm,Zn,Zo,Zp,Zq,Zr,Zs,Zt,Zu,Zv,Zw,Zx,Zy,Zz,YA,YB,YC,YD,YE,YF,YG,YH,YI,YJ,YK,YL,YM,YN,YO,YP,YQ,YR,YS,Env.set,cond_true,cond_false,String.reduceBEq,YT,YU,YV,YW,YX,YY,YZ,Ya,Yb,Yc,Yd,Ye,Yf,Yg] | simp only [Yh,Yi,true_and,Yj,Yk,Yl,Ym,Yn,Yo,Yp,Yq,Yr,Yt,Yu,Yv,Yw,Yx,Yy,Yz,XA,XB,XD,XE,XF,XG,beq_self_eq_true,reduceIte,reduceCtorEq,↓reduceIte,XH,XI,XJ]))
    obtain ⟨fs, f1, f2⟩ := ss5.hf
    refine h _ _ (hp1.trans ss5.pre) ⟨l1, fs, f1, f2.mono fun v X ⟨r, e, q0, q1, q2, q3, q4⟩ => ⟨r, e, by omega, (List.getElem?_eq_some_iff.mp q4).1, q3, q4⟩⟩

theorem s_found_restless (hP3 : P.fn "found_restless" = some f_found_restless) (hP6 : P.fn "both_wish" = some f_both_wish) (hP7 : P.fn "sooner" = some f_sooner) {aw am : Nat} {W : List (List Int)} {M : List (Option Nat)} (hw : WH H aw W) (ok : WOk W) (hm : MT H am M) (mok : MOk W M)
    (h : ∀ H' r, H <+: H' → H.length ≤ r → PR H' r (restP W M) → Q (.ref r) H') : callN P b (n + 3) "found_restless" [.ref aw, .ref am] H Q X :=
  s_restFn (w := "wishes") (m := "mates") (p := "pairs") (o := "one") (t := "other") (f := "sooner") hP3 (fun hw _ hg _ _ h1 h2 h => s_sooner hP7 hP6 hw hg h1 h2 h) (by decide) hw ok hm mok h

theorem s_all_calm (hP : P.fn "all_calm" = some f_all_calm) (hP0 : P.fn "all_twos" = some f_all_twos) (hP1 : P.fn "need_wishes" = some f_need_wishes) (hP4 : P.fn "is_row" = some f_is_row) (hP5 : P.fn "is_guest" = some f_is_guest) (hP6 : P.fn "both_wish" = some f_both_wish) (hP7 : P.fn "settled" = some f_settled) (hG : P.glob "MOST_GUESTS" = some (.int 6))
    (hP3 : P.fn "found_restless" = some f_found_restless) (hP8 : P.fn "sooner" = some f_sooner)
    {w : Nat} {W : List (List Int)} (hw : WH H w W) (ok : WOk W) (h : ∀ H' r, H <+: H' → ML H.length H' r (calmW W) → Q (.ref r) H') : callN P b (n + 10) "all_calm" [.ref w] H Q X := by
  (refine callN_in hP rfl ?_; unfold f_all_calm)
  (repeat (first | dsimp only [XK, XL] | dsimp only [ZA,ZB,ZC,ZD,ZE,ZF,ZG,ZH,ZI,ZJ,ZK,ZL,ZM,ZN,ZO,ZP,ZQ,ZR,ZS,ZT,ZU,ZV,ZW,ZX,ZY,ZZ,Za,Zb,Zc,Zd,Ze,Zf,Zg,Zh,Zi,Zj,Zk,Zl,Zm,Zn,Zo,Zp,Zq,Zr,Zs,Zt,Zu,Zv,Zw,Zx,Zy,Zz,YA,YB,YC,YD,YE,YF,YG,YH,YI,YJ,YK,YL,YM,YN,YO,YP,YQ,YR,YS,Env.set,cond_true,cond_false,String.reduceBEq,YT,YU,YV,YW,YX,YY,YZ,Ya,Yb,Yc,Yd,Ye,Yf,Yg] | simp only [Yh,Yi,true_and,Yj,Yk,Yl,Ym,Yn,Yo,Yp,Yq,Yr,Yt,Yu,Yv,Yw,Yx,Yy,Yz,XA,XB,XD,XE,XF,XG,beq_self_eq_true,reduceIte,reduceCtorEq,↓reduceIte,XH,XI,XJ]))
  refine s_all_twos hP0 hP1 hP4 hP5 hP6 hP7 hG hw ok fun H1 r hp1 hml => ?_
  obtain ⟨hc, fs, f1, f2⟩ := hml
  (repeat (first | dsimp only [XK, XL] | dsimp only [ZA,ZB,ZC,ZD,ZE,ZF,ZG,ZH,ZI,ZJ,ZK,ZL,ZM,ZN,ZO,ZP,ZQ,ZR,ZS,ZT,ZU,ZV,ZW,ZX,ZY,ZZ,Za,Zb,Zc,Zd,Ze,Zf,Zg,Zh,Zi,Zj,Zk,Zl,Zm,Zn,Zo,Zp,Zq,Zr,Zs,Zt,Zu,Zv,Zw,Zx,Zy,Zz,YA,YB,YC,YD,YE,YF,YG,YH,YI,YJ,YK,YL,YM,YN,YO,YP,YQ,YR,YS,Env.set,cond_true,cond_false,String.reduceBEq,YT,YU,YV,YW,YX,YY,YZ,Ya,Yb,Yc,Yd,Ye,Yf,Yg] | simp only [Yh,Yi,true_and,Yj,Yk,Yl,Ym,Yn,Yo,Yp,Yq,Yr,Yt,Yu,Yv,Yw,Yx,Yy,Yz,XA,XB,XD,XE,XF,XG,beq_self_eq_true,reduceIte,reduceCtorEq,↓reduceIte,XH,XI,XJ, seqOf_list f1]))
  have hkeep : ∀ H' : Hp, H1 <+: H' → H'[r]? = H1[r]? := fun H' hp => by rw [f1]; exact pre_get hp f1
  have flen := f2.length
  refine wLoop_idx (fun i acc H' => H1 <+: H' ∧ All2 (fun v X => ∃ a, v = V.ref a ∧ H.length ≤ a ∧ a < H'.length ∧ MT H' a X) acc (((twosW W).take i).filter fun X => (((restP W X).length : Int) == 0))) ⟨List.prefix_refl _, by simpa using All2.nil⟩ (fun i v acc H' hv hI => ⟨hkeep _ hI.1, fun k' k1 k2 => ?_⟩) fun acc H' hI => ⟨hkeep _ hI.1, ?_⟩
  · obtain ⟨hp, hA⟩ := hI
    obtain ⟨M, hM, a, rfl, a1, a2, a3, a4⟩ := f2.get hv
    have mok := twosW_ok (List.mem_of_getElem? hM)
    have htk : (twosW W).take (i + 1) = (twosW W).take i ++ [M] := by
      obtain ⟨hi, e⟩ := List.getElem?_eq_some_iff.mp hM
      rw [List.take_succ_eq_append_getElem hi, e]
    (repeat (first | dsimp only [XK, XL] | dsimp only [ZA,ZB,ZC,ZD,ZE,ZF,ZG,ZH,ZI,ZJ,ZK,ZL,ZM,ZN,ZO,ZP,ZQ,ZR,ZS,ZT,ZU,ZV,ZW,ZX,ZY,ZZ,Za,Zb,Zc,Zd,Ze,Zf,Zg,Zh,Zi,Zj,Zk,Zl,Zm,Zn,Zo,Zp,Zq,Zr,Zs,Zt,Zu,Zv,Zw,Zx,Zy,Zz,YA,YB,YC,YD,YE,YF,YG,YH,YI,YJ,YK,YL,YM,YN,YO,YP,YQ,YR,YS,Env.set,cond_true,cond_false,String.reduceBEq,YT,YU,YV,YW,YX,YY,YZ,Ya,Yb,Yc,Yd,Ye,Yf,Yg] | simp only [Yh,Yi,true_and,Yj,Yk,Yl,Ym,Yn,Yo,Yp,Yq,Yr,Yt,Yu,Yv,Yw,Yx,Yy,Yz,XA,XB,XD,XE,XF,XG,beq_self_eq_true,reduceIte,reduceCtorEq,↓reduceIte,XH,XI,XJ]))
    refine s_found_restless (n := n + 6) hP3 hP6 hP8 (hw.pre (hp1.trans hp)) ok (a4.pre hp) mok fun H2 p hp2 _ hpr => ?_
    (repeat (first | dsimp only [XK, XL] | dsimp only [ZA,ZB,ZC,ZD,ZE,ZF,ZG,ZH,ZI,ZJ,ZK,ZL,ZM,ZN,ZO,ZP,ZQ,ZR,ZS,ZT,ZU,ZV,ZW,ZX,ZY,ZZ,Za,Zb,Zc,Zd,Ze,Zf,Zg,Zh,Zi,Zj,Zk,Zl,Zm,Zn,Zo,Zp,Zq,Zr,Zs,Zt,Zu,Zv,Zw,Zx,Zy,Zz,YA,YB,YC,YD,YE,YF,YG,YH,YI,YJ,YK,YL,YM,YN,YO,YP,YQ,YR,YS,Env.set,cond_true,cond_false,String.reduceBEq,YT,YU,YV,YW,YX,YY,YZ,Ya,Yb,Yc,Yd,Ye,Yf,Yg] | simp only [Yh,Yi,true_and,Yj,Yk,Yl,Ym,Yn,Yo,Yp,Yq,Yr,Yt,Yu,Yv,Yw,Yx,Yy,Yz,XA,XB,XD,XE,XF,XG,beq_self_eq_true,reduceIte,reduceCtorEq,↓reduceIte,XH,XI,XJ, hpr.len]))
    have grow : ∀ {acc Ys}, All2 (fun v X => ∃ a, v = V.ref a ∧ H.length ≤ a ∧ a < H'.length ∧ MT H' a X) acc Ys → All2 (fun v X => ∃ a, v = V.ref a ∧ H.length ≤ a ∧ a < H2.length ∧ MT H2 a X) acc Ys := fun q => q.mono fun _ _ ⟨a, e, q1, q2, q3⟩ => ⟨a, e, q1, Nat.lt_of_lt_of_le q2 hp2.length_le, q3.pre hp2⟩
    refine ⟨fun q => ?_, fun q => ?_⟩
    · refine k1 _ _ ⟨hp.trans hp2, ?_⟩
      rw [htk, List.filter_append]
      refine (grow hA).append ?_
      simp only [List.filter, q]
      exact .cons ⟨a, rfl, a1, Nat.lt_of_lt_of_le a2 (hp.trans hp2).length_le, a4.pre (hp.trans hp2)⟩ .nil
    · refine k2 _ ⟨hp.trans hp2, ?_⟩
      rw [htk, List.filter_append]
      simp only [List.filter, q, List.append_nil]
      exact grow hA
  · obtain ⟨hp, hA⟩ := hI
    rw [flen, List.take_length] at hA
    refine h _ _ (hp1.trans (hp.trans (pre_new _ _))) ⟨(hp1.trans hp).length_le, acc, get_new _ _, hA.mono fun _ _ ⟨a, e, q1, q2, q3⟩ => ⟨a, e, q1, ?_, Nat.ne_of_lt q2, q3.pre (pre_new _ _)⟩⟩
    simp; omega

theorem cut_from {α : Type} (xs : List α) (i : Nat) : cut xs (some (i : Int)) none = xs.drop i := by
  unfold cut clampIdx
  have e : ¬ (i : Int) < 0 := by omega
  simp only [Option.elim, e, if_false]
  by_cases h : i ≤ xs.length
  · have : (max 0 (min (i : Int) (xs.length : Int))).toNat = i := by omega
    rw [this]; exact List.take_of_length_le (by simp)
  · have : (max 0 (min (i : Int) (xs.length : Int))).toNat = xs.length := by omega
    rw [this, List.drop_of_length_le (Nat.le_refl _), List.drop_of_length_le (by omega)]; simp
end

noncomputable def LN (H : Hp) (a : Nat) (l : List Nat) : Prop := H[a]? = some (.list (l.map fun i : Nat => V.int (i : Int)))
section
variable {P : Prog} {b : Bool} {n : Nat} {X : XP}
end
end Mine

namespace Mine
open PySem

theorem MT.eq {H : Hp} {a c : Nat} {M M' : Mt} (h : MT H a M) (h' : MT H c M') : eqD H (.ref a) (.ref c) = some (decide (M = M')) := by
  simp [eqD, h.readN 7, h'.readN 7, cl_n, cl_b, cl_i, cl_s, cl_l, cl_t, canLay_od, dq_ii, dq_nn, dq_in, dq_ni, dq_bb, dq_ss, dq_ll, dq_tt, eqv_od]
end Mine

namespace Mine
open PySem

noncomputable def rowB (row : List Int) (g m : Int) : Bool := row.all (fun x => decide (0 ≤ x ∧ x < m)) && decide (g ∉ row) && decide row.Nodup
theorem rowB_iff {row : List Int} {g m : Int} : rowB row g m = true ↔ (∀ x ∈ row, 0 ≤ x ∧ x < m) ∧ g ∉ row ∧ row.Nodup := by
  simp only [rowB, Bool.and_eq_true, List.all_eq_true, decide_eq_true_eq, and_assoc]
theorem rowB_take {row : List Int} {g m : Int} (h : rowB row g m = true) (k : Nat) : rowB (row.take k) g m = true := by
  obtain ⟨a, b, c⟩ := rowB_iff.mp h
  exact rowB_iff.mpr ⟨fun x hx => a x (List.mem_of_mem_take hx), fun hx => b (List.mem_of_mem_take hx), c.sublist (List.take_sublist _ _)⟩
theorem rowB_step {row : List Int} {g m : Int} {i : Nat} {x : Int} (hx : row[i]? = some x) (h : rowB (row.take i) g m = true) : rowB (row.take (i + 1)) g m = true ↔ (0 ≤ x ∧ x < m) ∧ x ≠ g ∧ x ∉ row.take i := by
  obtain ⟨hi, e⟩ := List.getElem?_eq_some_iff.mp hx
  obtain ⟨a, b, c⟩ := rowB_iff.mp h
  rw [rowB_iff, List.take_succ_eq_append_getElem hi, e]
  constructor
  · rintro ⟨a', b', c'⟩
    refine ⟨a' x (by simp), fun q => b' (by simp [q]), fun q => ?_⟩
    rw [List.nodup_append] at c'
    exact c'.2.2 x q x (by simp) rfl
  · rintro ⟨h1, h2, h3⟩
    refine ⟨fun y hy => ?_, fun q => ?_, ?_⟩
    · rcases List.mem_append.mp hy with q | q
      · exact a y q
      · rw [List.mem_singleton.mp q]; exact h1
    · rcases List.mem_append.mp q with q | q
      · exact b q
      · exact h2 (List.mem_singleton.mp q).symm
    · rw [List.nodup_append]
      refine ⟨c, by simp, fun y hy z hz q => ?_⟩
      rw [List.mem_singleton.mp hz] at q
      exact h3 (q ▸ hy)
section
variable {P : Prog} {b : Bool} {n : Nat} {H : Hp} {Q : Post} {X : XP}

theorem s_is_rowG (hP : P.fn "is_row" = some f_is_row) (hP1 : P.fn "is_guest" = some f_is_guest) {r : Nat} {row : List Int} {g m : Int} (hr : LI H r row) (hl : row.length ≤ lim)
    (h : ∀ H', H <+: H' → Q (.bool (rowB row g m)) H') : callN P b (n + 2) "is_row" [.ref r, .int g, .int m] H Q X := by
  (refine callN_in hP rfl ?_; unfold f_is_row)
  (repeat (first | dsimp only [XK, XL] | dsimp only [ZA,ZB,ZC,ZD,ZE,ZF,ZG,ZH,ZI,ZJ,ZK,ZL,ZM,ZN,ZO,ZP,ZQ,ZR,ZS,ZT,ZU,ZV,ZW,ZX,ZY,ZZ,Za,Zb,Zc,Zd,Ze,Zf,Zg,Zh,Zi,Zj,Zk,Zl,Zm,Zn,Zo,Zp,Zq,Zr,Zs,Zt,Zu,Zv,Zw,Zx,Zy,Zz,YA,YB,YC,YD,YE,YF,YG,YH,YI,YJ,YK,YL,YM,YN,YO,YP,YQ,YR,YS,Env.set,cond_true,cond_false,String.reduceBEq,YT,YU,YV,YW,YX,YY,YZ,Ya,Yb,Yc,Yd,Ye,Yf,Yg] | simp only [Yh,Yi,true_and,Yj,Yk,Yl,Ym,Yn,Yo,Yp,Yq,Yr,Yt,Yu,Yv,Yw,Yx,Yy,Yz,XA,XB,XD,XE,XF,XG,beq_self_eq_true,reduceIte,reduceCtorEq,↓reduceIte,XH,XI,XJ, hr.isList, hr.len, range_nat hl]))
  refine wFor_idx (fun i ρ H' => H <+: H' ∧ rowB (row.take i) g m = true ∧ ρ "row" = some (.ref r) ∧ ρ "guest" = some (.int g) ∧ ρ "many" = some (.int m)) ⟨List.prefix_refl _, rfl, rfl, rfl, rfl⟩ (fun i v ρ H' hv hI => ⟨trivial, fun k' h1 h2 => ?_⟩) fun ρ H' hI => ⟨trivial, ?_⟩
  · obtain ⟨hi, rfl⟩ := rng_get hv
    obtain ⟨hp, hB, e1, e2, e3⟩ := hI
    have hr' := hr.pre hp
    obtain ⟨x, hx⟩ : ∃ x, row[i]? = some x := ⟨_, List.getElem?_eq_getElem hi⟩
    have bad : ∀ H'', H <+: H'' → ¬ ((0 ≤ x ∧ x < m) ∧ x ≠ g ∧ x ∉ row.take i) → Q (.bool false) H'' := fun H'' hp' q => by
      have : rowB row g m = false := by
        cases e : rowB row g m with
        | false => rfl
        | true => exact absurd ((rowB_step hx hB).mp (rowB_take e (i + 1))) q
      rw [← this]; exact h H'' hp'
    (repeat (first | dsimp only [XK, XL] | dsimp only [ZA,ZB,ZC,ZD,ZE,ZF,ZG,ZH,ZI,ZJ,ZK,ZL,ZM,ZN,ZO,ZP,ZQ,ZR,ZS,ZT,ZU,ZV,ZW,ZX,ZY,ZZ,Za,Zb,Zc,Zd,Ze,Zf,Zg,Zh,Zi,Zj,Zk,Zl,Zm,Zn,Zo,Zp,Zq,Zr,Zs,Zt,Zu,Zv,Zw,Zx,Zy,Zz,YA,YB,YC,YD,YE,YF,YG,YH,YI,YJ,YK,YL,YM,YN,YO,YP,YQ,YR,YS,Env.set,cond_true,cond_false,String.reduceBEq,YT,YU,YV,YW,YX,YY,YZ,Ya,Yb,Yc,Yd,Ye,Yf,Yg] | simp only [Yh,Yi,true_and,Yj,Yk,Yl,Ym,Yn,Yo,Yp,Yq,Yr,Yt,Yu,Yv,Yw,Yx,Yy,Yz,XA,XB,XD,XE,XF,XG,beq_self_eq_true,reduceIte,reduceCtorEq,↓reduceIte,XH,XI,XJ, e1, e2, e3, hr'.item hx]))
    refine s_is_guest hP1 ?_
    by_cases q1 : 0 ≤ x ∧ x < m
    · (repeat (first | dsimp only [XK, XL] | dsimp only [ZA,ZB,ZC,ZD,ZE,ZF,ZG,ZH,ZI,ZJ,ZK,ZL,ZM,ZN,ZO,ZP,ZQ,ZR,ZS,ZT,ZU,ZV,ZW,ZX,ZY,ZZ,Za,Zb,Zc,Zd,Ze,Zf,Zg,Zh,Zi,Zj,Zk,Zl,Zm,Zn,Zo,Zp,Zq,Zr,Zs,Zt,Zu,Zv,Zw,Zx,Zy,Zz,YA,YB,YC,YD,YE,YF,YG,YH,YI,YJ,YK,YL,YM,YN,YO,YP,YQ,YR,YS,Env.set,cond_true,cond_false,String.reduceBEq,YT,YU,YV,YW,YX,YY,YZ,Ya,Yb,Yc,Yd,Ye,Yf,Yg] | simp only [Yh,Yi,true_and,Yj,Yk,Yl,Ym,Yn,Yo,Yp,Yq,Yr,Yt,Yu,Yv,Yw,Yx,Yy,Yz,XA,XB,XD,XE,XF,XG,beq_self_eq_true,reduceIte,reduceCtorEq,↓reduceIte,XH,XI,XJ, decide_eq_true q1]))
      by_cases q2 : x = g
      · (repeat (first | dsimp only [XK, XL] | dsimp only [ZA,ZB,ZC,ZD,ZE,ZF,ZG,ZH,ZI,ZJ,ZK,ZL,ZM,ZN,ZO,ZP,ZQ,ZR,ZS,ZT,ZU,ZV,ZW,ZX,ZY,ZZ,Za,Zb,Zc,Zd,Ze,Zf,Zg,Zh,Zi,Zj,Zk,Zl,Zm,Zn,Zo,Zp,Zq,Zr,Zs,Zt,Zu,Zv,Zw,Zx,Zy,Zz,YA,YB,YC,YD,YE,YF,YG,YH,YI,YJ,YK,YL,YM,YN,YO,YP,YQ,YR,YS,Env.set,cond_true,cond_false,String.reduceBEq,YT,YU,YV,YW,YX,YY,YZ,Ya,Yb,Yc,Yd,Ye,Yf,Yg] | simp only [Yh,Yi,true_and,Yj,Yk,Yl,Ym,Yn,Yo,Yp,Yq,Yr,Yt,Yu,Yv,Yw,Yx,Yy,Yz,XA,XB,XD,XE,XF,XG,beq_self_eq_true,reduceIte,reduceCtorEq,↓reduceIte,XH,XI,XJ, hr'.item hx, show (x == g) = true by simp [q2]]))
        exact h2 _ _ _ (bad _ hp fun q => q.2.1 q2)
      · by_cases q3 : x ∈ row.take i
        · (repeat (first | dsimp only [XK, XL] | dsimp only [ZA,ZB,ZC,ZD,ZE,ZF,ZG,ZH,ZI,ZJ,ZK,ZL,ZM,ZN,ZO,ZP,ZQ,ZR,ZS,ZT,ZU,ZV,ZW,ZX,ZY,ZZ,Za,Zb,Zc,Zd,Ze,Zf,Zg,Zh,Zi,Zj,Zk,Zl,Zm,Zn,Zo,Zp,Zq,Zr,Zs,Zt,Zu,Zv,Zw,Zx,Zy,Zz,YA,YB,YC,YD,YE,YF,YG,YH,YI,YJ,YK,YL,YM,YN,YO,YP,YQ,YR,YS,Env.set,cond_true,cond_false,String.reduceBEq,YT,YU,YV,YW,YX,YY,YZ,Ya,Yb,Yc,Yd,Ye,Yf,Yg] | simp only [Yh,Yi,true_and,Yj,Yk,Yl,Ym,Yn,Yo,Yp,Yq,Yr,Yt,Yu,Yv,Yw,Yx,Yy,Yz,XA,XB,XD,XE,XF,XG,beq_self_eq_true,reduceIte,reduceCtorEq,↓reduceIte,XH,XI,XJ, hr'.item hx, show (x == g) = false by simp [q2], hr'.sliceTo i, (LI.new H' (row.take i)).mem x, decide_eq_true q3]))
          exact h2 _ _ _ (bad _ (hp.trans (pre_new _ _)) fun q => q.2.2 q3)
        · (repeat (first | dsimp only [XK, XL] | dsimp only [ZA,ZB,ZC,ZD,ZE,ZF,ZG,ZH,ZI,ZJ,ZK,ZL,ZM,ZN,ZO,ZP,ZQ,ZR,ZS,ZT,ZU,ZV,ZW,ZX,ZY,ZZ,Za,Zb,Zc,Zd,Ze,Zf,Zg,Zh,Zi,Zj,Zk,Zl,Zm,Zn,Zo,Zp,Zq,Zr,Zs,Zt,Zu,Zv,Zw,Zx,Zy,Zz,YA,YB,YC,YD,YE,YF,YG,YH,YI,YJ,YK,YL,YM,YN,YO,YP,YQ,YR,YS,Env.set,cond_true,cond_false,String.reduceBEq,YT,YU,YV,YW,YX,YY,YZ,Ya,Yb,Yc,Yd,Ye,Yf,Yg] | simp only [Yh,Yi,true_and,Yj,Yk,Yl,Ym,Yn,Yo,Yp,Yq,Yr,Yt,Yu,Yv,Yw,Yx,Yy,Yz,XA,XB,XD,XE,XF,XG,beq_self_eq_true,reduceIte,reduceCtorEq,↓reduceIte,XH,XI,XJ, hr'.item hx, show (x == g) = false by simp [q2], hr'.sliceTo i, (LI.new H' (row.take i)).mem x, decide_eq_false q3]))
          refine h1 _ _ ⟨hp.trans (pre_new _ _), (rowB_step hx hB).mpr ⟨q1, q2, q3⟩, ?_⟩
          (repeat (first | dsimp only [XK, XL] | dsimp only [ZA,ZB,ZC,ZD,ZE,ZF,ZG,ZH,ZI,ZJ,ZK,ZL,ZM,ZN,ZO,ZP,ZQ,ZR,ZS,ZT,ZU,ZV,ZW,ZX,ZY,ZZ,Za,Zb,Zc,Zd,Ze,Zf,Zg,Zh,Zi,Zj,Zk,Zl,Zm,Zn,Zo,Zp,Zq,Zr,Zs,Zt,Zu,Zv,Zw,Zx,Zy,Zz,YA,YB,YC,YD,YE,YF,YG,YH,YI,YJ,YK,YL,YM,YN,YO,YP,YQ,YR,YS,Env.set,cond_true,cond_false,String.reduceBEq,YT,YU,YV,YW,YX,YY,YZ,Ya,Yb,Yc,Yd,Ye,Yf,Yg] | simp only [Yh,Yi,true_and,Yj,Yk,Yl,Ym,Yn,Yo,Yp,Yq,Yr,Yt,Yu,Yv,Yw,Yx,Yy,Yz,XA,XB,XD,XE,XF,XG,beq_self_eq_true,reduceIte,reduceCtorEq,↓reduceIte,XH,XI,XJ, e1, e2, e3]))
    · (repeat (first | dsimp only [XK, XL] | dsimp only [ZA,ZB,ZC,ZD,ZE,ZF,ZG,ZH,ZI,ZJ,ZK,ZL,ZM,ZN,ZO,ZP,ZQ,ZR,ZS,ZT,ZU,ZV,ZW,ZX,ZY,ZZ,Za,Zb,Zc,Zd,Ze,Zf,Zg,Zh,Zi,Zj,Zk,Zl,Zm,Zn,Zo,Zp,Zq,Zr,Zs,Zt,Zu,Zv,Zw,Zx,Zy,Zz,YA,YB,YC,YD,YE,YF,YG,YH,YI,YJ,YK,YL,YM,YN,YO,YP,YQ,YR,YS,Env.set,cond_true,cond_false,String.reduceBEq,YT,YU,YV,YW,YX,YY,YZ,Ya,Yb,Yc,Yd,Ye,Yf,Yg] | simp only [Yh,Yi,true_and,Yj,Yk,Yl,Ym,Yn,Yo,Yp,Yq,Yr,Yt,Yu,Yv,Yw,Yx,Yy,Yz,XA,XB,XD,XE,XF,XG,beq_self_eq_true,reduceIte,reduceCtorEq,↓reduceIte,XH,XI,XJ, decide_eq_false q1]))
      exact h2 _ _ _ (bad _ hp fun q => q1 q.1)
  · obtain ⟨hp, hB, _⟩ := hI
    rw [rng_len, List.take_length] at hB
    (repeat (first | dsimp only [XK, XL] | dsimp only [ZA,ZB,ZC,ZD,ZE,ZF,ZG,ZH,ZI,ZJ,ZK,ZL,ZM,ZN,ZO,ZP,ZQ,ZR,ZS,ZT,ZU,ZV,ZW,ZX,ZY,ZZ,Za,Zb,Zc,Zd,Ze,Zf,Zg,Zh,Zi,Zj,Zk,Zl,Zm,Zn,Zo,Zp,Zq,Zr,Zs,Zt,Zu,Zv,Zw,Zx,Zy,Zz,YA,YB,YC,YD,YE,YF,YG,YH,YI,YJ,YK,YL,YM,YN,YO,YP,YQ,YR,YS,Env.set,cond_true,cond_false,String.reduceBEq,YT,YU,YV,YW,YX,YY,YZ,Ya,Yb,Yc,Yd,Ye,Yf,Yg] | simp only [Yh,Yi,true_and,Yj,Yk,Yl,Ym,Yn,Yo,Yp,Yq,Yr,Yt,Yu,Yv,Yw,Yx,Yy,Yz,XA,XB,XD,XE,XF,XG,beq_self_eq_true,reduceIte,reduceCtorEq,↓reduceIte,XH,XI,XJ]))
    have := h H' hp
    rw [hB] at this; exact this

end
end Mine

namespace Mine
open PySem

noncomputable def NonG (t : V) (H : Hp) : Prop := isInst t ["int"] H = some false ∨ ∃ x, t = .bool x

section
variable {P : Prog} {b : Bool} {n : Nat} {H : Hp} {Q : Post} {X : XP}

theorem s_guest_no (hP : P.fn "is_guest" = some f_is_guest) {t : V} {m : Int} (ht : NonG t H) (h : Q (.bool false) H) : callN P b (n + 1) "is_guest" [t, .int m] H Q X := by
  (refine callN_in hP rfl ?_; unfold f_is_guest)
  rcases ht with ht | ⟨x, rfl⟩
  · (repeat (first | dsimp only [XK, XL] | dsimp only [ZA,ZB,ZC,ZD,ZE,ZF,ZG,ZH,ZI,ZJ,ZK,ZL,ZM,ZN,ZO,ZP,ZQ,ZR,ZS,ZT,ZU,ZV,ZW,ZX,ZY,ZZ,Za,Zb,Zc,Zd,Ze,Zf,Zg,Zh,Zi,Zj,Zk,Zl,Zm,Zn,Zo,Zp,Zq,Zr,Zs,Zt,Zu,Zv,Zw,Zx,Zy,Zz,YA,YB,YC,YD,YE,YF,YG,YH,YI,YJ,YK,YL,YM,YN,YO,YP,YQ,YR,YS,Env.set,cond_true,cond_false,String.reduceBEq,YT,YU,YV,YW,YX,YY,YZ,Ya,Yb,Yc,Yd,Ye,Yf,Yg] | simp only [Yh,Yi,true_and,Yj,Yk,Yl,Ym,Yn,Yo,Yp,Yq,Yr,Yt,Yu,Yv,Yw,Yx,Yy,Yz,XA,XB,XD,XE,XF,XG,beq_self_eq_true,reduceIte,reduceCtorEq,↓reduceIte,XH,XI,XJ, ht]))
    exact h
  · (repeat (first | dsimp only [XK, XL] | dsimp only [ZA,ZB,ZC,ZD,ZE,ZF,ZG,ZH,ZI,ZJ,ZK,ZL,ZM,ZN,ZO,ZP,ZQ,ZR,ZS,ZT,ZU,ZV,ZW,ZX,ZY,ZZ,Za,Zb,Zc,Zd,Ze,Zf,Zg,Zh,Zi,Zj,Zk,Zl,Zm,Zn,Zo,Zp,Zq,Zr,Zs,Zt,Zu,Zv,Zw,Zx,Zy,Zz,YA,YB,YC,YD,YE,YF,YG,YH,YI,YJ,YK,YL,YM,YN,YO,YP,YQ,YR,YS,Env.set,cond_true,cond_false,String.reduceBEq,YT,YU,YV,YW,YX,YY,YZ,Ya,Yb,Yc,Yd,Ye,Yf,Yg] | simp only [Yh,Yi,true_and,Yj,Yk,Yl,Ym,Yn,Yo,Yp,Yq,Yr,Yt,Yu,Yv,Yw,Yx,Yy,Yz,XA,XB,XD,XE,XF,XG,beq_self_eq_true,reduceIte,reduceCtorEq,↓reduceIte,XH,XI,XJ, show isInst (.bool x) ["int"] H = some true by simp [isInst, isObj, typesOf]]))
    exact h

noncomputable def RowBad (P : Prog) (b : Bool) (r : V) (g m : Nat) (H : Hp) : Prop :=
  ∀ n H' Q X, H <+: H' → (∀ H'', H' <+: H'' → Q (.bool false) H'') → callN P b (n + 2) "is_row" [r, .int (g : Int), .int (m : Int)] H' Q X

theorem rowBad_other (hP : P.fn "is_row" = some f_is_row) {r : V} {g m : Nat} (hr : ∀ H', H <+: H' → isInst r ["list"] H' = some false) : RowBad P b r g m H := fun n H' Q X hp h => by
  (refine callN_in hP rfl ?_; unfold f_is_row)
  (repeat (first | dsimp only [XK, XL] | dsimp only [ZA,ZB,ZC,ZD,ZE,ZF,ZG,ZH,ZI,ZJ,ZK,ZL,ZM,ZN,ZO,ZP,ZQ,ZR,ZS,ZT,ZU,ZV,ZW,ZX,ZY,ZZ,Za,Zb,Zc,Zd,Ze,Zf,Zg,Zh,Zi,Zj,Zk,Zl,Zm,Zn,Zo,Zp,Zq,Zr,Zs,Zt,Zu,Zv,Zw,Zx,Zy,Zz,YA,YB,YC,YD,YE,YF,YG,YH,YI,YJ,YK,YL,YM,YN,YO,YP,YQ,YR,YS,Env.set,cond_true,cond_false,String.reduceBEq,YT,YU,YV,YW,YX,YY,YZ,Ya,Yb,Yc,Yd,Ye,Yf,Yg] | simp only [Yh,Yi,true_and,Yj,Yk,Yl,Ym,Yn,Yo,Yp,Yq,Yr,Yt,Yu,Yv,Yw,Yx,Yy,Yz,XA,XB,XD,XE,XF,XG,beq_self_eq_true,reduceIte,reduceCtorEq,↓reduceIte,XH,XI,XJ, hr H' hp]))
  exact h H' (List.prefix_refl _)

theorem rowBad_ints (hP : P.fn "is_row" = some f_is_row) (hP1 : P.fn "is_guest" = some f_is_guest) {a g m : Nat} {l : List Int} (ha : LI H a l) (hl : l.length ≤ lim) (hb : rowB l g m = false) : RowBad P b (.ref a) g m H := fun n H' Q X hp h =>
  s_is_rowG hP hP1 (ha.pre hp) hl fun H'' hp' => by rw [hb]; exact h H'' hp'

theorem rowBad_thing (hP : P.fn "is_row" = some f_is_row) (hP1 : P.fn "is_guest" = some f_is_guest) {a g m : Nat} {l : List Int} {t : V} {B : List V} (ha : H[a]? = some (.list (l.map .int ++ t :: B))) (hl : (l.map V.int ++ t :: B).length ≤ lim) (hb : rowB l g m = true)
    (ht : ∀ H', H <+: H' → NonG t H') : RowBad P b (.ref a) g m H := fun n H₀ Q X hp₀ h => by
  have ha₀ := pre_get hp₀ ha
  (refine callN_in hP rfl ?_; unfold f_is_row)
  have hil : isInst (.ref a) ["list"] H₀ = some true := by simp [isInst, isObj, typesOf, ha₀]
  have hlen : lenV (.ref a) H₀ = some ((l.map V.int ++ t :: B).length : Int) := by unfold lenV; simp [seqOf_list ha₀]
  (repeat (first | dsimp only [XK, XL] | dsimp only [ZA,ZB,ZC,ZD,ZE,ZF,ZG,ZH,ZI,ZJ,ZK,ZL,ZM,ZN,ZO,ZP,ZQ,ZR,ZS,ZT,ZU,ZV,ZW,ZX,ZY,ZZ,Za,Zb,Zc,Zd,Ze,Zf,Zg,Zh,Zi,Zj,Zk,Zl,Zm,Zn,Zo,Zp,Zq,Zr,Zs,Zt,Zu,Zv,Zw,Zx,Zy,Zz,YA,YB,YC,YD,YE,YF,YG,YH,YI,YJ,YK,YL,YM,YN,YO,YP,YQ,YR,YS,Env.set,cond_true,cond_false,String.reduceBEq,YT,YU,YV,YW,YX,YY,YZ,Ya,Yb,Yc,Yd,Ye,Yf,Yg] | simp only [Yh,Yi,true_and,Yj,Yk,Yl,Ym,Yn,Yo,Yp,Yq,Yr,Yt,Yu,Yv,Yw,Yx,Yy,Yz,XA,XB,XD,XE,XF,XG,beq_self_eq_true,reduceIte,reduceCtorEq,↓reduceIte,XH,XI,XJ, hil, hlen, range_nat hl]))
  have hlt : l.length < (l.map V.int ++ t :: B).length := by simp
  refine wFor_idx (fun i ρ H' => i ≤ l.length ∧ H₀ <+: H' ∧ ρ "row" = some (.ref a) ∧ ρ "guest" = some (.int (g : Int)) ∧ ρ "many" = some (.int (m : Int))) ⟨by omega, List.prefix_refl _, rfl, rfl, rfl⟩ (fun i v ρ H' hv hI => ⟨trivial, fun k' h1 h2 => ?_⟩) fun ρ H' hI => ⟨trivial, ?_⟩
  · obtain ⟨hi, rfl⟩ := rng_get hv
    obtain ⟨hil, hp, e1, e2, e3⟩ := hI
    have ha' := pre_get hp ha₀
    by_cases hil' : i < l.length
    · obtain ⟨x, hx⟩ : ∃ x, l[i]? = some x := ⟨_, List.getElem?_eq_getElem hil'⟩
      have it : itemV (.ref a) (.int (i : Int)) H' = some (.int x) := item_seq (seqOf_list ha') (by rw [List.getElem?_append_left (by simpa using hil'), List.getElem?_map, hx]; rfl)
      have sl : sliceV (.ref a) none (some (i : Int)) H' = some (.ref H'.length, H' ++ [.list ((l.take i).map .int)]) := by
        rw [sl_ref ha', cut_to, List.take_append_of_le_length (by simp; omega), List.map_take]
      obtain ⟨q1, q2, q3⟩ := (rowB_step (g := (g : Int)) (m := (m : Int)) hx (rowB_take hb i)).mp (rowB_take hb (i + 1))
      (repeat (first | dsimp only [XK, XL] | dsimp only [ZA,ZB,ZC,ZD,ZE,ZF,ZG,ZH,ZI,ZJ,ZK,ZL,ZM,ZN,ZO,ZP,ZQ,ZR,ZS,ZT,ZU,ZV,ZW,ZX,ZY,ZZ,Za,Zb,Zc,Zd,Ze,Zf,Zg,Zh,Zi,Zj,Zk,Zl,Zm,Zn,Zo,Zp,Zq,Zr,Zs,Zt,Zu,Zv,Zw,Zx,Zy,Zz,YA,YB,YC,YD,YE,YF,YG,YH,YI,YJ,YK,YL,YM,YN,YO,YP,YQ,YR,YS,Env.set,cond_true,cond_false,String.reduceBEq,YT,YU,YV,YW,YX,YY,YZ,Ya,Yb,Yc,Yd,Ye,Yf,Yg] | simp only [Yh,Yi,true_and,Yj,Yk,Yl,Ym,Yn,Yo,Yp,Yq,Yr,Yt,Yu,Yv,Yw,Yx,Yy,Yz,XA,XB,XD,XE,XF,XG,beq_self_eq_true,reduceIte,reduceCtorEq,↓reduceIte,XH,XI,XJ, e1, e2, e3, it]))
      refine s_is_guest hP1 ?_
      (repeat (first | dsimp only [XK, XL] | dsimp only [ZA,ZB,ZC,ZD,ZE,ZF,ZG,ZH,ZI,ZJ,ZK,ZL,ZM,ZN,ZO,ZP,ZQ,ZR,ZS,ZT,ZU,ZV,ZW,ZX,ZY,ZZ,Za,Zb,Zc,Zd,Ze,Zf,Zg,Zh,Zi,Zj,Zk,Zl,Zm,Zn,Zo,Zp,Zq,Zr,Zs,Zt,Zu,Zv,Zw,Zx,Zy,Zz,YA,YB,YC,YD,YE,YF,YG,YH,YI,YJ,YK,YL,YM,YN,YO,YP,YQ,YR,YS,Env.set,cond_true,cond_false,String.reduceBEq,YT,YU,YV,YW,YX,YY,YZ,Ya,Yb,Yc,Yd,Ye,Yf,Yg] | simp only [Yh,Yi,true_and,Yj,Yk,Yl,Ym,Yn,Yo,Yp,Yq,Yr,Yt,Yu,Yv,Yw,Yx,Yy,Yz,XA,XB,XD,XE,XF,XG,beq_self_eq_true,reduceIte,reduceCtorEq,↓reduceIte,XH,XI,XJ, decide_eq_true q1, it, show (x == (g : Int)) = false by simp [q2], sl, (LI.new H' (l.take i)).mem x, decide_eq_false q3]))
      exact h1 _ _ ⟨by omega, hp.trans (pre_new _ _), by (repeat (first | dsimp only [XK, XL] | dsimp only [ZA,ZB,ZC,ZD,ZE,ZF,ZG,ZH,ZI,ZJ,ZK,ZL,ZM,ZN,ZO,ZP,ZQ,ZR,ZS,ZT,ZU,ZV,ZW,ZX,ZY,ZZ,Za,Zb,Zc,Zd,Ze,Zf,Zg,Zh,Zi,Zj,Zk,Zl,Zm,Zn,Zo,Zp,Zq,Zr,Zs,Zt,Zu,Zv,Zw,Zx,Zy,Zz,YA,YB,YC,YD,YE,YF,YG,YH,YI,YJ,YK,YL,YM,YN,YO,YP,YQ,YR,YS,Env.set,cond_true,cond_false,String.reduceBEq,YT,YU,YV,YW,YX,YY,YZ,Ya,Yb,Yc,Yd,Ye,Yf,Yg] | simp only [Yh,Yi,true_and,Yj,Yk,Yl,Ym,Yn,Yo,Yp,Yq,Yr,Yt,Yu,Yv,Yw,Yx,Yy,Yz,XA,XB,XD,XE,XF,XG,beq_self_eq_true,reduceIte,reduceCtorEq,↓reduceIte,XH,XI,XJ, e1])), by (repeat (first | dsimp only [XK, XL] | dsimp only [ZA,ZB,ZC,ZD,ZE,ZF,ZG,ZH,ZI,ZJ,ZK,ZL,ZM,ZN,ZO,ZP,ZQ,ZR,ZS,ZT,ZU,ZV,ZW,ZX,ZY,ZZ,Za,Zb,Zc,Zd,Ze,Zf,Zg,Zh,Zi,Zj,Zk,Zl,Zm,Zn,Zo,Zp,Zq,Zr,Zs,Zt,Zu,Zv,Zw,Zx,Zy,Zz,YA,YB,YC,YD,YE,YF,YG,YH,YI,YJ,YK,YL,YM,YN,YO,YP,YQ,YR,YS,Env.set,cond_true,cond_false,String.reduceBEq,YT,YU,YV,YW,YX,YY,YZ,Ya,Yb,Yc,Yd,Ye,Yf,Yg] | simp only [Yh,Yi,true_and,Yj,Yk,Yl,Ym,Yn,Yo,Yp,Yq,Yr,Yt,Yu,Yv,Yw,Yx,Yy,Yz,XA,XB,XD,XE,XF,XG,beq_self_eq_true,reduceIte,reduceCtorEq,↓reduceIte,XH,XI,XJ, e2])), by (repeat (first | dsimp only [XK, XL] | dsimp only [ZA,ZB,ZC,ZD,ZE,ZF,ZG,ZH,ZI,ZJ,ZK,ZL,ZM,ZN,ZO,ZP,ZQ,ZR,ZS,ZT,ZU,ZV,ZW,ZX,ZY,ZZ,Za,Zb,Zc,Zd,Ze,Zf,Zg,Zh,Zi,Zj,Zk,Zl,Zm,Zn,Zo,Zp,Zq,Zr,Zs,Zt,Zu,Zv,Zw,Zx,Zy,Zz,YA,YB,YC,YD,YE,YF,YG,YH,YI,YJ,YK,YL,YM,YN,YO,YP,YQ,YR,YS,Env.set,cond_true,cond_false,String.reduceBEq,YT,YU,YV,YW,YX,YY,YZ,Ya,Yb,Yc,Yd,Ye,Yf,Yg] | simp only [Yh,Yi,true_and,Yj,Yk,Yl,Ym,Yn,Yo,Yp,Yq,Yr,Yt,Yu,Yv,Yw,Yx,Yy,Yz,XA,XB,XD,XE,XF,XG,beq_self_eq_true,reduceIte,reduceCtorEq,↓reduceIte,XH,XI,XJ, e3]))⟩
    · obtain rfl : i = l.length := by omega
      have it : itemV (.ref a) (.int (l.length : Int)) H' = some t := item_seq (seqOf_list ha') (by rw [List.getElem?_append_right (by simp)]; simp)
      (repeat (first | dsimp only [XK, XL] | dsimp only [ZA,ZB,ZC,ZD,ZE,ZF,ZG,ZH,ZI,ZJ,ZK,ZL,ZM,ZN,ZO,ZP,ZQ,ZR,ZS,ZT,ZU,ZV,ZW,ZX,ZY,ZZ,Za,Zb,Zc,Zd,Ze,Zf,Zg,Zh,Zi,Zj,Zk,Zl,Zm,Zn,Zo,Zp,Zq,Zr,Zs,Zt,Zu,Zv,Zw,Zx,Zy,Zz,YA,YB,YC,YD,YE,YF,YG,YH,YI,YJ,YK,YL,YM,YN,YO,YP,YQ,YR,YS,Env.set,cond_true,cond_false,String.reduceBEq,YT,YU,YV,YW,YX,YY,YZ,Ya,Yb,Yc,Yd,Ye,Yf,Yg] | simp only [Yh,Yi,true_and,Yj,Yk,Yl,Ym,Yn,Yo,Yp,Yq,Yr,Yt,Yu,Yv,Yw,Yx,Yy,Yz,XA,XB,XD,XE,XF,XG,beq_self_eq_true,reduceIte,reduceCtorEq,↓reduceIte,XH,XI,XJ, e1, e2, e3, it]))
      refine s_guest_no hP1 (ht H' (hp₀.trans hp)) ?_
      (repeat (first | dsimp only [XK, XL] | dsimp only [ZA,ZB,ZC,ZD,ZE,ZF,ZG,ZH,ZI,ZJ,ZK,ZL,ZM,ZN,ZO,ZP,ZQ,ZR,ZS,ZT,ZU,ZV,ZW,ZX,ZY,ZZ,Za,Zb,Zc,Zd,Ze,Zf,Zg,Zh,Zi,Zj,Zk,Zl,Zm,Zn,Zo,Zp,Zq,Zr,Zs,Zt,Zu,Zv,Zw,Zx,Zy,Zz,YA,YB,YC,YD,YE,YF,YG,YH,YI,YJ,YK,YL,YM,YN,YO,YP,YQ,YR,YS,Env.set,cond_true,cond_false,String.reduceBEq,YT,YU,YV,YW,YX,YY,YZ,Ya,Yb,Yc,Yd,Ye,Yf,Yg] | simp only [Yh,Yi,true_and,Yj,Yk,Yl,Ym,Yn,Yo,Yp,Yq,Yr,Yt,Yu,Yv,Yw,Yx,Yy,Yz,XA,XB,XD,XE,XF,XG,beq_self_eq_true,reduceIte,reduceCtorEq,↓reduceIte,XH,XI,XJ]))
      exact h2 _ _ _ (h H' hp)
  · have := hI.1
    rw [rng_len] at this
    omega

end
end Mine

namespace Mine
open PySem

noncomputable def Kp (S : List Nat) (H H' : Hp) : Prop := ∀ c o, c ∉ S → H[c]? = some o → H'[c]? = some o
theorem Kp.trans {S : List Nat} {H H' H'' : Hp} (x : Kp S H H') (y : Kp S H' H'') : Kp S H H'' := fun c o hc e => y c o hc (x c o hc e)
theorem Kp.pre {S : List Nat} {H H' : Hp} (hp : H <+: H') : Kp S H H' := fun _ _ _ e => pre_get hp e
theorem Kp.set {S : List Nat} {H : Hp} {r : Nat} (hr : r ∈ S) (o : O) : Kp S H (H.set r o) := fun c o' hc e => by rw [get_set_ne (by rintro rfl; exact hc hr)]; exact e
noncomputable def NotV (H : Hp) (s : Nat) : Prop := (∀ l, ¬ LI H s l) ∧ ∀ M, ¬ MT H s M
theorem NotV.of {H : Hp} {s : Nat} {o : O} (h : H[s]? = some o) (hn : ∀ xs, o ≠ .list xs) : NotV H s := ⟨fun l q => by unfold LI at q; rw [h] at q; exact hn _ (Option.some.inj q), fun M q => by unfold MT at q; rw [h] at q; exact hn _ (Option.some.inj q)⟩
theorem LI.kp {S : List Nat} {H H' : Hp} {a : Nat} {l : List Int} (h : LI H a l) (x : Kp S H H') (hS : ∀ s ∈ S, NotV H s) : LI H' a l := x a _ (fun q => (hS a q).1 l h) h
theorem MT.kp {S : List Nat} {H H' : Hp} {a : Nat} {M : Mt} (h : MT H a M) (x : Kp S H H') (hS : ∀ s ∈ S, NotV H s) : MT H' a M := x a _ (fun q => (hS a q).2 M h) h
theorem WH.kp {S : List Nat} {H H' : Hp} {w : Nat} {W : List (List Int)} (h : WH H w W) (x : Kp S H H') (hS : ∀ s ∈ S, NotV H s) (hw : w ∉ S) : WH H' w W := by
  obtain ⟨rs, h1, h2⟩ := h
  exact ⟨rs, x w _ hw h1, h2.mono fun _ _ ⟨b, e, q⟩ => ⟨b, e, q.kp x hS⟩⟩

noncomputable def WHf (c : Nat) (H : Hp) (w : Nat) (W : List (List Int)) : Prop := ∃ rs : List V, H[w]? = some (.list rs) ∧ All2 (fun r is => ∃ b, r = .ref b ∧ c ≤ b ∧ LI H b is) rs W
theorem WHf.wh {c : Nat} {H : Hp} {w : Nat} {W : List (List Int)} (h : WHf c H w W) : WH H w W := let ⟨rs, h1, h2⟩ := h; ⟨rs, h1, h2.mono fun _ _ ⟨b, e, _, q⟩ => ⟨b, e, q⟩⟩
theorem WHf.pre {c : Nat} {H H' : Hp} {a : Nat} {W : List (List Int)} (h : WHf c H a W) (hp : H <+: H') : WHf c H' a W :=
  let ⟨rs, h1, h2⟩ := h; ⟨rs, pre_get hp h1, h2.mono fun _ _ ⟨b, e, l, q⟩ => ⟨b, e, l, q.pre hp⟩⟩

theorem WHf.le {c c' : Nat} {H : Hp} {w : Nat} {W : List (List Int)} (h : WHf c H w W) (hc : c' ≤ c) : WHf c' H w W := let ⟨rs, h1, h2⟩ := h; ⟨rs, h1, h2.mono fun _ _ ⟨b, e, l, q⟩ => ⟨b, e, Nat.le_trans hc l, q⟩⟩
theorem WHf.kp {c : Nat} {S : List Nat} {H H' : Hp} {w : Nat} {W : List (List Int)} (h : WHf c H w W) (x : Kp S H H') (hS : ∀ s ∈ S, NotV H s) (hw : w ∉ S) : WHf c H' w W := by
  obtain ⟨rs, h1, h2⟩ := h
  exact ⟨rs, x w _ hw h1, h2.mono fun _ _ ⟨b, e, l, q⟩ => ⟨b, e, l, q.kp x hS⟩⟩
noncomputable def MV (H : Hp) (v : V) (o : Option Mt) : Prop := match o with
  | none => v = .none
  | some M => ∃ a, v = .ref a ∧ MT H a M
theorem MV.kp {S : List Nat} {H H' : Hp} {v : V} {o : Option Mt} (h : MV H v o) (x : Kp S H H') (hS : ∀ s ∈ S, NotV H s) : MV H' v o := by
  cases o with
  | none => exact h
  | some M => obtain ⟨a, e, q⟩ := h; exact ⟨a, e, q.kp x hS⟩
theorem MV.pre {H H' : Hp} {v : V} {o : Option Mt} (h : MV H v o) (hp : H <+: H') : MV H' v o := h.kp (S := []) (.pre hp) fun _ q => by cases q
theorem MV.eq {H : Hp} {v v' : V} {o : Option Mt} (h : MV H v o) (h' : MV H v' o) : eqD H v v' = some true := by
  cases o with
  | none => cases h; cases h'; exact eqD_nn H
  | some M => obtain ⟨a, rfl, q⟩ := h; obtain ⟨a', rfl, q'⟩ := h'; rw [q.eq q']; simp

structure INN (H : Hp) (x d iw : Nat) (mv : V) : Prop where
  obj : H[x]? = some (.inst "Inn" d)
  names : H[d]? = some (.fdict [("wishes", .ref iw), ("mates", mv)])
theorem INN.wishes {H : Hp} {x d iw : Nat} {mv : V} (h : INN H x d iw mv) : attrV "wishes" (.ref x) H = some (.ref iw) := by
  unfold attrV; simp only [h.obj, h.names]; rfl
theorem INN.mates {H : Hp} {x d iw : Nat} {mv : V} (h : INN H x d iw mv) : attrV "mates" (.ref x) H = some mv := by
  unfold attrV; simp only [h.obj, h.names]; rfl
theorem INN.inst {H : Hp} {x d iw : Nat} {mv : V} (h : INN H x d iw mv) : oInst (.ref x) H = some (x, "Inn") := by
  unfold oInst; simp [h.obj, h.names]
theorem INN.pre {H H' : Hp} {x d iw : Nat} {mv : V} (h : INN H x d iw mv) (hp : H <+: H') : INN H' x d iw mv := ⟨pre_get hp h.obj, pre_get hp h.names⟩

noncomputable def firstC (W : List (List Int)) : Option Mt := (calmW W).head?

section
variable {P : Prog} {b : Bool} {n : Nat} {H : Hp} {Q : Post} {X : XP}

theorem s_twos {x d iw : Nat} {mv : V} {o : Option Mt} (hP : P.fn "Inn.twos" = some f_Inn_twos) (hI : INN H x d iw mv) (hm : MV H mv o) (h : ∀ H' v, H <+: H' → MV H' v o → (∀ a, v = .ref a → H.length ≤ a) → Q v H') : callN P b (n + 1) "Inn.twos" [.ref x] H Q X := by
  (refine callN_in hP rfl ?_; unfold f_Inn_twos)
  cases o with
  | none =>
    cases hm
    (repeat (first | dsimp only [XK, XL] | dsimp only [ZA,ZB,ZC,ZD,ZE,ZF,ZG,ZH,ZI,ZJ,ZK,ZL,ZM,ZN,ZO,ZP,ZQ,ZR,ZS,ZT,ZU,ZV,ZW,ZX,ZY,ZZ,Za,Zb,Zc,Zd,Ze,Zf,Zg,Zh,Zi,Zj,Zk,Zl,Zm,Zn,Zo,Zp,Zq,Zr,Zs,Zt,Zu,Zv,Zw,Zx,Zy,Zz,YA,YB,YC,YD,YE,YF,YG,YH,YI,YJ,YK,YL,YM,YN,YO,YP,YQ,YR,YS,Env.set,cond_true,cond_false,String.reduceBEq,YT,YU,YV,YW,YX,YY,YZ,Ya,Yb,Yc,Yd,Ye,Yf,Yg] | simp only [Yh,Yi,true_and,Yj,Yk,Yl,Ym,Yn,Yo,Yp,Yq,Yr,Yt,Yu,Yv,Yw,Yx,Yy,Yz,XA,XB,XD,XE,XF,XG,beq_self_eq_true,reduceIte,reduceCtorEq,↓reduceIte,XH,XI,XJ, hI.mates]))
    exact h H .none (List.prefix_refl _) rfl (fun a e => by cases e)
  | some M =>
    obtain ⟨a, rfl, hM⟩ := hm
    (repeat (first | dsimp only [XK, XL] | dsimp only [ZA,ZB,ZC,ZD,ZE,ZF,ZG,ZH,ZI,ZJ,ZK,ZL,ZM,ZN,ZO,ZP,ZQ,ZR,ZS,ZT,ZU,ZV,ZW,ZX,ZY,ZZ,Za,Zb,Zc,Zd,Ze,Zf,Zg,Zh,Zi,Zj,Zk,Zl,Zm,Zn,Zo,Zp,Zq,Zr,Zs,Zt,Zu,Zv,Zw,Zx,Zy,Zz,YA,YB,YC,YD,YE,YF,YG,YH,YI,YJ,YK,YL,YM,YN,YO,YP,YQ,YR,YS,Env.set,cond_true,cond_false,String.reduceBEq,YT,YU,YV,YW,YX,YY,YZ,Ya,Yb,Yc,Yd,Ye,Yf,Yg] | simp only [Yh,Yi,true_and,Yj,Yk,Yl,Ym,Yn,Yo,Yp,Yq,Yr,Yt,Yu,Yv,Yw,Yx,Yy,Yz,XA,XB,XD,XE,XF,XG,beq_self_eq_true,reduceIte,reduceCtorEq,↓reduceIte,XH,XI,XJ, hI.mates, show isSame (.ref a) .none = some false from rfl, seqOf_list hM]))
    exact h _ _ (pre_new _ _) ⟨_, rfl, get_new _ _⟩ (fun a e => by cases e; exact Nat.le_refl _)

theorem w_copyE {C : Ctx} {y : String} {src : E} {ρ : Env} {Q : Post} {X : XP} {w : Nat} {W : List (List Int)} (hs : ∀ (Q : Post), Q (.ref w) H → wE C src ρ H Q X) (hw : WH H w W) (h : ∀ H' r, H <+: H' → H.length ≤ r → WHf H.length H' r W → Q (.ref r) H') : wE C (.compS (.op .list [.var y]) (.one y) src []) ρ H Q X := by
  obtain ⟨rs, h1, h2⟩ := hw
  rw [e_compS]
  refine hs _ ?_
  (repeat (first | dsimp only [XK, XL] | dsimp only [ZA,ZB,ZC,ZD,ZE,ZF,ZG,ZH,ZI,ZJ,ZK,ZL,ZM,ZN,ZO,ZP,ZQ,ZR,ZS,ZT,ZU,ZV,ZW,ZX,ZY,ZZ,Za,Zb,Zc,Zd,Ze,Zf,Zg,Zh,Zi,Zj,Zk,Zl,Zm,Zn,Zo,Zp,Zq,Zr,Zs,Zt,Zu,Zv,Zw,Zx,Zy,Zz,YA,YB,YC,YD,YE,YF,YG,YH,YI,YJ,YK,YL,YM,YN,YO,YP,YQ,YR,YS,Env.set,cond_true,cond_false,String.reduceBEq,YT,YU,YV,YW,YX,YY,YZ,Ya,Yb,Yc,Yd,Ye,Yf,Yg] | simp only [Yh,Yi,true_and,Yj,Yk,Yl,Ym,Yn,Yo,Yp,Yq,Yr,Yt,Yu,Yv,Yw,Yx,Yy,Yz,XA,XB,XD,XE,XF,XG,beq_self_eq_true,reduceIte,reduceCtorEq,↓reduceIte,XH,XI,XJ, seqOf_list h1]))
  have hkeep : ∀ H' : Hp, H <+: H' → H'[w]? = H[w]? := fun H' hp => by rw [h1]; exact pre_get hp h1
  refine wLoop_idx (fun i acc H' => H <+: H' ∧ All2 (fun r is => ∃ b, r = V.ref b ∧ H.length ≤ b ∧ LI H' b is) acc (W.take i)) ⟨List.prefix_refl _, by rw [List.take_zero]; exact .nil⟩ (fun i v acc H' hv hI => ⟨hkeep _ hI.1, fun k' k1 k2 => ?_⟩) fun acc H' hI => ⟨hkeep _ hI.1, ?_⟩
  · obtain ⟨hp, hA⟩ := hI
    obtain ⟨l, hl, b, rfl, hb⟩ := h2.get hv
    (repeat (first | dsimp only [XK, XL] | dsimp only [ZA,ZB,ZC,ZD,ZE,ZF,ZG,ZH,ZI,ZJ,ZK,ZL,ZM,ZN,ZO,ZP,ZQ,ZR,ZS,ZT,ZU,ZV,ZW,ZX,ZY,ZZ,Za,Zb,Zc,Zd,Ze,Zf,Zg,Zh,Zi,Zj,Zk,Zl,Zm,Zn,Zo,Zp,Zq,Zr,Zs,Zt,Zu,Zv,Zw,Zx,Zy,Zz,YA,YB,YC,YD,YE,YF,YG,YH,YI,YJ,YK,YL,YM,YN,YO,YP,YQ,YR,YS,Env.set,cond_true,cond_false,String.reduceBEq,YT,YU,YV,YW,YX,YY,YZ,Ya,Yb,Yc,Yd,Ye,Yf,Yg] | simp only [Yh,Yi,true_and,Yj,Yk,Yl,Ym,Yn,Yo,Yp,Yq,Yr,Yt,Yu,Yv,Yw,Yx,Yy,Yz,XA,XB,XD,XE,XF,XG,beq_self_eq_true,reduceIte,reduceCtorEq,↓reduceIte,XH,XI,XJ, (hb.pre hp).seq]))
    refine k1 _ _ ⟨hp.trans (pre_new _ _), ?_⟩
    have : W.take (i + 1) = W.take i ++ [l] := by
      obtain ⟨hi, e⟩ := List.getElem?_eq_some_iff.mp hl
      rw [List.take_succ_eq_append_getElem hi, e]
    rw [this]
    exact (hA.mono fun _ _ ⟨b, e, l, q⟩ => ⟨b, e, l, q.pre (pre_new _ _)⟩).append (.cons ⟨_, rfl, hp.length_le, LI.new _ _⟩ .nil)
  · obtain ⟨hp, hA⟩ := hI
    have : W.take rs.length = W := by rw [h2.length]; exact List.take_length
    rw [this] at hA
    exact h _ _ (hp.trans (pre_new _ _)) hp.length_le ⟨acc, get_new _ _, hA.mono fun _ _ ⟨b, e, l, q⟩ => ⟨b, e, l, q.pre (pre_new _ _)⟩⟩

theorem s_table {x d iw : Nat} {mv : V} {W : List (List Int)} (hP : P.fn "Inn.table" = some f_Inn_table) (hI : INN H x d iw mv) (hw : WH H iw W) (h : ∀ H' r, H <+: H' → H.length ≤ r → WHf H.length H' r W → Q (.ref r) H') : callN P b (n + 1) "Inn.table" [.ref x] H Q X := by
  (refine callN_in hP rfl ?_; unfold f_Inn_table)
  refine wSs_cons ?_
  rw [s_ret]
  refine w_copyE (w := iw) (fun Q hq => ?_) hw fun H' r hp hl hW => ?_
  · (repeat (first | dsimp only [XK, XL] | dsimp only [ZA,ZB,ZC,ZD,ZE,ZF,ZG,ZH,ZI,ZJ,ZK,ZL,ZM,ZN,ZO,ZP,ZQ,ZR,ZS,ZT,ZU,ZV,ZW,ZX,ZY,ZZ,Za,Zb,Zc,Zd,Ze,Zf,Zg,Zh,Zi,Zj,Zk,Zl,Zm,Zn,Zo,Zp,Zq,Zr,Zs,Zt,Zu,Zv,Zw,Zx,Zy,Zz,YA,YB,YC,YD,YE,YF,YG,YH,YI,YJ,YK,YL,YM,YN,YO,YP,YQ,YR,YS,Env.set,cond_true,cond_false,String.reduceBEq,YT,YU,YV,YW,YX,YY,YZ,Ya,Yb,Yc,Yd,Ye,Yf,Yg] | simp only [Yh,Yi,true_and,Yj,Yk,Yl,Ym,Yn,Yo,Yp,Yq,Yr,Yt,Yu,Yv,Yw,Yx,Yy,Yz,XA,XB,XD,XE,XF,XG,beq_self_eq_true,reduceIte,reduceCtorEq,↓reduceIte,XH,XI,XJ, hI.wishes])); exact hq
  · (repeat (first | dsimp only [XK, XL] | dsimp only [ZA,ZB,ZC,ZD,ZE,ZF,ZG,ZH,ZI,ZJ,ZK,ZL,ZM,ZN,ZO,ZP,ZQ,ZR,ZS,ZT,ZU,ZV,ZW,ZX,ZY,ZZ,Za,Zb,Zc,Zd,Ze,Zf,Zg,Zh,Zi,Zj,Zk,Zl,Zm,Zn,Zo,Zp,Zq,Zr,Zs,Zt,Zu,Zv,Zw,Zx,Zy,Zz,YA,YB,YC,YD,YE,YF,YG,YH,YI,YJ,YK,YL,YM,YN,YO,YP,YQ,YR,YS,Env.set,cond_true,cond_false,String.reduceBEq,YT,YU,YV,YW,YX,YY,YZ,Ya,Yb,Yc,Yd,Ye,Yf,Yg] | simp only [Yh,Yi,true_and,Yj,Yk,Yl,Ym,Yn,Yo,Yp,Yq,Yr,Yt,Yu,Yv,Yw,Yx,Yy,Yz,XA,XB,XD,XE,XF,XG,beq_self_eq_true,reduceIte,reduceCtorEq,↓reduceIte,XH,XI,XJ])); exact h H' r hp hl hW

theorem s_first_calm (hP9 : P.fn "first_calm" = some f_first_calm) (hP : P.fn "all_calm" = some f_all_calm) (hP0 : P.fn "all_twos" = some f_all_twos) (hP1 : P.fn "need_wishes" = some f_need_wishes) (hP4 : P.fn "is_row" = some f_is_row) (hP5 : P.fn "is_guest" = some f_is_guest) (hP6 : P.fn "both_wish" = some f_both_wish) (hP7 : P.fn "settled" = some f_settled) (hG : P.glob "MOST_GUESTS" = some (.int 6))
    (hP3 : P.fn "found_restless" = some f_found_restless) (hP8 : P.fn "sooner" = some f_sooner) {w : Nat} {W : List (List Int)} (hw : WH H w W) (ok : WOk W) (h : ∀ H' v, H <+: H' → MV H' v (firstC W) → (∀ a, v = .ref a → H.length ≤ a) → Q v H') : callN P b (n + 11) "first_calm" [.ref w] H Q X := by
  (refine callN_in hP9 rfl ?_; unfold f_first_calm)
  (repeat (first | dsimp only [XK, XL] | dsimp only [ZA,ZB,ZC,ZD,ZE,ZF,ZG,ZH,ZI,ZJ,ZK,ZL,ZM,ZN,ZO,ZP,ZQ,ZR,ZS,ZT,ZU,ZV,ZW,ZX,ZY,ZZ,Za,Zb,Zc,Zd,Ze,Zf,Zg,Zh,Zi,Zj,Zk,Zl,Zm,Zn,Zo,Zp,Zq,Zr,Zs,Zt,Zu,Zv,Zw,Zx,Zy,Zz,YA,YB,YC,YD,YE,YF,YG,YH,YI,YJ,YK,YL,YM,YN,YO,YP,YQ,YR,YS,Env.set,cond_true,cond_false,String.reduceBEq,YT,YU,YV,YW,YX,YY,YZ,Ya,Yb,Yc,Yd,Ye,Yf,Yg] | simp only [Yh,Yi,true_and,Yj,Yk,Yl,Ym,Yn,Yo,Yp,Yq,Yr,Yt,Yu,Yv,Yw,Yx,Yy,Yz,XA,XB,XD,XE,XF,XG,beq_self_eq_true,reduceIte,reduceCtorEq,↓reduceIte,XH,XI,XJ]))
  refine s_all_calm hP hP0 hP1 hP4 hP5 hP6 hP7 hG hP3 hP8 hw ok fun H1 r hp1 hml => ?_
  unfold firstC at h
  cases e : calmW W with
  | nil =>
    rw [e] at hml h
    (repeat (first | dsimp only [XK, XL] | dsimp only [ZA,ZB,ZC,ZD,ZE,ZF,ZG,ZH,ZI,ZJ,ZK,ZL,ZM,ZN,ZO,ZP,ZQ,ZR,ZS,ZT,ZU,ZV,ZW,ZX,ZY,ZZ,Za,Zb,Zc,Zd,Ze,Zf,Zg,Zh,Zi,Zj,Zk,Zl,Zm,Zn,Zo,Zp,Zq,Zr,Zs,Zt,Zu,Zv,Zw,Zx,Zy,Zz,YA,YB,YC,YD,YE,YF,YG,YH,YI,YJ,YK,YL,YM,YN,YO,YP,YQ,YR,YS,Env.set,cond_true,cond_false,String.reduceBEq,YT,YU,YV,YW,YX,YY,YZ,Ya,Yb,Yc,Yd,Ye,Yf,Yg] | simp only [Yh,Yi,true_and,Yj,Yk,Yl,Ym,Yn,Yo,Yp,Yq,Yr,Yt,Yu,Yv,Yw,Yx,Yy,Yz,XA,XB,XD,XE,XF,XG,beq_self_eq_true,reduceIte,reduceCtorEq,↓reduceIte,XH,XI,XJ, hml.len, show (((0 : Nat) : Int) == 0) = true from rfl]))
    exact h H1 .none hp1 rfl (fun a q => by cases q)
  | cons M Ms =>
    rw [e] at hml h
    obtain ⟨hc, fs, f1, f2⟩ := id hml
    obtain ⟨v, hv, a, rfl, a1, a2, a3, a4⟩ := f2.get' (show (M :: Ms)[0]? = some M from rfl)
    have it : itemV (.ref r) (.int 0) H1 = some (.ref a) := item_seq (i := 0) (seqOf_list f1) hv
    have e0 : ((((M :: Ms).length : Nat) : Int) == 0) = false := beq_eq_false_iff_ne.mpr (by simp only [List.length_cons]; omega)
    (repeat (first | dsimp only [XK, XL] | dsimp only [ZA,ZB,ZC,ZD,ZE,ZF,ZG,ZH,ZI,ZJ,ZK,ZL,ZM,ZN,ZO,ZP,ZQ,ZR,ZS,ZT,ZU,ZV,ZW,ZX,ZY,ZZ,Za,Zb,Zc,Zd,Ze,Zf,Zg,Zh,Zi,Zj,Zk,Zl,Zm,Zn,Zo,Zp,Zq,Zr,Zs,Zt,Zu,Zv,Zw,Zx,Zy,Zz,YA,YB,YC,YD,YE,YF,YG,YH,YI,YJ,YK,YL,YM,YN,YO,YP,YQ,YR,YS,Env.set,cond_true,cond_false,String.reduceBEq,YT,YU,YV,YW,YX,YY,YZ,Ya,Yb,Yc,Yd,Ye,Yf,Yg] | simp only [Yh,Yi,true_and,Yj,Yk,Yl,Ym,Yn,Yo,Yp,Yq,Yr,Yt,Yu,Yv,Yw,Yx,Yy,Yz,XA,XB,XD,XE,XF,XG,beq_self_eq_true,reduceIte,reduceCtorEq,↓reduceIte,XH,XI,XJ, hml.len]))
    simp only [List.length_cons] at e0
    (repeat (first | dsimp only [XK, XL] | dsimp only [ZA,ZB,ZC,ZD,ZE,ZF,ZG,ZH,ZI,ZJ,ZK,ZL,ZM,ZN,ZO,ZP,ZQ,ZR,ZS,ZT,ZU,ZV,ZW,ZX,ZY,ZZ,Za,Zb,Zc,Zd,Ze,Zf,Zg,Zh,Zi,Zj,Zk,Zl,Zm,Zn,Zo,Zp,Zq,Zr,Zs,Zt,Zu,Zv,Zw,Zx,Zy,Zz,YA,YB,YC,YD,YE,YF,YG,YH,YI,YJ,YK,YL,YM,YN,YO,YP,YQ,YR,YS,Env.set,cond_true,cond_false,String.reduceBEq,YT,YU,YV,YW,YX,YY,YZ,Ya,Yb,Yc,Yd,Ye,Yf,Yg] | simp only [Yh,Yi,true_and,Yj,Yk,Yl,Ym,Yn,Yo,Yp,Yq,Yr,Yt,Yu,Yv,Yw,Yx,Yy,Yz,XA,XB,XD,XE,XF,XG,beq_self_eq_true,reduceIte,reduceCtorEq,↓reduceIte,XH,XI,XJ, e0, it]))
    exact h H1 _ hp1 ⟨a, rfl, a4⟩ (fun a' q => by cases q; exact a1)

theorem s_init (hPi : P.fn "Inn.__init__" = some f_Inn___init__) (hP9 : P.fn "first_calm" = some f_first_calm) (hP : P.fn "all_calm" = some f_all_calm) (hP0 : P.fn "all_twos" = some f_all_twos) (hP1 : P.fn "need_wishes" = some f_need_wishes) (hP4 : P.fn "is_row" = some f_is_row) (hP5 : P.fn "is_guest" = some f_is_guest) (hP6 : P.fn "both_wish" = some f_both_wish) (hP7 : P.fn "settled" = some f_settled) (hG : P.glob "MOST_GUESTS" = some (.int 6))
    (hP3 : P.fn "found_restless" = some f_found_restless) (hP8 : P.fn "sooner" = some f_sooner) {x d h' : Nat} {W : List (List Int)} (hx : H[x]? = some (.inst "Inn" d)) (hd : H[d]? = some (.fdict [])) (hw : WH H h' W) (ok : WOk W)
    (h : ∀ H' iw mv, Kp [d] H H' → INN H' x d iw mv → H.length ≤ iw → WHf H.length H' iw W → MV H' mv (firstC W) → (∀ a, mv = .ref a → H.length ≤ a) → Q .none H') : callN P b (n + 12) "Inn.__init__" [.ref x, .ref h'] H Q X := by
  (refine callN_in hPi rfl ?_; unfold f_Inn___init__)
  refine wSs_step fun K hn hr => ?_
  (repeat (first | dsimp only [XK, XL] | dsimp only [ZA,ZB,ZC,ZD,ZE,ZF,ZG,ZH,ZI,ZJ,ZK,ZL,ZM,ZN,ZO,ZP,ZQ,ZR,ZS,ZT,ZU,ZV,ZW,ZX,ZY,ZZ,Za,Zb,Zc,Zd,Ze,Zf,Zg,Zh,Zi,Zj,Zk,Zl,Zm,Zn,Zo,Zp,Zq,Zr,Zs,Zt,Zu,Zv,Zw,Zx,Zy,Zz,YA,YB,YC,YD,YE,YF,YG,YH,YI,YJ,YK,YL,YM,YN,YO,YP,YQ,YR,YS,Env.set,cond_true,cond_false,String.reduceBEq,YT,YU,YV,YW,YX,YY,YZ,Ya,Yb,Yc,Yd,Ye,Yf,Yg] | simp only [Yh,Yi,true_and,Yj,Yk,Yl,Ym,Yn,Yo,Yp,Yq,Yr,Yt,Yu,Yv,Yw,Yx,Yy,Yz,XA,XB,XD,XE,XF,XG,beq_self_eq_true,reduceIte,reduceCtorEq,↓reduceIte,XH,XI,XJ]))
  refine s_need_wishes (n := n + 8) hP1 hP4 hP5 hG hw ok fun H1 hp1 => ?_
  refine hn _ _ ?_
  clear hn hr K
  refine wSs_step fun K hn hr => ?_
  rw [s_setAttr]
  refine w_copyE (w := h') (fun Q hq => ?_) (hw.pre hp1) fun H2 iw hp2 hl2 hW2f => ?_
  · (repeat (first | dsimp only [XK, XL] | dsimp only [ZA,ZB,ZC,ZD,ZE,ZF,ZG,ZH,ZI,ZJ,ZK,ZL,ZM,ZN,ZO,ZP,ZQ,ZR,ZS,ZT,ZU,ZV,ZW,ZX,ZY,ZZ,Za,Zb,Zc,Zd,Ze,Zf,Zg,Zh,Zi,Zj,Zk,Zl,Zm,Zn,Zo,Zp,Zq,Zr,Zs,Zt,Zu,Zv,Zw,Zx,Zy,Zz,YA,YB,YC,YD,YE,YF,YG,YH,YI,YJ,YK,YL,YM,YN,YO,YP,YQ,YR,YS,Env.set,cond_true,cond_false,String.reduceBEq,YT,YU,YV,YW,YX,YY,YZ,Ya,Yb,Yc,Yd,Ye,Yf,Yg] | simp only [Yh,Yi,true_and,Yj,Yk,Yl,Ym,Yn,Yo,Yp,Yq,Yr,Yt,Yu,Yv,Yw,Yx,Yy,Yz,XA,XB,XD,XE,XF,XG,beq_self_eq_true,reduceIte,reduceCtorEq,↓reduceIte,XH,XI,XJ])); exact hq
  have hW2 := hW2f.wh
  have hW2g : WHf H.length H2 iw W := hW2f.le hp1.length_le
  have hx2 := pre_get (hp1.trans hp2) hx
  have hd2 := pre_get (hp1.trans hp2) hd
  have s1 : setAttrV (.ref x) "wishes" (.ref iw) H2 = some (H2.set d (.fdict [("wishes", .ref iw)])) := by unfold setAttrV; simp only [hx2, hd2]; rfl
  have hxd : x ≠ d := by rintro rfl; rw [hx] at hd; cases hd
  (repeat (first | dsimp only [XK, XL] | dsimp only [ZA,ZB,ZC,ZD,ZE,ZF,ZG,ZH,ZI,ZJ,ZK,ZL,ZM,ZN,ZO,ZP,ZQ,ZR,ZS,ZT,ZU,ZV,ZW,ZX,ZY,ZZ,Za,Zb,Zc,Zd,Ze,Zf,Zg,Zh,Zi,Zj,Zk,Zl,Zm,Zn,Zo,Zp,Zq,Zr,Zs,Zt,Zu,Zv,Zw,Zx,Zy,Zz,YA,YB,YC,YD,YE,YF,YG,YH,YI,YJ,YK,YL,YM,YN,YO,YP,YQ,YR,YS,Env.set,cond_true,cond_false,String.reduceBEq,YT,YU,YV,YW,YX,YY,YZ,Ya,Yb,Yc,Yd,Ye,Yf,Yg] | simp only [Yh,Yi,true_and,Yj,Yk,Yl,Ym,Yn,Yo,Yp,Yq,Yr,Yt,Yu,Yv,Yw,Yx,Yy,Yz,XA,XB,XD,XE,XF,XG,beq_self_eq_true,reduceIte,reduceCtorEq,↓reduceIte,XH,XI,XJ, s1]))
  refine hn _ _ ?_
  clear hn hr K
  have nv : ∀ s ∈ [d], NotV H2 s := fun s hs => by cases List.mem_singleton.mp hs; exact NotV.of hd2 (fun _ q => by cases q)
  have k3 : Kp [d] H2 (H2.set d (.fdict [("wishes", .ref iw)])) := Kp.set (.head _) _
  have hd3 : (H2.set d (.fdict [("wishes", .ref iw)]))[d]? = some (.fdict [("wishes", .ref iw)]) := get_set_eq hd2 _
  have hl3 : (H2.set d (.fdict [("wishes", .ref iw)])).length = H2.length := List.length_set ..
  have hiwd : iw ≠ d := by
    have := (List.getElem?_eq_some_iff.mp (pre_get hp1 hd)).1
    omega
  have hW3f := hW2g.kp k3 nv (fun q => hiwd (List.mem_singleton.mp q))
  have hW3 := hW2.kp k3 nv (fun q => hiwd (List.mem_singleton.mp q))
  have hx3 := k3 x _ (fun q => hxd (List.mem_singleton.mp q)) hx2
  generalize H2.set d (.fdict [("wishes", .ref iw)]) = H3 at k3 hd3 hl3 hW3 hW3f hx3
  refine wSs_step fun K hn hr => ?_
  have at1 : attrV "wishes" (.ref x) H3 = some (.ref iw) := by unfold attrV; simp only [hx3, hd3]; rfl
  rw [s_setAttr]
  (repeat (first | dsimp only [XK, XL] | dsimp only [ZA,ZB,ZC,ZD,ZE,ZF,ZG,ZH,ZI,ZJ,ZK,ZL,ZM,ZN,ZO,ZP,ZQ,ZR,ZS,ZT,ZU,ZV,ZW,ZX,ZY,ZZ,Za,Zb,Zc,Zd,Ze,Zf,Zg,Zh,Zi,Zj,Zk,Zl,Zm,Zn,Zo,Zp,Zq,Zr,Zs,Zt,Zu,Zv,Zw,Zx,Zy,Zz,YA,YB,YC,YD,YE,YF,YG,YH,YI,YJ,YK,YL,YM,YN,YO,YP,YQ,YR,YS,Env.set,cond_true,cond_false,String.reduceBEq,YT,YU,YV,YW,YX,YY,YZ,Ya,Yb,Yc,Yd,Ye,Yf,Yg] | simp only [Yh,Yi,true_and,Yj,Yk,Yl,Ym,Yn,Yo,Yp,Yq,Yr,Yt,Yu,Yv,Yw,Yx,Yy,Yz,XA,XB,XD,XE,XF,XG,beq_self_eq_true,reduceIte,reduceCtorEq,↓reduceIte,XH,XI,XJ, at1]))
  refine s_first_calm (n := n) hP9 hP hP0 hP1 hP4 hP5 hP6 hP7 hG hP3 hP8 hW3 ok fun H4 mv hp4 hmv hge => ?_
  have hx4 := pre_get hp4 hx3
  have hd4 := pre_get hp4 hd3
  have s2 : setAttrV (.ref x) "mates" mv H4 = some (H4.set d (.fdict [("wishes", .ref iw), ("mates", mv)])) := by unfold setAttrV; simp only [hx4, hd4]; rfl
  (repeat (first | dsimp only [XK, XL] | dsimp only [ZA,ZB,ZC,ZD,ZE,ZF,ZG,ZH,ZI,ZJ,ZK,ZL,ZM,ZN,ZO,ZP,ZQ,ZR,ZS,ZT,ZU,ZV,ZW,ZX,ZY,ZZ,Za,Zb,Zc,Zd,Ze,Zf,Zg,Zh,Zi,Zj,Zk,Zl,Zm,Zn,Zo,Zp,Zq,Zr,Zs,Zt,Zu,Zv,Zw,Zx,Zy,Zz,YA,YB,YC,YD,YE,YF,YG,YH,YI,YJ,YK,YL,YM,YN,YO,YP,YQ,YR,YS,Env.set,cond_true,cond_false,String.reduceBEq,YT,YU,YV,YW,YX,YY,YZ,Ya,Yb,Yc,Yd,Ye,Yf,Yg] | simp only [Yh,Yi,true_and,Yj,Yk,Yl,Ym,Yn,Yo,Yp,Yq,Yr,Yt,Yu,Yv,Yw,Yx,Yy,Yz,XA,XB,XD,XE,XF,XG,beq_self_eq_true,reduceIte,reduceCtorEq,↓reduceIte,XH,XI,XJ, s2]))
  refine hn _ _ ?_
  (repeat (first | dsimp only [XK, XL] | dsimp only [ZA,ZB,ZC,ZD,ZE,ZF,ZG,ZH,ZI,ZJ,ZK,ZL,ZM,ZN,ZO,ZP,ZQ,ZR,ZS,ZT,ZU,ZV,ZW,ZX,ZY,ZZ,Za,Zb,Zc,Zd,Ze,Zf,Zg,Zh,Zi,Zj,Zk,Zl,Zm,Zn,Zo,Zp,Zq,Zr,Zs,Zt,Zu,Zv,Zw,Zx,Zy,Zz,YA,YB,YC,YD,YE,YF,YG,YH,YI,YJ,YK,YL,YM,YN,YO,YP,YQ,YR,YS,Env.set,cond_true,cond_false,String.reduceBEq,YT,YU,YV,YW,YX,YY,YZ,Ya,Yb,Yc,Yd,Ye,Yf,Yg] | simp only [Yh,Yi,true_and,Yj,Yk,Yl,Ym,Yn,Yo,Yp,Yq,Yr,Yt,Yu,Yv,Yw,Yx,Yy,Yz,XA,XB,XD,XE,XF,XG,beq_self_eq_true,reduceIte,reduceCtorEq,↓reduceIte,XH,XI,XJ]))
  have nv4 : ∀ s ∈ [d], NotV H4 s := fun s hs => by cases List.mem_singleton.mp hs; exact NotV.of hd4 (fun _ q => by cases q)
  have k5 : Kp [d] H4 (H4.set d (.fdict [("wishes", .ref iw), ("mates", mv)])) := Kp.set (.head _) _
  have l1 := hp1.length_le
  have l2 := hp2.length_le
  exact h _ iw mv (((Kp.pre (hp1.trans hp2)).trans k3).trans ((Kp.pre hp4).trans k5)) ⟨k5 x _ (fun q => hxd (List.mem_singleton.mp q)) hx4, get_set_eq hd4 _⟩ (by omega) ((hW3f.pre hp4).kp k5 nv4 (fun q => hiwd (List.mem_singleton.mp q))) (hmv.kp k5 nv4) (fun a q => by have := hge a q; omega)
end
end Mine

namespace Mine
open PySem

theorem pre_of {H H' : Hp} (h : ∀ (c : Nat) (o : O), H[c]? = some o → H'[c]? = some o) : H <+: H' := by
  rw [List.prefix_iff_getElem?]
  intro i hi
  rw [h i _ (List.getElem?_eq_getElem hi)]

section
variable {P : Prog} {b : Bool} {n : Nat} {H : Hp} {Q : Post} {X : XP}
theorem w_newInn {C : Ctx} {e : E} {ρ : Env} {N : Nat} (hC : C.call = callN P b (N + 12)) (hPi : P.fn "Inn.__init__" = some f_Inn___init__) (hP9 : P.fn "first_calm" = some f_first_calm) (hP : P.fn "all_calm" = some f_all_calm) (hP0 : P.fn "all_twos" = some f_all_twos) (hP1 : P.fn "need_wishes" = some f_need_wishes) (hP4 : P.fn "is_row" = some f_is_row) (hP5 : P.fn "is_guest" = some f_is_guest) (hP6 : P.fn "both_wish" = some f_both_wish) (hP7 : P.fn "settled" = some f_settled) (hG : P.glob "MOST_GUESTS" = some (.int 6))
    (hP3 : P.fn "found_restless" = some f_found_restless) (hP8 : P.fn "sooner" = some f_sooner) {w : Nat} {W : List (List Int)} {H1 : Hp} (hs : ∀ (Q : Post), Q (.ref w) H1 → wE C e ρ H Q X) (hw : WH H1 w W) (ok : WOk W)
    (h : ∀ H' x d iw mv, H1 <+: H' → H1.length ≤ x → H1.length ≤ d → H1.length ≤ iw → iw ≠ d → INN H' x d iw mv → WHf H1.length H' iw W → MV H' mv (firstC W) → (∀ a, mv = .ref a → H1.length ≤ a) → Q (.ref x) H') : wE C (.new "Inn" [e]) ρ H Q X := by
  rw [e_new, es_cons]
  refine hs _ ?_
  rw [es_nil, hC, show (("Inn" ++ "." ++ "__init__" : String)) = "Inn.__init__" from by decide]
  have p1 : H1 <+: H1 ++ [O.fdict [], O.inst "Inn" H1.length] := List.prefix_append _ _
  have hl : (H1 ++ [O.fdict [], O.inst "Inn" H1.length]).length = H1.length + 2 := by simp
  refine s_init hPi hP9 hP hP0 hP1 hP4 hP5 hP6 hP7 hG hP3 hP8 (get2b _ _ _) (get2a _ _ _) (hw.pre p1) ok fun H' iw mv hk hI hiw hW hm hf => ⟨rfl, ?_⟩
  refine h H' _ _ iw mv (pre_of fun c o q => hk c o (fun r => ?_) (pre_get p1 q)) (by omega) (Nat.le_refl _) (by omega) (by omega) hI (hW.le (by omega)) hm (fun a q => by have := hf a q; omega)
  cases List.mem_singleton.mp r
  have := (List.getElem?_eq_some_iff.mp q).1
  omega
end
end Mine

namespace Mine
open PySem

noncomputable def NG (t : V) (m : Nat) (H : Hp) : Prop := (∀ H', H <+: H' → NonG t H') ∨ ∃ i : Int, t = .int i ∧ ¬ (0 ≤ i ∧ i < (m : Int))
theorem NG.pre {t : V} {m : Nat} {H H' : Hp} (h : NG t m H) (hp : H <+: H') : NG t m H' := h.imp (fun q H'' hp' => q H'' (hp.trans hp')) id
theorem NG.int {i : Int} {m : Nat} {H : Hp} (h : ¬ (0 ≤ i ∧ i < (m : Int))) : NG (.int i) m H := .inr ⟨i, rfl, h⟩
theorem NG.bool {x : Bool} {m : Nat} {H : Hp} : NG (.bool x) m H := .inl fun _ _ => .inr ⟨x, rfl⟩
theorem NG.str {x : Str} {m : Nat} {H : Hp} : NG (.str x) m H := .inl fun _ _ => .inl (by simp [isInst, isObj, typesOf])
theorem NG.none {m : Nat} {H : Hp} : NG .none m H := .inl fun _ _ => .inl (by simp [isInst, isObj, typesOf])
theorem NG.list {m a : Nat} {H : Hp} {xs : List V} (h : H[a]? = some (.list xs)) : NG (.ref a) m H := .inl fun H' hp => .inl (by simp [isInst, isObj, typesOf, pre_get hp h])
section
variable {P : Prog} {b : Bool} {n : Nat} {H : Hp} {Q : Post} {X : XP}

theorem s_guest_ng (hP : P.fn "is_guest" = some f_is_guest) {t : V} {m : Nat} (ht : NG t m H) (h : Q (.bool false) H) : callN P b (n + 1) "is_guest" [t, .int (m : Int)] H Q X := by
  rcases ht with ht | ⟨i, rfl, hi⟩
  · exact s_guest_no hP (ht H (List.prefix_refl _)) h
  · refine s_is_guest hP ?_
    rw [decide_eq_false hi]; exact h

theorem s_need_guest_bad (hP : P.fn "need_guest" = some f_need_guest) (hP2 : P.fn "is_guest" = some f_is_guest) {w : Nat} {W : List (List Int)} (hw : WH H w W) {t : V} (ht : NG t W.length H) (h : X "BadGuest" H) : callN P b (n + 2) "need_guest" [.ref w, t] H Q X := by
  (refine callN_in hP rfl ?_; unfold f_need_guest)
  (repeat (first | dsimp only [XK, XL] | dsimp only [ZA,ZB,ZC,ZD,ZE,ZF,ZG,ZH,ZI,ZJ,ZK,ZL,ZM,ZN,ZO,ZP,ZQ,ZR,ZS,ZT,ZU,ZV,ZW,ZX,ZY,ZZ,Za,Zb,Zc,Zd,Ze,Zf,Zg,Zh,Zi,Zj,Zk,Zl,Zm,Zn,Zo,Zp,Zq,Zr,Zs,Zt,Zu,Zv,Zw,Zx,Zy,Zz,YA,YB,YC,YD,YE,YF,YG,YH,YI,YJ,YK,YL,YM,YN,YO,YP,YQ,YR,YS,Env.set,cond_true,cond_false,String.reduceBEq,YT,YU,YV,YW,YX,YY,YZ,Ya,Yb,Yc,Yd,Ye,Yf,Yg] | simp only [Yh,Yi,true_and,Yj,Yk,Yl,Ym,Yn,Yo,Yp,Yq,Yr,Yt,Yu,Yv,Yw,Yx,Yy,Yz,XA,XB,XD,XE,XF,XG,beq_self_eq_true,reduceIte,reduceCtorEq,↓reduceIte,XH,XI,XJ, hw.len]))
  refine s_guest_ng hP2 ht ?_
  (repeat (first | dsimp only [XK, XL] | dsimp only [ZA,ZB,ZC,ZD,ZE,ZF,ZG,ZH,ZI,ZJ,ZK,ZL,ZM,ZN,ZO,ZP,ZQ,ZR,ZS,ZT,ZU,ZV,ZW,ZX,ZY,ZZ,Za,Zb,Zc,Zd,Ze,Zf,Zg,Zh,Zi,Zj,Zk,Zl,Zm,Zn,Zo,Zp,Zq,Zr,Zs,Zt,Zu,Zv,Zw,Zx,Zy,Zz,YA,YB,YC,YD,YE,YF,YG,YH,YI,YJ,YK,YL,YM,YN,YO,YP,YQ,YR,YS,Env.set,cond_true,cond_false,String.reduceBEq,YT,YU,YV,YW,YX,YY,YZ,Ya,Yb,Yc,Yd,Ye,Yf,Yg] | simp only [Yh,Yi,true_and,Yj,Yk,Yl,Ym,Yn,Yo,Yp,Yq,Yr,Yt,Yu,Yv,Yw,Yx,Yy,Yz,XA,XB,XD,XE,XF,XG,beq_self_eq_true,reduceIte,reduceCtorEq,↓reduceIte,XH,XI,XJ]))
  exact h

theorem s_mates_other (hP : P.fn "need_mates" = some f_need_mates) {w : V} {t : V} (ht : isInst t ["list"] H = some false) (h : X "BadMates" H) : callN P b (n + 2) "need_mates" [w, t] H Q X := by
  (refine callN_in hP rfl ?_; unfold f_need_mates)
  exact if_raise (fun Q hq => by (repeat (first | dsimp only [XK, XL] | dsimp only [ZA,ZB,ZC,ZD,ZE,ZF,ZG,ZH,ZI,ZJ,ZK,ZL,ZM,ZN,ZO,ZP,ZQ,ZR,ZS,ZT,ZU,ZV,ZW,ZX,ZY,ZZ,Za,Zb,Zc,Zd,Ze,Zf,Zg,Zh,Zi,Zj,Zk,Zl,Zm,Zn,Zo,Zp,Zq,Zr,Zs,Zt,Zu,Zv,Zw,Zx,Zy,Zz,YA,YB,YC,YD,YE,YF,YG,YH,YI,YJ,YK,YL,YM,YN,YO,YP,YQ,YR,YS,Env.set,cond_true,cond_false,String.reduceBEq,YT,YU,YV,YW,YX,YY,YZ,Ya,Yb,Yc,Yd,Ye,Yf,Yg] | simp only [Yh,Yi,true_and,Yj,Yk,Yl,Ym,Yn,Yo,Yp,Yq,Yr,Yt,Yu,Yv,Yw,Yx,Yy,Yz,XA,XB,XD,XE,XF,XG,beq_self_eq_true,reduceIte,reduceCtorEq,↓reduceIte,XH,XI,XJ, ht])); exact hq) h

theorem s_mates_len (hP : P.fn "need_mates" = some f_need_mates) {w a : Nat} {W : List (List Int)} (hw : WH H w W) {xs : List V} (ha : H[a]? = some (.list xs)) (hl : xs.length ≠ W.length) (h : X "BadMates" H) : callN P b (n + 2) "need_mates" [.ref w, .ref a] H Q X := by
  have hil : isInst (.ref a) ["list"] H = some true := by simp [isInst, isObj, typesOf, ha]
  have hlen : lenV (.ref a) H = some (xs.length : Int) := by unfold lenV; simp [seqOf_list ha]
  have eb : ((xs.length : Int) == (W.length : Int)) = false := by simpa using fun e => hl (by omega)
  (refine callN_in hP rfl ?_; unfold f_need_mates)
  exact if_raise (fun Q hq => by (repeat (first | dsimp only [XK, XL] | dsimp only [ZA,ZB,ZC,ZD,ZE,ZF,ZG,ZH,ZI,ZJ,ZK,ZL,ZM,ZN,ZO,ZP,ZQ,ZR,ZS,ZT,ZU,ZV,ZW,ZX,ZY,ZZ,Za,Zb,Zc,Zd,Ze,Zf,Zg,Zh,Zi,Zj,Zk,Zl,Zm,Zn,Zo,Zp,Zq,Zr,Zs,Zt,Zu,Zv,Zw,Zx,Zy,Zz,YA,YB,YC,YD,YE,YF,YG,YH,YI,YJ,YK,YL,YM,YN,YO,YP,YQ,YR,YS,Env.set,cond_true,cond_false,String.reduceBEq,YT,YU,YV,YW,YX,YY,YZ,Ya,Yb,Yc,Yd,Ye,Yf,Yg] | simp only [Yh,Yi,true_and,Yj,Yk,Yl,Ym,Yn,Yo,Yp,Yq,Yr,Yt,Yu,Yv,Yw,Yx,Yy,Yz,XA,XB,XD,XE,XF,XG,beq_self_eq_true,reduceIte,reduceCtorEq,↓reduceIte,XH,XI,XJ, hil, hlen, hw.len, eb])); exact hq) h

theorem s_mates_thing (hP : P.fn "need_mates" = some f_need_mates) (hP1 : P.fn "is_guest" = some f_is_guest) {w a : Nat} {W : List (List Int)} (hw : WH H w W) {xs : List V} (ha : H[a]? = some (.list xs)) (hl : xs.length = W.length) {i₀ : Nat} {t : V} (h0 : ∀ i, i < i₀ → xs[i]? = some .none)
    (ht : xs[i₀]? = some t) (hn : t ≠ .none) (hg : NG t W.length H) (h : X "BadMates" H) : callN P b (n + 2) "need_mates" [.ref w, .ref a] H Q X := by
  have hil : isInst (.ref a) ["list"] H = some true := by simp [isInst, isObj, typesOf, ha]
  have hlen : lenV (.ref a) H = some (xs.length : Int) := by unfold lenV; simp [seqOf_list ha]
  have eb : ((xs.length : Int) == (W.length : Int)) = true := by rw [hl]; simp
  have hi₀ := (List.getElem?_eq_some_iff.mp ht).1
  (refine callN_in hP rfl ?_; unfold f_need_mates)
  refine if_go (fun Q hq => by (repeat (first | dsimp only [XK, XL] | dsimp only [ZA,ZB,ZC,ZD,ZE,ZF,ZG,ZH,ZI,ZJ,ZK,ZL,ZM,ZN,ZO,ZP,ZQ,ZR,ZS,ZT,ZU,ZV,ZW,ZX,ZY,ZZ,Za,Zb,Zc,Zd,Ze,Zf,Zg,Zh,Zi,Zj,Zk,Zl,Zm,Zn,Zo,Zp,Zq,Zr,Zs,Zt,Zu,Zv,Zw,Zx,Zy,Zz,YA,YB,YC,YD,YE,YF,YG,YH,YI,YJ,YK,YL,YM,YN,YO,YP,YQ,YR,YS,Env.set,cond_true,cond_false,String.reduceBEq,YT,YU,YV,YW,YX,YY,YZ,Ya,Yb,Yc,Yd,Ye,Yf,Yg] | simp only [Yh,Yi,true_and,Yj,Yk,Yl,Ym,Yn,Yo,Yp,Yq,Yr,Yt,Yu,Yv,Yw,Yx,Yy,Yz,XA,XB,XD,XE,XF,XG,beq_self_eq_true,reduceIte,reduceCtorEq,↓reduceIte,XH,XI,XJ, hil, hlen, hw.len, eb])); exact hq) ?_
  refine wSs_step fun K hn' hr' => ?_
  (repeat (first | dsimp only [XK, XL] | dsimp only [ZA,ZB,ZC,ZD,ZE,ZF,ZG,ZH,ZI,ZJ,ZK,ZL,ZM,ZN,ZO,ZP,ZQ,ZR,ZS,ZT,ZU,ZV,ZW,ZX,ZY,ZZ,Za,Zb,Zc,Zd,Ze,Zf,Zg,Zh,Zi,Zj,Zk,Zl,Zm,Zn,Zo,Zp,Zq,Zr,Zs,Zt,Zu,Zv,Zw,Zx,Zy,Zz,YA,YB,YC,YD,YE,YF,YG,YH,YI,YJ,YK,YL,YM,YN,YO,YP,YQ,YR,YS,Env.set,cond_true,cond_false,String.reduceBEq,YT,YU,YV,YW,YX,YY,YZ,Ya,Yb,Yc,Yd,Ye,Yf,Yg] | simp only [Yh,Yi,true_and,Yj,Yk,Yl,Ym,Yn,Yo,Yp,Yq,Yr,Yt,Yu,Yv,Yw,Yx,Yy,Yz,XA,XB,XD,XE,XF,XG,beq_self_eq_true,reduceIte,reduceCtorEq,↓reduceIte,XH,XI,XJ, seqOf_list ha]))
  clear hn' hr'
  refine wFor_idx (fun i ρ H' => i ≤ i₀ ∧ H' = H ∧ ρ "wishes" = some (.ref w)) ⟨by omega, rfl, rfl⟩ (fun i v ρ H' hv hI => ⟨by rw [hI.2.1], fun k' h1 h2 => ?_⟩) fun ρ H' hI => ⟨by rw [hI.2.1], ?_⟩
  · obtain ⟨hi, rfl, e1⟩ := hI
    by_cases hii : i < i₀
    · rw [h0 i hii] at hv
      cases hv
      (repeat (first | dsimp only [XK, XL] | dsimp only [ZA,ZB,ZC,ZD,ZE,ZF,ZG,ZH,ZI,ZJ,ZK,ZL,ZM,ZN,ZO,ZP,ZQ,ZR,ZS,ZT,ZU,ZV,ZW,ZX,ZY,ZZ,Za,Zb,Zc,Zd,Ze,Zf,Zg,Zh,Zi,Zj,Zk,Zl,Zm,Zn,Zo,Zp,Zq,Zr,Zs,Zt,Zu,Zv,Zw,Zx,Zy,Zz,YA,YB,YC,YD,YE,YF,YG,YH,YI,YJ,YK,YL,YM,YN,YO,YP,YQ,YR,YS,Env.set,cond_true,cond_false,String.reduceBEq,YT,YU,YV,YW,YX,YY,YZ,Ya,Yb,Yc,Yd,Ye,Yf,Yg] | simp only [Yh,Yi,true_and,Yj,Yk,Yl,Ym,Yn,Yo,Yp,Yq,Yr,Yt,Yu,Yv,Yw,Yx,Yy,Yz,XA,XB,XD,XE,XF,XG,beq_self_eq_true,reduceIte,reduceCtorEq,↓reduceIte,XH,XI,XJ]))
      exact h1 _ _ ⟨by omega, rfl, by (repeat (first | dsimp only [XK, XL] | dsimp only [ZA,ZB,ZC,ZD,ZE,ZF,ZG,ZH,ZI,ZJ,ZK,ZL,ZM,ZN,ZO,ZP,ZQ,ZR,ZS,ZT,ZU,ZV,ZW,ZX,ZY,ZZ,Za,Zb,Zc,Zd,Ze,Zf,Zg,Zh,Zi,Zj,Zk,Zl,Zm,Zn,Zo,Zp,Zq,Zr,Zs,Zt,Zu,Zv,Zw,Zx,Zy,Zz,YA,YB,YC,YD,YE,YF,YG,YH,YI,YJ,YK,YL,YM,YN,YO,YP,YQ,YR,YS,Env.set,cond_true,cond_false,String.reduceBEq,YT,YU,YV,YW,YX,YY,YZ,Ya,Yb,Yc,Yd,Ye,Yf,Yg] | simp only [Yh,Yi,true_and,Yj,Yk,Yl,Ym,Yn,Yo,Yp,Yq,Yr,Yt,Yu,Yv,Yw,Yx,Yy,Yz,XA,XB,XD,XE,XF,XG,beq_self_eq_true,reduceIte,reduceCtorEq,↓reduceIte,XH,XI,XJ, e1]))⟩
    · obtain rfl : i = i₀ := by omega
      cases hv.symm.trans ht
      have ns : isSame t .none = some false := by simp [isSame, hn]
      (repeat (first | dsimp only [XK, XL] | dsimp only [ZA,ZB,ZC,ZD,ZE,ZF,ZG,ZH,ZI,ZJ,ZK,ZL,ZM,ZN,ZO,ZP,ZQ,ZR,ZS,ZT,ZU,ZV,ZW,ZX,ZY,ZZ,Za,Zb,Zc,Zd,Ze,Zf,Zg,Zh,Zi,Zj,Zk,Zl,Zm,Zn,Zo,Zp,Zq,Zr,Zs,Zt,Zu,Zv,Zw,Zx,Zy,Zz,YA,YB,YC,YD,YE,YF,YG,YH,YI,YJ,YK,YL,YM,YN,YO,YP,YQ,YR,YS,Env.set,cond_true,cond_false,String.reduceBEq,YT,YU,YV,YW,YX,YY,YZ,Ya,Yb,Yc,Yd,Ye,Yf,Yg] | simp only [Yh,Yi,true_and,Yj,Yk,Yl,Ym,Yn,Yo,Yp,Yq,Yr,Yt,Yu,Yv,Yw,Yx,Yy,Yz,XA,XB,XD,XE,XF,XG,beq_self_eq_true,reduceIte,reduceCtorEq,↓reduceIte,XH,XI,XJ, ns, e1, hw.len]))
      refine s_guest_ng hP1 hg ?_
      (repeat (first | dsimp only [XK, XL] | dsimp only [ZA,ZB,ZC,ZD,ZE,ZF,ZG,ZH,ZI,ZJ,ZK,ZL,ZM,ZN,ZO,ZP,ZQ,ZR,ZS,ZT,ZU,ZV,ZW,ZX,ZY,ZZ,Za,Zb,Zc,Zd,Ze,Zf,Zg,Zh,Zi,Zj,Zk,Zl,Zm,Zn,Zo,Zp,Zq,Zr,Zs,Zt,Zu,Zv,Zw,Zx,Zy,Zz,YA,YB,YC,YD,YE,YF,YG,YH,YI,YJ,YK,YL,YM,YN,YO,YP,YQ,YR,YS,Env.set,cond_true,cond_false,String.reduceBEq,YT,YU,YV,YW,YX,YY,YZ,Ya,Yb,Yc,Yd,Ye,Yf,Yg] | simp only [Yh,Yi,true_and,Yj,Yk,Yl,Ym,Yn,Yo,Yp,Yq,Yr,Yt,Yu,Yv,Yw,Yx,Yy,Yz,XA,XB,XD,XE,XF,XG,beq_self_eq_true,reduceIte,reduceCtorEq,↓reduceIte,XH,XI,XJ]))
      exact h
  · have := hI.1
    omega

theorem s_mates_two (hP : P.fn "need_mates" = some f_need_mates) (hP1 : P.fn "is_guest" = some f_is_guest) (hP2 : P.fn "both_wish" = some f_both_wish) {w a : Nat} {W : List (List Int)} {M : List (Option Nat)} (hw : WH H w W) (ok : WOk W) (hm : MT H a M) (mlen : M.length = W.length)
    (hlt : ∀ i j, M.getD i none = some j → j < W.length) {i₀ j₀ : Nat} (hi₀ : i₀ < W.length) (h0 : M.getD i₀ none = some j₀) (hbad : M.getD j₀ none ≠ some i₀ ∨ both W i₀ j₀ = false) (h : X "BadMates" H) : callN P b (n + 2) "need_mates" [.ref w, .ref a] H Q X := by
  have hl : W.length ≤ lim := Nat.le_trans ok.le (by decide)
  have hlm : M.length ≤ lim := by omega
  have eb : ((M.length : Int) == (W.length : Int)) = true := by rw [mlen]; simp
  (refine callN_in hP rfl ?_; unfold f_need_mates)
  refine if_go (fun Q hq => by (repeat (first | dsimp only [XK, XL] | dsimp only [ZA,ZB,ZC,ZD,ZE,ZF,ZG,ZH,ZI,ZJ,ZK,ZL,ZM,ZN,ZO,ZP,ZQ,ZR,ZS,ZT,ZU,ZV,ZW,ZX,ZY,ZZ,Za,Zb,Zc,Zd,Ze,Zf,Zg,Zh,Zi,Zj,Zk,Zl,Zm,Zn,Zo,Zp,Zq,Zr,Zs,Zt,Zu,Zv,Zw,Zx,Zy,Zz,YA,YB,YC,YD,YE,YF,YG,YH,YI,YJ,YK,YL,YM,YN,YO,YP,YQ,YR,YS,Env.set,cond_true,cond_false,String.reduceBEq,YT,YU,YV,YW,YX,YY,YZ,Ya,Yb,Yc,Yd,Ye,Yf,Yg] | simp only [Yh,Yi,true_and,Yj,Yk,Yl,Ym,Yn,Yo,Yp,Yq,Yr,Yt,Yu,Yv,Yw,Yx,Yy,Yz,XA,XB,XD,XE,XF,XG,beq_self_eq_true,reduceIte,reduceCtorEq,↓reduceIte,XH,XI,XJ, hm.isList, hm.len, hw.len, eb])); exact hq) ?_
  refine wSs_step fun K hn' hr' => ?_
  (repeat (first | dsimp only [XK, XL] | dsimp only [ZA,ZB,ZC,ZD,ZE,ZF,ZG,ZH,ZI,ZJ,ZK,ZL,ZM,ZN,ZO,ZP,ZQ,ZR,ZS,ZT,ZU,ZV,ZW,ZX,ZY,ZZ,Za,Zb,Zc,Zd,Ze,Zf,Zg,Zh,Zi,Zj,Zk,Zl,Zm,Zn,Zo,Zp,Zq,Zr,Zs,Zt,Zu,Zv,Zw,Zx,Zy,Zz,YA,YB,YC,YD,YE,YF,YG,YH,YI,YJ,YK,YL,YM,YN,YO,YP,YQ,YR,YS,Env.set,cond_true,cond_false,String.reduceBEq,YT,YU,YV,YW,YX,YY,YZ,Ya,Yb,Yc,Yd,Ye,Yf,Yg] | simp only [Yh,Yi,true_and,Yj,Yk,Yl,Ym,Yn,Yo,Yp,Yq,Yr,Yt,Yu,Yv,Yw,Yx,Yy,Yz,XA,XB,XD,XE,XF,XG,beq_self_eq_true,reduceIte,reduceCtorEq,↓reduceIte,XH,XI,XJ, seqOf_list hm]))
  refine wFor_idx (fun i ρ H' => H' = H ∧ ρ "wishes" = some (.ref w) ∧ ρ "mates" = some (.ref a)) ⟨rfl, rfl, rfl⟩ (fun i v ρ H' hv hI => ⟨by rw [hI.1], fun k' h1 h2 => ?_⟩) fun ρ H' hI => ⟨by rw [hI.1], ?_⟩
  · obtain ⟨rfl, e1, e2⟩ := hI
    rw [List.getElem?_map] at hv
    obtain ⟨x, hx, rfl⟩ := Option.map_eq_some_iff.mp hv
    cases x with
    | none =>
      (repeat (first | dsimp only [XK, XL] | dsimp only [ZA,ZB,ZC,ZD,ZE,ZF,ZG,ZH,ZI,ZJ,ZK,ZL,ZM,ZN,ZO,ZP,ZQ,ZR,ZS,ZT,ZU,ZV,ZW,ZX,ZY,ZZ,Za,Zb,Zc,Zd,Ze,Zf,Zg,Zh,Zi,Zj,Zk,Zl,Zm,Zn,Zo,Zp,Zq,Zr,Zs,Zt,Zu,Zv,Zw,Zx,Zy,Zz,YA,YB,YC,YD,YE,YF,YG,YH,YI,YJ,YK,YL,YM,YN,YO,YP,YQ,YR,YS,Env.set,cond_true,cond_false,String.reduceBEq,YT,YU,YV,YW,YX,YY,YZ,Ya,Yb,Yc,Yd,Ye,Yf,Yg] | simp only [Yh,Yi,true_and,Yj,Yk,Yl,Ym,Yn,Yo,Yp,Yq,Yr,Yt,Yu,Yv,Yw,Yx,Yy,Yz,XA,XB,XD,XE,XF,XG,beq_self_eq_true,reduceIte,reduceCtorEq,↓reduceIte,XH,XI,XJ, ov]))
      exact h1 _ _ ⟨rfl, by (repeat (first | dsimp only [XK, XL] | dsimp only [ZA,ZB,ZC,ZD,ZE,ZF,ZG,ZH,ZI,ZJ,ZK,ZL,ZM,ZN,ZO,ZP,ZQ,ZR,ZS,ZT,ZU,ZV,ZW,ZX,ZY,ZZ,Za,Zb,Zc,Zd,Ze,Zf,Zg,Zh,Zi,Zj,Zk,Zl,Zm,Zn,Zo,Zp,Zq,Zr,Zs,Zt,Zu,Zv,Zw,Zx,Zy,Zz,YA,YB,YC,YD,YE,YF,YG,YH,YI,YJ,YK,YL,YM,YN,YO,YP,YQ,YR,YS,Env.set,cond_true,cond_false,String.reduceBEq,YT,YU,YV,YW,YX,YY,YZ,Ya,Yb,Yc,Yd,Ye,Yf,Yg] | simp only [Yh,Yi,true_and,Yj,Yk,Yl,Ym,Yn,Yo,Yp,Yq,Yr,Yt,Yu,Yv,Yw,Yx,Yy,Yz,XA,XB,XD,XE,XF,XG,beq_self_eq_true,reduceIte,reduceCtorEq,↓reduceIte,XH,XI,XJ, e1])), by (repeat (first | dsimp only [XK, XL] | dsimp only [ZA,ZB,ZC,ZD,ZE,ZF,ZG,ZH,ZI,ZJ,ZK,ZL,ZM,ZN,ZO,ZP,ZQ,ZR,ZS,ZT,ZU,ZV,ZW,ZX,ZY,ZZ,Za,Zb,Zc,Zd,Ze,Zf,Zg,Zh,Zi,Zj,Zk,Zl,Zm,Zn,Zo,Zp,Zq,Zr,Zs,Zt,Zu,Zv,Zw,Zx,Zy,Zz,YA,YB,YC,YD,YE,YF,YG,YH,YI,YJ,YK,YL,YM,YN,YO,YP,YQ,YR,YS,Env.set,cond_true,cond_false,String.reduceBEq,YT,YU,YV,YW,YX,YY,YZ,Ya,Yb,Yc,Yd,Ye,Yf,Yg] | simp only [Yh,Yi,true_and,Yj,Yk,Yl,Ym,Yn,Yo,Yp,Yq,Yr,Yt,Yu,Yv,Yw,Yx,Yy,Yz,XA,XB,XD,XE,XF,XG,beq_self_eq_true,reduceIte,reduceCtorEq,↓reduceIte,XH,XI,XJ, e2]))⟩
    | some j =>
      have hj := hlt i j (by rw [List.getD_eq_getElem?_getD, hx]; rfl)
      (repeat (first | dsimp only [XK, XL] | dsimp only [ZA,ZB,ZC,ZD,ZE,ZF,ZG,ZH,ZI,ZJ,ZK,ZL,ZM,ZN,ZO,ZP,ZQ,ZR,ZS,ZT,ZU,ZV,ZW,ZX,ZY,ZZ,Za,Zb,Zc,Zd,Ze,Zf,Zg,Zh,Zi,Zj,Zk,Zl,Zm,Zn,Zo,Zp,Zq,Zr,Zs,Zt,Zu,Zv,Zw,Zx,Zy,Zz,YA,YB,YC,YD,YE,YF,YG,YH,YI,YJ,YK,YL,YM,YN,YO,YP,YQ,YR,YS,Env.set,cond_true,cond_false,String.reduceBEq,YT,YU,YV,YW,YX,YY,YZ,Ya,Yb,Yc,Yd,Ye,Yf,Yg] | simp only [Yh,Yi,true_and,Yj,Yk,Yl,Ym,Yn,Yo,Yp,Yq,Yr,Yt,Yu,Yv,Yw,Yx,Yy,Yz,XA,XB,XD,XE,XF,XG,beq_self_eq_true,reduceIte,reduceCtorEq,↓reduceIte,XH,XI,XJ, ov, e1, hw.len]))
      refine s_is_guest hP1 ?_
      have : decide ((0 : Int) ≤ (j : Int) ∧ (j : Int) < (W.length : Int)) = true := decide_eq_true (by omega)
      (repeat (first | dsimp only [XK, XL] | dsimp only [ZA,ZB,ZC,ZD,ZE,ZF,ZG,ZH,ZI,ZJ,ZK,ZL,ZM,ZN,ZO,ZP,ZQ,ZR,ZS,ZT,ZU,ZV,ZW,ZX,ZY,ZZ,Za,Zb,Zc,Zd,Ze,Zf,Zg,Zh,Zi,Zj,Zk,Zl,Zm,Zn,Zo,Zp,Zq,Zr,Zs,Zt,Zu,Zv,Zw,Zx,Zy,Zz,YA,YB,YC,YD,YE,YF,YG,YH,YI,YJ,YK,YL,YM,YN,YO,YP,YQ,YR,YS,Env.set,cond_true,cond_false,String.reduceBEq,YT,YU,YV,YW,YX,YY,YZ,Ya,Yb,Yc,Yd,Ye,Yf,Yg] | simp only [Yh,Yi,true_and,Yj,Yk,Yl,Ym,Yn,Yo,Yp,Yq,Yr,Yt,Yu,Yv,Yw,Yx,Yy,Yz,XA,XB,XD,XE,XF,XG,beq_self_eq_true,reduceIte,reduceCtorEq,↓reduceIte,XH,XI,XJ, this]))
      exact h1 _ _ ⟨rfl, by (repeat (first | dsimp only [XK, XL] | dsimp only [ZA,ZB,ZC,ZD,ZE,ZF,ZG,ZH,ZI,ZJ,ZK,ZL,ZM,ZN,ZO,ZP,ZQ,ZR,ZS,ZT,ZU,ZV,ZW,ZX,ZY,ZZ,Za,Zb,Zc,Zd,Ze,Zf,Zg,Zh,Zi,Zj,Zk,Zl,Zm,Zn,Zo,Zp,Zq,Zr,Zs,Zt,Zu,Zv,Zw,Zx,Zy,Zz,YA,YB,YC,YD,YE,YF,YG,YH,YI,YJ,YK,YL,YM,YN,YO,YP,YQ,YR,YS,Env.set,cond_true,cond_false,String.reduceBEq,YT,YU,YV,YW,YX,YY,YZ,Ya,Yb,Yc,Yd,Ye,Yf,Yg] | simp only [Yh,Yi,true_and,Yj,Yk,Yl,Ym,Yn,Yo,Yp,Yq,Yr,Yt,Yu,Yv,Yw,Yx,Yy,Yz,XA,XB,XD,XE,XF,XG,beq_self_eq_true,reduceIte,reduceCtorEq,↓reduceIte,XH,XI,XJ, e1])), by (repeat (first | dsimp only [XK, XL] | dsimp only [ZA,ZB,ZC,ZD,ZE,ZF,ZG,ZH,ZI,ZJ,ZK,ZL,ZM,ZN,ZO,ZP,ZQ,ZR,ZS,ZT,ZU,ZV,ZW,ZX,ZY,ZZ,Za,Zb,Zc,Zd,Ze,Zf,Zg,Zh,Zi,Zj,Zk,Zl,Zm,Zn,Zo,Zp,Zq,Zr,Zs,Zt,Zu,Zv,Zw,Zx,Zy,Zz,YA,YB,YC,YD,YE,YF,YG,YH,YI,YJ,YK,YL,YM,YN,YO,YP,YQ,YR,YS,Env.set,cond_true,cond_false,String.reduceBEq,YT,YU,YV,YW,YX,YY,YZ,Ya,Yb,Yc,Yd,Ye,Yf,Yg] | simp only [Yh,Yi,true_and,Yj,Yk,Yl,Ym,Yn,Yo,Yp,Yq,Yr,Yt,Yu,Yv,Yw,Yx,Yy,Yz,XA,XB,XD,XE,XF,XG,beq_self_eq_true,reduceIte,reduceCtorEq,↓reduceIte,XH,XI,XJ, e2]))⟩
  · obtain ⟨rfl, e1, e2⟩ := hI
    refine hn' _ _ ?_
    clear hn' hr' K
    (repeat (first | dsimp only [XK, XL] | dsimp only [ZA,ZB,ZC,ZD,ZE,ZF,ZG,ZH,ZI,ZJ,ZK,ZL,ZM,ZN,ZO,ZP,ZQ,ZR,ZS,ZT,ZU,ZV,ZW,ZX,ZY,ZZ,Za,Zb,Zc,Zd,Ze,Zf,Zg,Zh,Zi,Zj,Zk,Zl,Zm,Zn,Zo,Zp,Zq,Zr,Zs,Zt,Zu,Zv,Zw,Zx,Zy,Zz,YA,YB,YC,YD,YE,YF,YG,YH,YI,YJ,YK,YL,YM,YN,YO,YP,YQ,YR,YS,Env.set,cond_true,cond_false,String.reduceBEq,YT,YU,YV,YW,YX,YY,YZ,Ya,Yb,Yc,Yd,Ye,Yf,Yg] | simp only [Yh,Yi,true_and,Yj,Yk,Yl,Ym,Yn,Yo,Yp,Yq,Yr,Yt,Yu,Yv,Yw,Yx,Yy,Yz,XA,XB,XD,XE,XF,XG,beq_self_eq_true,reduceIte,reduceCtorEq,↓reduceIte,XH,XI,XJ, e2, hm.len, range_nat hlm]))
    refine wFor_idx (fun i ρ H'' => i ≤ i₀ ∧ H'' = H' ∧ ρ "wishes" = some (.ref w) ∧ ρ "mates" = some (.ref a)) ⟨by omega, rfl, e1, e2⟩ (fun i v ρ H'' hv hI => ⟨trivial, fun k' h1 h2 => ?_⟩) fun ρ H'' hI => ⟨trivial, ?_⟩
    · obtain ⟨hi, rfl⟩ := rng_get hv
      obtain ⟨hii, rfl, e1, e2⟩ := hI
      cases hx : M.getD i none with
      | none =>
        have : i ≠ i₀ := by rintro rfl; rw [h0] at hx; cases hx
        (repeat (first | dsimp only [XK, XL] | dsimp only [ZA,ZB,ZC,ZD,ZE,ZF,ZG,ZH,ZI,ZJ,ZK,ZL,ZM,ZN,ZO,ZP,ZQ,ZR,ZS,ZT,ZU,ZV,ZW,ZX,ZY,ZZ,Za,Zb,Zc,Zd,Ze,Zf,Zg,Zh,Zi,Zj,Zk,Zl,Zm,Zn,Zo,Zp,Zq,Zr,Zs,Zt,Zu,Zv,Zw,Zx,Zy,Zz,YA,YB,YC,YD,YE,YF,YG,YH,YI,YJ,YK,YL,YM,YN,YO,YP,YQ,YR,YS,Env.set,cond_true,cond_false,String.reduceBEq,YT,YU,YV,YW,YX,YY,YZ,Ya,Yb,Yc,Yd,Ye,Yf,Yg] | simp only [Yh,Yi,true_and,Yj,Yk,Yl,Ym,Yn,Yo,Yp,Yq,Yr,Yt,Yu,Yv,Yw,Yx,Yy,Yz,XA,XB,XD,XE,XF,XG,beq_self_eq_true,reduceIte,reduceCtorEq,↓reduceIte,XH,XI,XJ, e1, e2, hm.item hi, hx, ov]))
        exact h1 _ _ ⟨by omega, rfl, by (repeat (first | dsimp only [XK, XL] | dsimp only [ZA,ZB,ZC,ZD,ZE,ZF,ZG,ZH,ZI,ZJ,ZK,ZL,ZM,ZN,ZO,ZP,ZQ,ZR,ZS,ZT,ZU,ZV,ZW,ZX,ZY,ZZ,Za,Zb,Zc,Zd,Ze,Zf,Zg,Zh,Zi,Zj,Zk,Zl,Zm,Zn,Zo,Zp,Zq,Zr,Zs,Zt,Zu,Zv,Zw,Zx,Zy,Zz,YA,YB,YC,YD,YE,YF,YG,YH,YI,YJ,YK,YL,YM,YN,YO,YP,YQ,YR,YS,Env.set,cond_true,cond_false,String.reduceBEq,YT,YU,YV,YW,YX,YY,YZ,Ya,Yb,Yc,Yd,Ye,Yf,Yg] | simp only [Yh,Yi,true_and,Yj,Yk,Yl,Ym,Yn,Yo,Yp,Yq,Yr,Yt,Yu,Yv,Yw,Yx,Yy,Yz,XA,XB,XD,XE,XF,XG,beq_self_eq_true,reduceIte,reduceCtorEq,↓reduceIte,XH,XI,XJ, e1])), by (repeat (first | dsimp only [XK, XL] | dsimp only [ZA,ZB,ZC,ZD,ZE,ZF,ZG,ZH,ZI,ZJ,ZK,ZL,ZM,ZN,ZO,ZP,ZQ,ZR,ZS,ZT,ZU,ZV,ZW,ZX,ZY,ZZ,Za,Zb,Zc,Zd,Ze,Zf,Zg,Zh,Zi,Zj,Zk,Zl,Zm,Zn,Zo,Zp,Zq,Zr,Zs,Zt,Zu,Zv,Zw,Zx,Zy,Zz,YA,YB,YC,YD,YE,YF,YG,YH,YI,YJ,YK,YL,YM,YN,YO,YP,YQ,YR,YS,Env.set,cond_true,cond_false,String.reduceBEq,YT,YU,YV,YW,YX,YY,YZ,Ya,Yb,Yc,Yd,Ye,Yf,Yg] | simp only [Yh,Yi,true_and,Yj,Yk,Yl,Ym,Yn,Yo,Yp,Yq,Yr,Yt,Yu,Yv,Yw,Yx,Yy,Yz,XA,XB,XD,XE,XF,XG,beq_self_eq_true,reduceIte,reduceCtorEq,↓reduceIte,XH,XI,XJ, e2]))⟩
      | some j =>
        have hj := hlt i j hx
        have hjm : j < M.length := by omega
        by_cases hji : M.getD j none = some i
        · cases hb : both W i j with
          | true =>
            have : i ≠ i₀ := by
              rintro rfl
              rw [h0] at hx; cases hx
              rcases hbad with q | q
              · exact q hji
              · rw [hb] at q; cases q
            (repeat (first | dsimp only [XK, XL] | dsimp only [ZA,ZB,ZC,ZD,ZE,ZF,ZG,ZH,ZI,ZJ,ZK,ZL,ZM,ZN,ZO,ZP,ZQ,ZR,ZS,ZT,ZU,ZV,ZW,ZX,ZY,ZZ,Za,Zb,Zc,Zd,Ze,Zf,Zg,Zh,Zi,Zj,Zk,Zl,Zm,Zn,Zo,Zp,Zq,Zr,Zs,Zt,Zu,Zv,Zw,Zx,Zy,Zz,YA,YB,YC,YD,YE,YF,YG,YH,YI,YJ,YK,YL,YM,YN,YO,YP,YQ,YR,YS,Env.set,cond_true,cond_false,String.reduceBEq,YT,YU,YV,YW,YX,YY,YZ,Ya,Yb,Yc,Yd,Ye,Yf,Yg] | simp only [Yh,Yi,true_and,Yj,Yk,Yl,Ym,Yn,Yo,Yp,Yq,Yr,Yt,Yu,Yv,Yw,Yx,Yy,Yz,XA,XB,XD,XE,XF,XG,beq_self_eq_true,reduceIte,reduceCtorEq,↓reduceIte,XH,XI,XJ, e1, e2, hm.item hi, hx, ov, hm.item hjm, hji]))
            refine s_both_wish hP2 hw (by omega) hj ?_
            (repeat (first | dsimp only [XK, XL] | dsimp only [ZA,ZB,ZC,ZD,ZE,ZF,ZG,ZH,ZI,ZJ,ZK,ZL,ZM,ZN,ZO,ZP,ZQ,ZR,ZS,ZT,ZU,ZV,ZW,ZX,ZY,ZZ,Za,Zb,Zc,Zd,Ze,Zf,Zg,Zh,Zi,Zj,Zk,Zl,Zm,Zn,Zo,Zp,Zq,Zr,Zs,Zt,Zu,Zv,Zw,Zx,Zy,Zz,YA,YB,YC,YD,YE,YF,YG,YH,YI,YJ,YK,YL,YM,YN,YO,YP,YQ,YR,YS,Env.set,cond_true,cond_false,String.reduceBEq,YT,YU,YV,YW,YX,YY,YZ,Ya,Yb,Yc,Yd,Ye,Yf,Yg] | simp only [Yh,Yi,true_and,Yj,Yk,Yl,Ym,Yn,Yo,Yp,Yq,Yr,Yt,Yu,Yv,Yw,Yx,Yy,Yz,XA,XB,XD,XE,XF,XG,beq_self_eq_true,reduceIte,reduceCtorEq,↓reduceIte,XH,XI,XJ, hb]))
            exact h1 _ _ ⟨by omega, rfl, by (repeat (first | dsimp only [XK, XL] | dsimp only [ZA,ZB,ZC,ZD,ZE,ZF,ZG,ZH,ZI,ZJ,ZK,ZL,ZM,ZN,ZO,ZP,ZQ,ZR,ZS,ZT,ZU,ZV,ZW,ZX,ZY,ZZ,Za,Zb,Zc,Zd,Ze,Zf,Zg,Zh,Zi,Zj,Zk,Zl,Zm,Zn,Zo,Zp,Zq,Zr,Zs,Zt,Zu,Zv,Zw,Zx,Zy,Zz,YA,YB,YC,YD,YE,YF,YG,YH,YI,YJ,YK,YL,YM,YN,YO,YP,YQ,YR,YS,Env.set,cond_true,cond_false,String.reduceBEq,YT,YU,YV,YW,YX,YY,YZ,Ya,Yb,Yc,Yd,Ye,Yf,Yg] | simp only [Yh,Yi,true_and,Yj,Yk,Yl,Ym,Yn,Yo,Yp,Yq,Yr,Yt,Yu,Yv,Yw,Yx,Yy,Yz,XA,XB,XD,XE,XF,XG,beq_self_eq_true,reduceIte,reduceCtorEq,↓reduceIte,XH,XI,XJ, e1])), by (repeat (first | dsimp only [XK, XL] | dsimp only [ZA,ZB,ZC,ZD,ZE,ZF,ZG,ZH,ZI,ZJ,ZK,ZL,ZM,ZN,ZO,ZP,ZQ,ZR,ZS,ZT,ZU,ZV,ZW,ZX,ZY,ZZ,Za,Zb,Zc,Zd,Ze,Zf,Zg,Zh,Zi,Zj,Zk,Zl,Zm,Zn,Zo,Zp,Zq,Zr,Zs,Zt,Zu,Zv,Zw,Zx,Zy,Zz,YA,YB,YC,YD,YE,YF,YG,YH,YI,YJ,YK,YL,YM,YN,YO,YP,YQ,YR,YS,Env.set,cond_true,cond_false,String.reduceBEq,YT,YU,YV,YW,YX,YY,YZ,Ya,Yb,Yc,Yd,Ye,Yf,Yg] | simp only [Yh,Yi,true_and,Yj,Yk,Yl,Ym,Yn,Yo,Yp,Yq,Yr,Yt,Yu,Yv,Yw,Yx,Yy,Yz,XA,XB,XD,XE,XF,XG,beq_self_eq_true,reduceIte,reduceCtorEq,↓reduceIte,XH,XI,XJ, e2]))⟩
          | false =>
            (repeat (first | dsimp only [XK, XL] | dsimp only [ZA,ZB,ZC,ZD,ZE,ZF,ZG,ZH,ZI,ZJ,ZK,ZL,ZM,ZN,ZO,ZP,ZQ,ZR,ZS,ZT,ZU,ZV,ZW,ZX,ZY,ZZ,Za,Zb,Zc,Zd,Ze,Zf,Zg,Zh,Zi,Zj,Zk,Zl,Zm,Zn,Zo,Zp,Zq,Zr,Zs,Zt,Zu,Zv,Zw,Zx,Zy,Zz,YA,YB,YC,YD,YE,YF,YG,YH,YI,YJ,YK,YL,YM,YN,YO,YP,YQ,YR,YS,Env.set,cond_true,cond_false,String.reduceBEq,YT,YU,YV,YW,YX,YY,YZ,Ya,Yb,Yc,Yd,Ye,Yf,Yg] | simp only [Yh,Yi,true_and,Yj,Yk,Yl,Ym,Yn,Yo,Yp,Yq,Yr,Yt,Yu,Yv,Yw,Yx,Yy,Yz,XA,XB,XD,XE,XF,XG,beq_self_eq_true,reduceIte,reduceCtorEq,↓reduceIte,XH,XI,XJ, e1, e2, hm.item hi, hx, ov, hm.item hjm, hji]))
            refine s_both_wish hP2 hw (by omega) hj ?_
            (repeat (first | dsimp only [XK, XL] | dsimp only [ZA,ZB,ZC,ZD,ZE,ZF,ZG,ZH,ZI,ZJ,ZK,ZL,ZM,ZN,ZO,ZP,ZQ,ZR,ZS,ZT,ZU,ZV,ZW,ZX,ZY,ZZ,Za,Zb,Zc,Zd,Ze,Zf,Zg,Zh,Zi,Zj,Zk,Zl,Zm,Zn,Zo,Zp,Zq,Zr,Zs,Zt,Zu,Zv,Zw,Zx,Zy,Zz,YA,YB,YC,YD,YE,YF,YG,YH,YI,YJ,YK,YL,YM,YN,YO,YP,YQ,YR,YS,Env.set,cond_true,cond_false,String.reduceBEq,YT,YU,YV,YW,YX,YY,YZ,Ya,Yb,Yc,Yd,Ye,Yf,Yg] | simp only [Yh,Yi,true_and,Yj,Yk,Yl,Ym,Yn,Yo,Yp,Yq,Yr,Yt,Yu,Yv,Yw,Yx,Yy,Yz,XA,XB,XD,XE,XF,XG,beq_self_eq_true,reduceIte,reduceCtorEq,↓reduceIte,XH,XI,XJ, hb]))
            exact h
        · have ne : eqD H'' (ov (M.getD j none)) (.int (i : Int)) = some false := by
            cases hy : M.getD j none with
            | none => exact eqD_ni _ _
            | some k =>
              have : k ≠ i := by rintro rfl; exact hji hy
              rw [show ov (some k) = .int (k : Int) from rfl, eqD_ii]
              congr 1
              simpa using fun e => this (by omega)
          (repeat (first | dsimp only [XK, XL] | dsimp only [ZA,ZB,ZC,ZD,ZE,ZF,ZG,ZH,ZI,ZJ,ZK,ZL,ZM,ZN,ZO,ZP,ZQ,ZR,ZS,ZT,ZU,ZV,ZW,ZX,ZY,ZZ,Za,Zb,Zc,Zd,Ze,Zf,Zg,Zh,Zi,Zj,Zk,Zl,Zm,Zn,Zo,Zp,Zq,Zr,Zs,Zt,Zu,Zv,Zw,Zx,Zy,Zz,YA,YB,YC,YD,YE,YF,YG,YH,YI,YJ,YK,YL,YM,YN,YO,YP,YQ,YR,YS,Env.set,cond_true,cond_false,String.reduceBEq,YT,YU,YV,YW,YX,YY,YZ,Ya,Yb,Yc,Yd,Ye,Yf,Yg] | simp only [Yh,Yi,true_and,Yj,Yk,Yl,Ym,Yn,Yo,Yp,Yq,Yr,Yt,Yu,Yv,Yw,Yx,Yy,Yz,XA,XB,XD,XE,XF,XG,beq_self_eq_true,reduceIte,reduceCtorEq,↓reduceIte,XH,XI,XJ, e1, e2, hm.item hi, hx, show ov (some j) = .int (j : Int) from rfl, hm.item hjm, ne]))
          exact h
    · have := hI.1
      rw [rng_len] at this
      omega

theorem s_par_other (hP : P.fn "need_parties" = some f_need_parties) {t : V} (ht : isInst t ["list"] H = some false) (h : X "BadParties" H) : callN P b (n + 2) "need_parties" [t] H Q X := by
  (refine callN_in hP rfl ?_; unfold f_need_parties)
  exact if_raise (fun Q hq => by (repeat (first | dsimp only [XK, XL] | dsimp only [ZA,ZB,ZC,ZD,ZE,ZF,ZG,ZH,ZI,ZJ,ZK,ZL,ZM,ZN,ZO,ZP,ZQ,ZR,ZS,ZT,ZU,ZV,ZW,ZX,ZY,ZZ,Za,Zb,Zc,Zd,Ze,Zf,Zg,Zh,Zi,Zj,Zk,Zl,Zm,Zn,Zo,Zp,Zq,Zr,Zs,Zt,Zu,Zv,Zw,Zx,Zy,Zz,YA,YB,YC,YD,YE,YF,YG,YH,YI,YJ,YK,YL,YM,YN,YO,YP,YQ,YR,YS,Env.set,cond_true,cond_false,String.reduceBEq,YT,YU,YV,YW,YX,YY,YZ,Ya,Yb,Yc,Yd,Ye,Yf,Yg] | simp only [Yh,Yi,true_and,Yj,Yk,Yl,Ym,Yn,Yo,Yp,Yq,Yr,Yt,Yu,Yv,Yw,Yx,Yy,Yz,XA,XB,XD,XE,XF,XG,beq_self_eq_true,reduceIte,reduceCtorEq,↓reduceIte,XH,XI,XJ, ht])); exact hq) h

theorem s_par_len (hP : P.fn "need_parties" = some f_need_parties) (hG : P.glob "MOST_GUESTS" = some (.int 6)) {a : Nat} {xs : List V} (ha : H[a]? = some (.list xs)) (hl : xs.length = 0 ∨ 6 < xs.length) (h : X "BadParties" H) : callN P b (n + 2) "need_parties" [.ref a] H Q X := by
  have hil : isInst (.ref a) ["list"] H = some true := by simp [isInst, isObj, typesOf, ha]
  have hlen : lenV (.ref a) H = some (xs.length : Int) := by unfold lenV; simp [seqOf_list ha]
  (refine callN_in hP rfl ?_; unfold f_need_parties)
  rcases hl with hl | hl
  · have d1 : decide ((1 : Int) ≤ (xs.length : Int)) = false := decide_eq_false (by omega)
    exact if_raise (fun Q hq => by (repeat (first | dsimp only [XK, XL] | dsimp only [ZA,ZB,ZC,ZD,ZE,ZF,ZG,ZH,ZI,ZJ,ZK,ZL,ZM,ZN,ZO,ZP,ZQ,ZR,ZS,ZT,ZU,ZV,ZW,ZX,ZY,ZZ,Za,Zb,Zc,Zd,Ze,Zf,Zg,Zh,Zi,Zj,Zk,Zl,Zm,Zn,Zo,Zp,Zq,Zr,Zs,Zt,Zu,Zv,Zw,Zx,Zy,Zz,YA,YB,YC,YD,YE,YF,YG,YH,YI,YJ,YK,YL,YM,YN,YO,YP,YQ,YR,YS,Env.set,cond_true,cond_false,String.reduceBEq,YT,YU,YV,YW,YX,YY,YZ,Ya,Yb,Yc,Yd,Ye,Yf,Yg] | simp only [Yh,Yi,true_and,Yj,Yk,Yl,Ym,Yn,Yo,Yp,Yq,Yr,Yt,Yu,Yv,Yw,Yx,Yy,Yz,XA,XB,XD,XE,XF,XG,beq_self_eq_true,reduceIte,reduceCtorEq,↓reduceIte,XH,XI,XJ, hil, hlen, hG, d1])); exact hq) h
  · have d1 : decide ((1 : Int) ≤ (xs.length : Int)) = true := decide_eq_true (by omega)
    have d2 : decide ((xs.length : Int) ≤ 6) = false := decide_eq_false (by omega)
    exact if_raise (fun Q hq => by (repeat (first | dsimp only [XK, XL] | dsimp only [ZA,ZB,ZC,ZD,ZE,ZF,ZG,ZH,ZI,ZJ,ZK,ZL,ZM,ZN,ZO,ZP,ZQ,ZR,ZS,ZT,ZU,ZV,ZW,ZX,ZY,ZZ,Za,Zb,Zc,Zd,Ze,Zf,Zg,Zh,Zi,Zj,Zk,Zl,Zm,Zn,Zo,Zp,Zq,Zr,Zs,Zt,Zu,Zv,Zw,Zx,Zy,Zz,YA,YB,YC,YD,YE,YF,YG,YH,YI,YJ,YK,YL,YM,YN,YO,YP,YQ,YR,YS,Env.set,cond_true,cond_false,String.reduceBEq,YT,YU,YV,YW,YX,YY,YZ,Ya,Yb,Yc,Yd,Ye,Yf,Yg] | simp only [Yh,Yi,true_and,Yj,Yk,Yl,Ym,Yn,Yo,Yp,Yq,Yr,Yt,Yu,Yv,Yw,Yx,Yy,Yz,XA,XB,XD,XE,XF,XG,beq_self_eq_true,reduceIte,reduceCtorEq,↓reduceIte,XH,XI,XJ, hil, hlen, hG, d1, d2])); exact hq) h

theorem s_par_thing (hP : P.fn "need_parties" = some f_need_parties) (hP1 : P.fn "is_guest" = some f_is_guest) (hG : P.glob "MOST_GUESTS" = some (.int 6)) {a : Nat} {l : List Int} {t : V} {B : List V} (ha : H[a]? = some (.list (l.map .int ++ t :: B))) (hl : (l.map V.int ++ t :: B).length ≤ 6)
    (ht : NG t (l.map V.int ++ t :: B).length H) (h : ∀ H', H <+: H' → X "BadParties" H') : callN P b (n + 2) "need_parties" [.ref a] H Q X := by
  have hil : isInst (.ref a) ["list"] H = some true := by simp [isInst, isObj, typesOf, ha]
  have lenA : ∀ {H' : Hp}, H <+: H' → lenV (.ref a) H' = some ((l.map V.int ++ t :: B).length : Int) := fun hp => by unfold lenV; simp [seqOf_list (pre_get hp ha)]
  have hlt : l.length < (l.map V.int ++ t :: B).length := by simp
  generalize hN : (l.map V.int ++ t :: B).length = N at *
  have d1 : decide ((1 : Int) ≤ (N : Int)) = true := decide_eq_true (by omega)
  have d2 : decide ((N : Int) ≤ 6) = true := decide_eq_true (by omega)
  have hNl : N ≤ lim := by unfold lim; omega
  (refine callN_in hP rfl ?_; unfold f_need_parties)
  refine if_go (fun Q hq => by (repeat (first | dsimp only [XK, XL] | dsimp only [ZA,ZB,ZC,ZD,ZE,ZF,ZG,ZH,ZI,ZJ,ZK,ZL,ZM,ZN,ZO,ZP,ZQ,ZR,ZS,ZT,ZU,ZV,ZW,ZX,ZY,ZZ,Za,Zb,Zc,Zd,Ze,Zf,Zg,Zh,Zi,Zj,Zk,Zl,Zm,Zn,Zo,Zp,Zq,Zr,Zs,Zt,Zu,Zv,Zw,Zx,Zy,Zz,YA,YB,YC,YD,YE,YF,YG,YH,YI,YJ,YK,YL,YM,YN,YO,YP,YQ,YR,YS,Env.set,cond_true,cond_false,String.reduceBEq,YT,YU,YV,YW,YX,YY,YZ,Ya,Yb,Yc,Yd,Ye,Yf,Yg] | simp only [Yh,Yi,true_and,Yj,Yk,Yl,Ym,Yn,Yo,Yp,Yq,Yr,Yt,Yu,Yv,Yw,Yx,Yy,Yz,XA,XB,XD,XE,XF,XG,beq_self_eq_true,reduceIte,reduceCtorEq,↓reduceIte,XH,XI,XJ, hil, lenA (List.prefix_refl _), hG, d1, d2])); exact hq) ?_
  (repeat (first | dsimp only [XK, XL] | dsimp only [ZA,ZB,ZC,ZD,ZE,ZF,ZG,ZH,ZI,ZJ,ZK,ZL,ZM,ZN,ZO,ZP,ZQ,ZR,ZS,ZT,ZU,ZV,ZW,ZX,ZY,ZZ,Za,Zb,Zc,Zd,Ze,Zf,Zg,Zh,Zi,Zj,Zk,Zl,Zm,Zn,Zo,Zp,Zq,Zr,Zs,Zt,Zu,Zv,Zw,Zx,Zy,Zz,YA,YB,YC,YD,YE,YF,YG,YH,YI,YJ,YK,YL,YM,YN,YO,YP,YQ,YR,YS,Env.set,cond_true,cond_false,String.reduceBEq,YT,YU,YV,YW,YX,YY,YZ,Ya,Yb,Yc,Yd,Ye,Yf,Yg] | simp only [Yh,Yi,true_and,Yj,Yk,Yl,Ym,Yn,Yo,Yp,Yq,Yr,Yt,Yu,Yv,Yw,Yx,Yy,Yz,XA,XB,XD,XE,XF,XG,beq_self_eq_true,reduceIte,reduceCtorEq,↓reduceIte,XH,XI,XJ, lenA (List.prefix_refl _), range_nat hNl]))
  refine wFor_idx (fun i ρ H' => i ≤ l.length ∧ H <+: H' ∧ ρ "after" = some (.ref a)) ⟨by omega, List.prefix_refl _, rfl⟩ (fun i v ρ H' hv hI => ⟨trivial, fun k' h1 h2 => ?_⟩) fun ρ H' hI => ⟨trivial, ?_⟩
  · obtain ⟨hi, rfl⟩ := rng_get hv
    obtain ⟨hil, hp, e1⟩ := hI
    have ha' := pre_get hp ha
    by_cases hil' : i < l.length
    · obtain ⟨x, hx⟩ : ∃ x, l[i]? = some x := ⟨_, List.getElem?_eq_getElem hil'⟩
      have it : itemV (.ref a) (.int (i : Int)) H' = some (.int x) := item_seq (seqOf_list ha') (by rw [List.getElem?_append_left (by simpa using hil'), List.getElem?_map, hx]; rfl)
      have sl : sliceV (.ref a) none (some (i : Int)) H' = some (.ref H'.length, H' ++ [.list ((l.take i).map .int)]) := by
        rw [sl_ref ha', cut_to, List.take_append_of_le_length (by simp; omega), List.map_take]
      (repeat (first | dsimp only [XK, XL] | dsimp only [ZA,ZB,ZC,ZD,ZE,ZF,ZG,ZH,ZI,ZJ,ZK,ZL,ZM,ZN,ZO,ZP,ZQ,ZR,ZS,ZT,ZU,ZV,ZW,ZX,ZY,ZZ,Za,Zb,Zc,Zd,Ze,Zf,Zg,Zh,Zi,Zj,Zk,Zl,Zm,Zn,Zo,Zp,Zq,Zr,Zs,Zt,Zu,Zv,Zw,Zx,Zy,Zz,YA,YB,YC,YD,YE,YF,YG,YH,YI,YJ,YK,YL,YM,YN,YO,YP,YQ,YR,YS,Env.set,cond_true,cond_false,String.reduceBEq,YT,YU,YV,YW,YX,YY,YZ,Ya,Yb,Yc,Yd,Ye,Yf,Yg] | simp only [Yh,Yi,true_and,Yj,Yk,Yl,Ym,Yn,Yo,Yp,Yq,Yr,Yt,Yu,Yv,Yw,Yx,Yy,Yz,XA,XB,XD,XE,XF,XG,beq_self_eq_true,reduceIte,reduceCtorEq,↓reduceIte,XH,XI,XJ, e1, it, lenA hp]))
      refine s_is_guest hP1 ?_
      cases q1 : decide (0 ≤ x ∧ x < (N : Int)) with
      | false =>
        (repeat (first | dsimp only [XK, XL] | dsimp only [ZA,ZB,ZC,ZD,ZE,ZF,ZG,ZH,ZI,ZJ,ZK,ZL,ZM,ZN,ZO,ZP,ZQ,ZR,ZS,ZT,ZU,ZV,ZW,ZX,ZY,ZZ,Za,Zb,Zc,Zd,Ze,Zf,Zg,Zh,Zi,Zj,Zk,Zl,Zm,Zn,Zo,Zp,Zq,Zr,Zs,Zt,Zu,Zv,Zw,Zx,Zy,Zz,YA,YB,YC,YD,YE,YF,YG,YH,YI,YJ,YK,YL,YM,YN,YO,YP,YQ,YR,YS,Env.set,cond_true,cond_false,String.reduceBEq,YT,YU,YV,YW,YX,YY,YZ,Ya,Yb,Yc,Yd,Ye,Yf,Yg] | simp only [Yh,Yi,true_and,Yj,Yk,Yl,Ym,Yn,Yo,Yp,Yq,Yr,Yt,Yu,Yv,Yw,Yx,Yy,Yz,XA,XB,XD,XE,XF,XG,beq_self_eq_true,reduceIte,reduceCtorEq,↓reduceIte,XH,XI,XJ]))
        exact h H' hp
      | true =>
        cases q3 : decide (x ∈ l.take i) with
        | true =>
          (repeat (first | dsimp only [XK, XL] | dsimp only [ZA,ZB,ZC,ZD,ZE,ZF,ZG,ZH,ZI,ZJ,ZK,ZL,ZM,ZN,ZO,ZP,ZQ,ZR,ZS,ZT,ZU,ZV,ZW,ZX,ZY,ZZ,Za,Zb,Zc,Zd,Ze,Zf,Zg,Zh,Zi,Zj,Zk,Zl,Zm,Zn,Zo,Zp,Zq,Zr,Zs,Zt,Zu,Zv,Zw,Zx,Zy,Zz,YA,YB,YC,YD,YE,YF,YG,YH,YI,YJ,YK,YL,YM,YN,YO,YP,YQ,YR,YS,Env.set,cond_true,cond_false,String.reduceBEq,YT,YU,YV,YW,YX,YY,YZ,Ya,Yb,Yc,Yd,Ye,Yf,Yg] | simp only [Yh,Yi,true_and,Yj,Yk,Yl,Ym,Yn,Yo,Yp,Yq,Yr,Yt,Yu,Yv,Yw,Yx,Yy,Yz,XA,XB,XD,XE,XF,XG,beq_self_eq_true,reduceIte,reduceCtorEq,↓reduceIte,XH,XI,XJ, it, sl, (LI.new H' (l.take i)).mem x, q3]))
          exact h _ (hp.trans (pre_new _ _))
        | false =>
          (repeat (first | dsimp only [XK, XL] | dsimp only [ZA,ZB,ZC,ZD,ZE,ZF,ZG,ZH,ZI,ZJ,ZK,ZL,ZM,ZN,ZO,ZP,ZQ,ZR,ZS,ZT,ZU,ZV,ZW,ZX,ZY,ZZ,Za,Zb,Zc,Zd,Ze,Zf,Zg,Zh,Zi,Zj,Zk,Zl,Zm,Zn,Zo,Zp,Zq,Zr,Zs,Zt,Zu,Zv,Zw,Zx,Zy,Zz,YA,YB,YC,YD,YE,YF,YG,YH,YI,YJ,YK,YL,YM,YN,YO,YP,YQ,YR,YS,Env.set,cond_true,cond_false,String.reduceBEq,YT,YU,YV,YW,YX,YY,YZ,Ya,Yb,Yc,Yd,Ye,Yf,Yg] | simp only [Yh,Yi,true_and,Yj,Yk,Yl,Ym,Yn,Yo,Yp,Yq,Yr,Yt,Yu,Yv,Yw,Yx,Yy,Yz,XA,XB,XD,XE,XF,XG,beq_self_eq_true,reduceIte,reduceCtorEq,↓reduceIte,XH,XI,XJ, it, sl, (LI.new H' (l.take i)).mem x, q3]))
          exact h1 _ _ ⟨by omega, hp.trans (pre_new _ _), by (repeat (first | dsimp only [XK, XL] | dsimp only [ZA,ZB,ZC,ZD,ZE,ZF,ZG,ZH,ZI,ZJ,ZK,ZL,ZM,ZN,ZO,ZP,ZQ,ZR,ZS,ZT,ZU,ZV,ZW,ZX,ZY,ZZ,Za,Zb,Zc,Zd,Ze,Zf,Zg,Zh,Zi,Zj,Zk,Zl,Zm,Zn,Zo,Zp,Zq,Zr,Zs,Zt,Zu,Zv,Zw,Zx,Zy,Zz,YA,YB,YC,YD,YE,YF,YG,YH,YI,YJ,YK,YL,YM,YN,YO,YP,YQ,YR,YS,Env.set,cond_true,cond_false,String.reduceBEq,YT,YU,YV,YW,YX,YY,YZ,Ya,Yb,Yc,Yd,Ye,Yf,Yg] | simp only [Yh,Yi,true_and,Yj,Yk,Yl,Ym,Yn,Yo,Yp,Yq,Yr,Yt,Yu,Yv,Yw,Yx,Yy,Yz,XA,XB,XD,XE,XF,XG,beq_self_eq_true,reduceIte,reduceCtorEq,↓reduceIte,XH,XI,XJ, e1]))⟩
    · obtain rfl : i = l.length := by omega
      have it : itemV (.ref a) (.int (l.length : Int)) H' = some t := item_seq (seqOf_list ha') (by rw [List.getElem?_append_right (by simp)]; simp)
      (repeat (first | dsimp only [XK, XL] | dsimp only [ZA,ZB,ZC,ZD,ZE,ZF,ZG,ZH,ZI,ZJ,ZK,ZL,ZM,ZN,ZO,ZP,ZQ,ZR,ZS,ZT,ZU,ZV,ZW,ZX,ZY,ZZ,Za,Zb,Zc,Zd,Ze,Zf,Zg,Zh,Zi,Zj,Zk,Zl,Zm,Zn,Zo,Zp,Zq,Zr,Zs,Zt,Zu,Zv,Zw,Zx,Zy,Zz,YA,YB,YC,YD,YE,YF,YG,YH,YI,YJ,YK,YL,YM,YN,YO,YP,YQ,YR,YS,Env.set,cond_true,cond_false,String.reduceBEq,YT,YU,YV,YW,YX,YY,YZ,Ya,Yb,Yc,Yd,Ye,Yf,Yg] | simp only [Yh,Yi,true_and,Yj,Yk,Yl,Ym,Yn,Yo,Yp,Yq,Yr,Yt,Yu,Yv,Yw,Yx,Yy,Yz,XA,XB,XD,XE,XF,XG,beq_self_eq_true,reduceIte,reduceCtorEq,↓reduceIte,XH,XI,XJ, e1, it, lenA hp]))
      refine s_guest_ng hP1 (ht.pre hp) ?_
      (repeat (first | dsimp only [XK, XL] | dsimp only [ZA,ZB,ZC,ZD,ZE,ZF,ZG,ZH,ZI,ZJ,ZK,ZL,ZM,ZN,ZO,ZP,ZQ,ZR,ZS,ZT,ZU,ZV,ZW,ZX,ZY,ZZ,Za,Zb,Zc,Zd,Ze,Zf,Zg,Zh,Zi,Zj,Zk,Zl,Zm,Zn,Zo,Zp,Zq,Zr,Zs,Zt,Zu,Zv,Zw,Zx,Zy,Zz,YA,YB,YC,YD,YE,YF,YG,YH,YI,YJ,YK,YL,YM,YN,YO,YP,YQ,YR,YS,Env.set,cond_true,cond_false,String.reduceBEq,YT,YU,YV,YW,YX,YY,YZ,Ya,Yb,Yc,Yd,Ye,Yf,Yg] | simp only [Yh,Yi,true_and,Yj,Yk,Yl,Ym,Yn,Yo,Yp,Yq,Yr,Yt,Yu,Yv,Yw,Yx,Yy,Yz,XA,XB,XD,XE,XF,XG,beq_self_eq_true,reduceIte,reduceCtorEq,↓reduceIte,XH,XI,XJ]))
      exact h H' hp
  · have := hI.1
    rw [rng_len] at this
    omega

noncomputable def parB (l : List Int) : Bool := decide ((∀ x ∈ l, 0 ≤ x ∧ x < (l.length : Int)) ∧ l.Nodup)
theorem s_par_ints (hP : P.fn "need_parties" = some f_need_parties) (hP1 : P.fn "is_guest" = some f_is_guest) (hG : P.glob "MOST_GUESTS" = some (.int 6)) {a : Nat} {l : List Int} (ha : LI H a l) (h0 : 0 < l.length) (hl : l.length ≤ 6)
    (hq : parB l = true → ∀ H', H <+: H' → Q .none H') (h : parB l = false → ∀ H', H <+: H' → X "BadParties" H') : callN P b (n + 2) "need_parties" [.ref a] H Q X := by
  have d1 : decide ((1 : Int) ≤ (l.length : Int)) = true := decide_eq_true (by omega)
  have d2 : decide ((l.length : Int) ≤ 6) = true := decide_eq_true (by omega)
  have hNl : l.length ≤ lim := by unfold lim; omega
  (refine callN_in hP rfl ?_; unfold f_need_parties)
  refine if_go (fun Q hq => by (repeat (first | dsimp only [XK, XL] | dsimp only [ZA,ZB,ZC,ZD,ZE,ZF,ZG,ZH,ZI,ZJ,ZK,ZL,ZM,ZN,ZO,ZP,ZQ,ZR,ZS,ZT,ZU,ZV,ZW,ZX,ZY,ZZ,Za,Zb,Zc,Zd,Ze,Zf,Zg,Zh,Zi,Zj,Zk,Zl,Zm,Zn,Zo,Zp,Zq,Zr,Zs,Zt,Zu,Zv,Zw,Zx,Zy,Zz,YA,YB,YC,YD,YE,YF,YG,YH,YI,YJ,YK,YL,YM,YN,YO,YP,YQ,YR,YS,Env.set,cond_true,cond_false,String.reduceBEq,YT,YU,YV,YW,YX,YY,YZ,Ya,Yb,Yc,Yd,Ye,Yf,Yg] | simp only [Yh,Yi,true_and,Yj,Yk,Yl,Ym,Yn,Yo,Yp,Yq,Yr,Yt,Yu,Yv,Yw,Yx,Yy,Yz,XA,XB,XD,XE,XF,XG,beq_self_eq_true,reduceIte,reduceCtorEq,↓reduceIte,XH,XI,XJ, ha.isList, ha.len, hG, d1, d2])); exact hq) ?_
  (repeat (first | dsimp only [XK, XL] | dsimp only [ZA,ZB,ZC,ZD,ZE,ZF,ZG,ZH,ZI,ZJ,ZK,ZL,ZM,ZN,ZO,ZP,ZQ,ZR,ZS,ZT,ZU,ZV,ZW,ZX,ZY,ZZ,Za,Zb,Zc,Zd,Ze,Zf,Zg,Zh,Zi,Zj,Zk,Zl,Zm,Zn,Zo,Zp,Zq,Zr,Zs,Zt,Zu,Zv,Zw,Zx,Zy,Zz,YA,YB,YC,YD,YE,YF,YG,YH,YI,YJ,YK,YL,YM,YN,YO,YP,YQ,YR,YS,Env.set,cond_true,cond_false,String.reduceBEq,YT,YU,YV,YW,YX,YY,YZ,Ya,Yb,Yc,Yd,Ye,Yf,Yg] | simp only [Yh,Yi,true_and,Yj,Yk,Yl,Ym,Yn,Yo,Yp,Yq,Yr,Yt,Yu,Yv,Yw,Yx,Yy,Yz,XA,XB,XD,XE,XF,XG,beq_self_eq_true,reduceIte,reduceCtorEq,↓reduceIte,XH,XI,XJ, ha.len, range_nat hNl]))
  refine wFor_idx (fun i ρ H' => ((∀ x ∈ l.take i, 0 ≤ x ∧ x < (l.length : Int)) ∧ (l.take i).Nodup) ∧ H <+: H' ∧ ρ "after" = some (.ref a)) ⟨⟨by simp, by simp⟩, List.prefix_refl _, rfl⟩ (fun i v ρ H' hv hI => ⟨trivial, fun k' h1 h2 => ?_⟩) fun ρ H' hI => ⟨trivial, ?_⟩
  · obtain ⟨hi, rfl⟩ := rng_get hv
    obtain ⟨⟨g1, g2⟩, hp, e1⟩ := hI
    have ha' := ha.pre hp
    obtain ⟨x, hx⟩ : ∃ x, l[i]? = some x := ⟨_, List.getElem?_eq_getElem hi⟩
    have hxm := List.mem_of_getElem? hx
    have ts : l.take (i + 1) = l.take i ++ [x] := by rw [List.take_succ, hx]; rfl
    have bad : (¬ (0 ≤ x ∧ x < (l.length : Int)) ∨ x ∈ l.take i) → parB l = false := fun q => by
      unfold parB
      refine decide_eq_false fun ⟨p1, p2⟩ => ?_
      rcases q with q | q
      · exact q (p1 x hxm)
      · have := p2.sublist (List.take_sublist (i + 1) l)
        rw [ts, List.nodup_append] at this
        exact this.2.2 x q x (by simp) rfl
    (repeat (first | dsimp only [XK, XL] | dsimp only [ZA,ZB,ZC,ZD,ZE,ZF,ZG,ZH,ZI,ZJ,ZK,ZL,ZM,ZN,ZO,ZP,ZQ,ZR,ZS,ZT,ZU,ZV,ZW,ZX,ZY,ZZ,Za,Zb,Zc,Zd,Ze,Zf,Zg,Zh,Zi,Zj,Zk,Zl,Zm,Zn,Zo,Zp,Zq,Zr,Zs,Zt,Zu,Zv,Zw,Zx,Zy,Zz,YA,YB,YC,YD,YE,YF,YG,YH,YI,YJ,YK,YL,YM,YN,YO,YP,YQ,YR,YS,Env.set,cond_true,cond_false,String.reduceBEq,YT,YU,YV,YW,YX,YY,YZ,Ya,Yb,Yc,Yd,Ye,Yf,Yg] | simp only [Yh,Yi,true_and,Yj,Yk,Yl,Ym,Yn,Yo,Yp,Yq,Yr,Yt,Yu,Yv,Yw,Yx,Yy,Yz,XA,XB,XD,XE,XF,XG,beq_self_eq_true,reduceIte,reduceCtorEq,↓reduceIte,XH,XI,XJ, e1, ha'.item hx, ha'.len]))
    refine s_is_guest hP1 ?_
    cases q1 : decide (0 ≤ x ∧ x < (l.length : Int)) with
    | false =>
      (repeat (first | dsimp only [XK, XL] | dsimp only [ZA,ZB,ZC,ZD,ZE,ZF,ZG,ZH,ZI,ZJ,ZK,ZL,ZM,ZN,ZO,ZP,ZQ,ZR,ZS,ZT,ZU,ZV,ZW,ZX,ZY,ZZ,Za,Zb,Zc,Zd,Ze,Zf,Zg,Zh,Zi,Zj,Zk,Zl,Zm,Zn,Zo,Zp,Zq,Zr,Zs,Zt,Zu,Zv,Zw,Zx,Zy,Zz,YA,YB,YC,YD,YE,YF,YG,YH,YI,YJ,YK,YL,YM,YN,YO,YP,YQ,YR,YS,Env.set,cond_true,cond_false,String.reduceBEq,YT,YU,YV,YW,YX,YY,YZ,Ya,Yb,Yc,Yd,Ye,Yf,Yg] | simp only [Yh,Yi,true_and,Yj,Yk,Yl,Ym,Yn,Yo,Yp,Yq,Yr,Yt,Yu,Yv,Yw,Yx,Yy,Yz,XA,XB,XD,XE,XF,XG,beq_self_eq_true,reduceIte,reduceCtorEq,↓reduceIte,XH,XI,XJ]))
      exact h (bad (.inl (of_decide_eq_false q1))) H' hp
    | true =>
      cases q3 : decide (x ∈ l.take i) with
      | true =>
        (repeat (first | dsimp only [XK, XL] | dsimp only [ZA,ZB,ZC,ZD,ZE,ZF,ZG,ZH,ZI,ZJ,ZK,ZL,ZM,ZN,ZO,ZP,ZQ,ZR,ZS,ZT,ZU,ZV,ZW,ZX,ZY,ZZ,Za,Zb,Zc,Zd,Ze,Zf,Zg,Zh,Zi,Zj,Zk,Zl,Zm,Zn,Zo,Zp,Zq,Zr,Zs,Zt,Zu,Zv,Zw,Zx,Zy,Zz,YA,YB,YC,YD,YE,YF,YG,YH,YI,YJ,YK,YL,YM,YN,YO,YP,YQ,YR,YS,Env.set,cond_true,cond_false,String.reduceBEq,YT,YU,YV,YW,YX,YY,YZ,Ya,Yb,Yc,Yd,Ye,Yf,Yg] | simp only [Yh,Yi,true_and,Yj,Yk,Yl,Ym,Yn,Yo,Yp,Yq,Yr,Yt,Yu,Yv,Yw,Yx,Yy,Yz,XA,XB,XD,XE,XF,XG,beq_self_eq_true,reduceIte,reduceCtorEq,↓reduceIte,XH,XI,XJ, ha'.item hx, ha'.sliceTo i, (LI.new H' (l.take i)).mem x, q3]))
        exact h (bad (.inr (of_decide_eq_true q3))) _ (hp.trans (pre_new _ _))
      | false =>
        (repeat (first | dsimp only [XK, XL] | dsimp only [ZA,ZB,ZC,ZD,ZE,ZF,ZG,ZH,ZI,ZJ,ZK,ZL,ZM,ZN,ZO,ZP,ZQ,ZR,ZS,ZT,ZU,ZV,ZW,ZX,ZY,ZZ,Za,Zb,Zc,Zd,Ze,Zf,Zg,Zh,Zi,Zj,Zk,Zl,Zm,Zn,Zo,Zp,Zq,Zr,Zs,Zt,Zu,Zv,Zw,Zx,Zy,Zz,YA,YB,YC,YD,YE,YF,YG,YH,YI,YJ,YK,YL,YM,YN,YO,YP,YQ,YR,YS,Env.set,cond_true,cond_false,String.reduceBEq,YT,YU,YV,YW,YX,YY,YZ,Ya,Yb,Yc,Yd,Ye,Yf,Yg] | simp only [Yh,Yi,true_and,Yj,Yk,Yl,Ym,Yn,Yo,Yp,Yq,Yr,Yt,Yu,Yv,Yw,Yx,Yy,Yz,XA,XB,XD,XE,XF,XG,beq_self_eq_true,reduceIte,reduceCtorEq,↓reduceIte,XH,XI,XJ, ha'.item hx, ha'.sliceTo i, (LI.new H' (l.take i)).mem x, q3]))
        refine h1 _ _ ⟨⟨?_, ?_⟩, hp.trans (pre_new _ _), by (repeat (first | dsimp only [XK, XL] | dsimp only [ZA,ZB,ZC,ZD,ZE,ZF,ZG,ZH,ZI,ZJ,ZK,ZL,ZM,ZN,ZO,ZP,ZQ,ZR,ZS,ZT,ZU,ZV,ZW,ZX,ZY,ZZ,Za,Zb,Zc,Zd,Ze,Zf,Zg,Zh,Zi,Zj,Zk,Zl,Zm,Zn,Zo,Zp,Zq,Zr,Zs,Zt,Zu,Zv,Zw,Zx,Zy,Zz,YA,YB,YC,YD,YE,YF,YG,YH,YI,YJ,YK,YL,YM,YN,YO,YP,YQ,YR,YS,Env.set,cond_true,cond_false,String.reduceBEq,YT,YU,YV,YW,YX,YY,YZ,Ya,Yb,Yc,Yd,Ye,Yf,Yg] | simp only [Yh,Yi,true_and,Yj,Yk,Yl,Ym,Yn,Yo,Yp,Yq,Yr,Yt,Yu,Yv,Yw,Yx,Yy,Yz,XA,XB,XD,XE,XF,XG,beq_self_eq_true,reduceIte,reduceCtorEq,↓reduceIte,XH,XI,XJ, e1]))⟩
        · rw [ts]
          intro y hy
          rcases List.mem_append.mp hy with hy | hy
          · exact g1 y hy
          · cases List.mem_singleton.mp hy
            exact of_decide_eq_true q1
        · rw [ts, List.nodup_append]
          refine ⟨g2, by simp, fun y hy z hz => ?_⟩
          cases List.mem_singleton.mp hz
          rintro rfl
          exact of_decide_eq_false q3 hy
  · obtain ⟨⟨g1, g2⟩, hp, _⟩ := hI
    rw [rng_len, List.take_length] at g1 g2
    (repeat (first | dsimp only [XK, XL] | dsimp only [ZA,ZB,ZC,ZD,ZE,ZF,ZG,ZH,ZI,ZJ,ZK,ZL,ZM,ZN,ZO,ZP,ZQ,ZR,ZS,ZT,ZU,ZV,ZW,ZX,ZY,ZZ,Za,Zb,Zc,Zd,Ze,Zf,Zg,Zh,Zi,Zj,Zk,Zl,Zm,Zn,Zo,Zp,Zq,Zr,Zs,Zt,Zu,Zv,Zw,Zx,Zy,Zz,YA,YB,YC,YD,YE,YF,YG,YH,YI,YJ,YK,YL,YM,YN,YO,YP,YQ,YR,YS,Env.set,cond_true,cond_false,String.reduceBEq,YT,YU,YV,YW,YX,YY,YZ,Ya,Yb,Yc,Yd,Ye,Yf,Yg] | simp only [Yh,Yi,true_and,Yj,Yk,Yl,Ym,Yn,Yo,Yp,Yq,Yr,Yt,Yu,Yv,Yw,Yx,Yy,Yz,XA,XB,XD,XE,XF,XG,beq_self_eq_true,reduceIte,reduceCtorEq,↓reduceIte,XH,XI,XJ]))
    exact hq (decide_eq_true ⟨g1, g2⟩) H' hp

end
end Mine

namespace Mine
open PySem

noncomputable abbrev P3 : Prog := prog03

noncomputable def MatesBad (W : List (List Int)) (v : V) (H : Hp) : Prop := ∀ n H' w Q X, H <+: H' → WH H' w W → (∀ H'', H' <+: H'' → X "BadMates" H'') → callN P3 false (n + 2) "need_mates" [.ref w, v] H' Q X
noncomputable def PartsBad (v : V) (H : Hp) : Prop := ∀ n H' Q X, H <+: H' → (∀ H'', H' <+: H'' → X "BadParties" H'') → callN P3 false (n + 2) "need_parties" [v] H' Q X
noncomputable def AfterBad (q m : Nat) (v : V) (H : Hp) : Prop := PartsBad v H ∨ (q % 3 = 1 ∧ ∃ a l, v = .ref a ∧ LI H a l ∧ (0 < l.length ∧ l.length ≤ 6) ∧ parB l = true ∧ l.length ≠ m)
noncomputable def Bad (k q g : Nat) (W : List (List Int)) (v : V) (H : Hp) : Prop := match k with
  | 0 => NG v W.length H ∧ ((q = 3 ∨ q = 4) → v ≠ .none)
  | 1 => MatesBad W v H
  | 2 => AfterBad q W.length v H
  | _ => RowBad P3 false v g W.length H
noncomputable def clsOf (k : Nat) : String := match k with
  | 0 => "BadGuest"
  | 1 => "BadMates"
  | 2 => "BadParties"
  | _ => "BadWishes"

theorem MatesBad.pre {W : List (List Int)} {v : V} {H H' : Hp} (h : MatesBad W v H) (hp : H <+: H') : MatesBad W v H' := fun n H'' w Q X hp' hw => h n H'' w Q X (hp.trans hp') hw
theorem PartsBad.pre {v : V} {H H' : Hp} (h : PartsBad v H) (hp : H <+: H') : PartsBad v H' := fun n H'' Q X hp' => h n H'' Q X (hp.trans hp')
theorem Bad.pre {k q g : Nat} {W : List (List Int)} {v : V} {H H' : Hp} (h : Bad k q g W v H) (hp : H <+: H') : Bad k q g W v H' := by
  match k, h with
  | 0, h => exact ⟨h.1.pre hp, h.2⟩
  | 1, h => exact MatesBad.pre h hp
  | 2, h =>
    rcases h with h | ⟨h1, a, l, e, h2, h3⟩
    · exact .inl (h.pre hp)
    · exact .inr ⟨h1, a, l, e, h2.pre hp, h3⟩
  | k + 3, h => exact fun n H'' Q X hp' => h n H'' Q X (hp.trans hp')

section
variable {n : Nat} {H : Hp} {Q : Post} {X : XP} {w x d iw g : Nat} {mv v : V} {W : List (List Int)}

theorem s_turn_guest (hI : INN H x d iw mv) (hw : WH H iw W) (hv : NG v W.length H) {r : V} (h : X "BadGuest" H) : callN P3 false (n + 3) "Inn.turn" [.ref x, v, r] H Q X := by
  (refine callN_in (show P3.fn "Inn.turn" = some f_Inn_turn_t from rfl) rfl ?_; unfold f_Inn_turn_t)
  (repeat (first | dsimp only [XK, XL] | dsimp only [ZA,ZB,ZC,ZD,ZE,ZF,ZG,ZH,ZI,ZJ,ZK,ZL,ZM,ZN,ZO,ZP,ZQ,ZR,ZS,ZT,ZU,ZV,ZW,ZX,ZY,ZZ,Za,Zb,Zc,Zd,Ze,Zf,Zg,Zh,Zi,Zj,Zk,Zl,Zm,Zn,Zo,Zp,Zq,Zr,Zs,Zt,Zu,Zv,Zw,Zx,Zy,Zz,YA,YB,YC,YD,YE,YF,YG,YH,YI,YJ,YK,YL,YM,YN,YO,YP,YQ,YR,YS,Env.set,cond_true,cond_false,String.reduceBEq,YT,YU,YV,YW,YX,YY,YZ,Ya,Yb,Yc,Yd,Ye,Yf,Yg] | simp only [Yh,Yi,true_and,Yj,Yk,Yl,Ym,Yn,Yo,Yp,Yq,Yr,Yt,Yu,Yv,Yw,Yx,Yy,Yz,XA,XB,XD,XE,XF,XG,beq_self_eq_true,reduceIte,reduceCtorEq,↓reduceIte,XH,XI,XJ, hI.wishes]))
  refine s_need_guest_bad rfl rfl hw hv ?_
  exact h

theorem s_turn_row (hI : INN H x d iw mv) (hw : WH H iw W) (hg : g < W.length) (hv : RowBad P3 false v g W.length H) (h : ∀ H', H <+: H' → X "BadWishes" H') : callN P3 false (n + 3) "Inn.turn" [.ref x, .int (g : Int), v] H Q X := by
  (refine callN_in (show P3.fn "Inn.turn" = some f_Inn_turn_t from rfl) rfl ?_; unfold f_Inn_turn_t)
  (repeat (first | dsimp only [XK, XL] | dsimp only [ZA,ZB,ZC,ZD,ZE,ZF,ZG,ZH,ZI,ZJ,ZK,ZL,ZM,ZN,ZO,ZP,ZQ,ZR,ZS,ZT,ZU,ZV,ZW,ZX,ZY,ZZ,Za,Zb,Zc,Zd,Ze,Zf,Zg,Zh,Zi,Zj,Zk,Zl,Zm,Zn,Zo,Zp,Zq,Zr,Zs,Zt,Zu,Zv,Zw,Zx,Zy,Zz,YA,YB,YC,YD,YE,YF,YG,YH,YI,YJ,YK,YL,YM,YN,YO,YP,YQ,YR,YS,Env.set,cond_true,cond_false,String.reduceBEq,YT,YU,YV,YW,YX,YY,YZ,Ya,Yb,Yc,Yd,Ye,Yf,Yg] | simp only [Yh,Yi,true_and,Yj,Yk,Yl,Ym,Yn,Yo,Yp,Yq,Yr,Yt,Yu,Yv,Yw,Yx,Yy,Yz,XA,XB,XD,XE,XF,XG,beq_self_eq_true,reduceIte,reduceCtorEq,↓reduceIte,XH,XI,XJ, hI.wishes]))
  refine s_need_guest rfl rfl hw hg ?_
  (repeat (first | dsimp only [XK, XL] | dsimp only [ZA,ZB,ZC,ZD,ZE,ZF,ZG,ZH,ZI,ZJ,ZK,ZL,ZM,ZN,ZO,ZP,ZQ,ZR,ZS,ZT,ZU,ZV,ZW,ZX,ZY,ZZ,Za,Zb,Zc,Zd,Ze,Zf,Zg,Zh,Zi,Zj,Zk,Zl,Zm,Zn,Zo,Zp,Zq,Zr,Zs,Zt,Zu,Zv,Zw,Zx,Zy,Zz,YA,YB,YC,YD,YE,YF,YG,YH,YI,YJ,YK,YL,YM,YN,YO,YP,YQ,YR,YS,Env.set,cond_true,cond_false,String.reduceBEq,YT,YU,YV,YW,YX,YY,YZ,Ya,Yb,Yc,Yd,Ye,Yf,Yg] | simp only [Yh,Yi,true_and,Yj,Yk,Yl,Ym,Yn,Yo,Yp,Yq,Yr,Yt,Yu,Yv,Yw,Yx,Yy,Yz,XA,XB,XD,XE,XF,XG,beq_self_eq_true,reduceIte,reduceCtorEq,↓reduceIte,XH,XI,XJ, hI.wishes, hw.len]))
  refine hv _ _ _ _ (List.prefix_refl _) fun H' hp => ?_
  (repeat (first | dsimp only [XK, XL] | dsimp only [ZA,ZB,ZC,ZD,ZE,ZF,ZG,ZH,ZI,ZJ,ZK,ZL,ZM,ZN,ZO,ZP,ZQ,ZR,ZS,ZT,ZU,ZV,ZW,ZX,ZY,ZZ,Za,Zb,Zc,Zd,Ze,Zf,Zg,Zh,Zi,Zj,Zk,Zl,Zm,Zn,Zo,Zp,Zq,Zr,Zs,Zt,Zu,Zv,Zw,Zx,Zy,Zz,YA,YB,YC,YD,YE,YF,YG,YH,YI,YJ,YK,YL,YM,YN,YO,YP,YQ,YR,YS,Env.set,cond_true,cond_false,String.reduceBEq,YT,YU,YV,YW,YX,YY,YZ,Ya,Yb,Yc,Yd,Ye,Yf,Yg] | simp only [Yh,Yi,true_and,Yj,Yk,Yl,Ym,Yn,Yo,Yp,Yq,Yr,Yt,Yu,Yv,Yw,Yx,Yy,Yz,XA,XB,XD,XE,XF,XG,beq_self_eq_true,reduceIte,reduceCtorEq,↓reduceIte,XH,XI,XJ]))
  exact h H' hp

theorem s_suits_bad {one other : V} (hw : WH H w W) (ok : WOk W) (ho : NG one W.length H ∨ (one = .int (g : Int) ∧ g < W.length ∧ NG other W.length H)) (h : ∀ H', H <+: H' → X "BadGuest" H') : callN P3 false (n + 4) "suits" [.ref w, one, other] H Q X := by
  (refine callN_in (show P3.fn "suits" = some f_suits_t from rfl) rfl ?_; unfold f_suits_t)
  (repeat (first | dsimp only [XK, XL] | dsimp only [ZA,ZB,ZC,ZD,ZE,ZF,ZG,ZH,ZI,ZJ,ZK,ZL,ZM,ZN,ZO,ZP,ZQ,ZR,ZS,ZT,ZU,ZV,ZW,ZX,ZY,ZZ,Za,Zb,Zc,Zd,Ze,Zf,Zg,Zh,Zi,Zj,Zk,Zl,Zm,Zn,Zo,Zp,Zq,Zr,Zs,Zt,Zu,Zv,Zw,Zx,Zy,Zz,YA,YB,YC,YD,YE,YF,YG,YH,YI,YJ,YK,YL,YM,YN,YO,YP,YQ,YR,YS,Env.set,cond_true,cond_false,String.reduceBEq,YT,YU,YV,YW,YX,YY,YZ,Ya,Yb,Yc,Yd,Ye,Yf,Yg] | simp only [Yh,Yi,true_and,Yj,Yk,Yl,Ym,Yn,Yo,Yp,Yq,Yr,Yt,Yu,Yv,Yw,Yx,Yy,Yz,XA,XB,XD,XE,XF,XG,beq_self_eq_true,reduceIte,reduceCtorEq,↓reduceIte,XH,XI,XJ]))
  refine s_need_wishes rfl rfl rfl rfl hw ok fun H' hp => ?_
  have hw' := hw.pre hp
  (repeat (first | dsimp only [XK, XL] | dsimp only [ZA,ZB,ZC,ZD,ZE,ZF,ZG,ZH,ZI,ZJ,ZK,ZL,ZM,ZN,ZO,ZP,ZQ,ZR,ZS,ZT,ZU,ZV,ZW,ZX,ZY,ZZ,Za,Zb,Zc,Zd,Ze,Zf,Zg,Zh,Zi,Zj,Zk,Zl,Zm,Zn,Zo,Zp,Zq,Zr,Zs,Zt,Zu,Zv,Zw,Zx,Zy,Zz,YA,YB,YC,YD,YE,YF,YG,YH,YI,YJ,YK,YL,YM,YN,YO,YP,YQ,YR,YS,Env.set,cond_true,cond_false,String.reduceBEq,YT,YU,YV,YW,YX,YY,YZ,Ya,Yb,Yc,Yd,Ye,Yf,Yg] | simp only [Yh,Yi,true_and,Yj,Yk,Yl,Ym,Yn,Yo,Yp,Yq,Yr,Yt,Yu,Yv,Yw,Yx,Yy,Yz,XA,XB,XD,XE,XF,XG,beq_self_eq_true,reduceIte,reduceCtorEq,↓reduceIte,XH,XI,XJ]))
  rcases ho with ho | ⟨rfl, hg, ho⟩
  · refine s_need_guest_bad rfl rfl hw' (ho.pre hp) ?_
    exact h H' hp
  · refine s_need_guest rfl rfl hw' hg ?_
    (repeat (first | dsimp only [XK, XL] | dsimp only [ZA,ZB,ZC,ZD,ZE,ZF,ZG,ZH,ZI,ZJ,ZK,ZL,ZM,ZN,ZO,ZP,ZQ,ZR,ZS,ZT,ZU,ZV,ZW,ZX,ZY,ZZ,Za,Zb,Zc,Zd,Ze,Zf,Zg,Zh,Zi,Zj,Zk,Zl,Zm,Zn,Zo,Zp,Zq,Zr,Zs,Zt,Zu,Zv,Zw,Zx,Zy,Zz,YA,YB,YC,YD,YE,YF,YG,YH,YI,YJ,YK,YL,YM,YN,YO,YP,YQ,YR,YS,Env.set,cond_true,cond_false,String.reduceBEq,YT,YU,YV,YW,YX,YY,YZ,Ya,Yb,Yc,Yd,Ye,Yf,Yg] | simp only [Yh,Yi,true_and,Yj,Yk,Yl,Ym,Yn,Yo,Yp,Yq,Yr,Yt,Yu,Yv,Yw,Yx,Yy,Yz,XA,XB,XD,XE,XF,XG,beq_self_eq_true,reduceIte,reduceCtorEq,↓reduceIte,XH,XI,XJ]))
    refine s_need_guest_bad rfl rfl hw' (ho.pre hp) ?_
    exact h H' hp

theorem s_rather_bad {gu one other : V} (hw : WH H w W) (ok : WOk W) (ho : NG gu W.length H ∨ (gu = .int (g : Int) ∧ g < W.length ∧ ((NG one W.length H ∧ one ≠ .none) ∨ (one = .none ∧ NG other W.length H ∧ other ≠ .none)))) (h : ∀ H', H <+: H' → X "BadGuest" H') : callN P3 false (n + 4) "rather" [.ref w, gu, one, other] H Q X := by
  (refine callN_in (show P3.fn "rather" = some f_rather_t from rfl) rfl ?_; unfold f_rather_t)
  (repeat (first | dsimp only [XK, XL] | dsimp only [ZA,ZB,ZC,ZD,ZE,ZF,ZG,ZH,ZI,ZJ,ZK,ZL,ZM,ZN,ZO,ZP,ZQ,ZR,ZS,ZT,ZU,ZV,ZW,ZX,ZY,ZZ,Za,Zb,Zc,Zd,Ze,Zf,Zg,Zh,Zi,Zj,Zk,Zl,Zm,Zn,Zo,Zp,Zq,Zr,Zs,Zt,Zu,Zv,Zw,Zx,Zy,Zz,YA,YB,YC,YD,YE,YF,YG,YH,YI,YJ,YK,YL,YM,YN,YO,YP,YQ,YR,YS,Env.set,cond_true,cond_false,String.reduceBEq,YT,YU,YV,YW,YX,YY,YZ,Ya,Yb,Yc,Yd,Ye,Yf,Yg] | simp only [Yh,Yi,true_and,Yj,Yk,Yl,Ym,Yn,Yo,Yp,Yq,Yr,Yt,Yu,Yv,Yw,Yx,Yy,Yz,XA,XB,XD,XE,XF,XG,beq_self_eq_true,reduceIte,reduceCtorEq,↓reduceIte,XH,XI,XJ]))
  refine s_need_wishes rfl rfl rfl rfl hw ok fun H' hp => ?_
  have hw' := hw.pre hp
  (repeat (first | dsimp only [XK, XL] | dsimp only [ZA,ZB,ZC,ZD,ZE,ZF,ZG,ZH,ZI,ZJ,ZK,ZL,ZM,ZN,ZO,ZP,ZQ,ZR,ZS,ZT,ZU,ZV,ZW,ZX,ZY,ZZ,Za,Zb,Zc,Zd,Ze,Zf,Zg,Zh,Zi,Zj,Zk,Zl,Zm,Zn,Zo,Zp,Zq,Zr,Zs,Zt,Zu,Zv,Zw,Zx,Zy,Zz,YA,YB,YC,YD,YE,YF,YG,YH,YI,YJ,YK,YL,YM,YN,YO,YP,YQ,YR,YS,Env.set,cond_true,cond_false,String.reduceBEq,YT,YU,YV,YW,YX,YY,YZ,Ya,Yb,Yc,Yd,Ye,Yf,Yg] | simp only [Yh,Yi,true_and,Yj,Yk,Yl,Ym,Yn,Yo,Yp,Yq,Yr,Yt,Yu,Yv,Yw,Yx,Yy,Yz,XA,XB,XD,XE,XF,XG,beq_self_eq_true,reduceIte,reduceCtorEq,↓reduceIte,XH,XI,XJ]))
  have ns : ∀ {t : V}, t ≠ .none → isSame t .none = some false := fun q => by simp [isSame, q]
  rcases ho with ho | ⟨rfl, hg, ⟨ho, hn⟩ | ⟨rfl, ho, hn⟩⟩
  · refine s_need_guest_bad rfl rfl hw' (ho.pre hp) ?_
    exact h H' hp
  · refine s_need_guest rfl rfl hw' hg ?_
    (repeat (first | dsimp only [XK, XL] | dsimp only [ZA,ZB,ZC,ZD,ZE,ZF,ZG,ZH,ZI,ZJ,ZK,ZL,ZM,ZN,ZO,ZP,ZQ,ZR,ZS,ZT,ZU,ZV,ZW,ZX,ZY,ZZ,Za,Zb,Zc,Zd,Ze,Zf,Zg,Zh,Zi,Zj,Zk,Zl,Zm,Zn,Zo,Zp,Zq,Zr,Zs,Zt,Zu,Zv,Zw,Zx,Zy,Zz,YA,YB,YC,YD,YE,YF,YG,YH,YI,YJ,YK,YL,YM,YN,YO,YP,YQ,YR,YS,Env.set,cond_true,cond_false,String.reduceBEq,YT,YU,YV,YW,YX,YY,YZ,Ya,Yb,Yc,Yd,Ye,Yf,Yg] | simp only [Yh,Yi,true_and,Yj,Yk,Yl,Ym,Yn,Yo,Yp,Yq,Yr,Yt,Yu,Yv,Yw,Yx,Yy,Yz,XA,XB,XD,XE,XF,XG,beq_self_eq_true,reduceIte,reduceCtorEq,↓reduceIte,XH,XI,XJ, ns hn]))
    refine s_need_guest_bad rfl rfl hw' (ho.pre hp) ?_
    exact h H' hp
  · refine s_need_guest rfl rfl hw' hg ?_
    (repeat (first | dsimp only [XK, XL] | dsimp only [ZA,ZB,ZC,ZD,ZE,ZF,ZG,ZH,ZI,ZJ,ZK,ZL,ZM,ZN,ZO,ZP,ZQ,ZR,ZS,ZT,ZU,ZV,ZW,ZX,ZY,ZZ,Za,Zb,Zc,Zd,Ze,Zf,Zg,Zh,Zi,Zj,Zk,Zl,Zm,Zn,Zo,Zp,Zq,Zr,Zs,Zt,Zu,Zv,Zw,Zx,Zy,Zz,YA,YB,YC,YD,YE,YF,YG,YH,YI,YJ,YK,YL,YM,YN,YO,YP,YQ,YR,YS,Env.set,cond_true,cond_false,String.reduceBEq,YT,YU,YV,YW,YX,YY,YZ,Ya,Yb,Yc,Yd,Ye,Yf,Yg] | simp only [Yh,Yi,true_and,Yj,Yk,Yl,Ym,Yn,Yo,Yp,Yq,Yr,Yt,Yu,Yv,Yw,Yx,Yy,Yz,XA,XB,XD,XE,XF,XG,beq_self_eq_true,reduceIte,reduceCtorEq,↓reduceIte,XH,XI,XJ, ns hn]))
    refine s_need_guest_bad rfl rfl hw' (ho.pre hp) ?_
    exact h H' hp

theorem s_guest_asked {q : Nat} (hq : q < 6) (hw : WH H w W) (ok : WOk W) (hI : INN H x d iw mv) (hwi : WH H iw W) (hg : g < W.length) (hv : NG v W.length H) (hn : (q = 3 ∨ q = 4) → v ≠ .none) (h : ∀ H', H <+: H' → X "BadGuest" H') :
    callN P3 false (n + 6) "_law_guest_asked" [.int (q : Int), .ref w, .ref x, v, .int (g : Int)] H Q X := by
  (refine callN_in (show P3.fn "_law_guest_asked" = some f__law_guest_asked from rfl) rfl ?_; unfold f__law_guest_asked)
  have n1 : ("Inn" ++ "." ++ "turn" : String) = "Inn.turn" := by decide
  match q, hq with
  | 0, _ => refine if_ret (g_eq rfl rfl) ?_; (repeat (first | dsimp only [XK, XL] | dsimp only [ZA,ZB,ZC,ZD,ZE,ZF,ZG,ZH,ZI,ZJ,ZK,ZL,ZM,ZN,ZO,ZP,ZQ,ZR,ZS,ZT,ZU,ZV,ZW,ZX,ZY,ZZ,Za,Zb,Zc,Zd,Ze,Zf,Zg,Zh,Zi,Zj,Zk,Zl,Zm,Zn,Zo,Zp,Zq,Zr,Zs,Zt,Zu,Zv,Zw,Zx,Zy,Zz,YA,YB,YC,YD,YE,YF,YG,YH,YI,YJ,YK,YL,YM,YN,YO,YP,YQ,YR,YS,Env.set,cond_true,cond_false,String.reduceBEq,YT,YU,YV,YW,YX,YY,YZ,Ya,Yb,Yc,Yd,Ye,Yf,Yg] | simp only [Yh,Yi,true_and,Yj,Yk,Yl,Ym,Yn,Yo,Yp,Yq,Yr,Yt,Yu,Yv,Yw,Yx,Yy,Yz,XA,XB,XD,XE,XF,XG,beq_self_eq_true,reduceIte,reduceCtorEq,↓reduceIte,XH,XI,XJ])); exact s_suits_bad (g := g) hw ok (.inl hv) h
  | 1, _ => refine if_go (g_eq rfl rfl) (if_ret (g_eq rfl rfl) ?_); (repeat (first | dsimp only [XK, XL] | dsimp only [ZA,ZB,ZC,ZD,ZE,ZF,ZG,ZH,ZI,ZJ,ZK,ZL,ZM,ZN,ZO,ZP,ZQ,ZR,ZS,ZT,ZU,ZV,ZW,ZX,ZY,ZZ,Za,Zb,Zc,Zd,Ze,Zf,Zg,Zh,Zi,Zj,Zk,Zl,Zm,Zn,Zo,Zp,Zq,Zr,Zs,Zt,Zu,Zv,Zw,Zx,Zy,Zz,YA,YB,YC,YD,YE,YF,YG,YH,YI,YJ,YK,YL,YM,YN,YO,YP,YQ,YR,YS,Env.set,cond_true,cond_false,String.reduceBEq,YT,YU,YV,YW,YX,YY,YZ,Ya,Yb,Yc,Yd,Ye,Yf,Yg] | simp only [Yh,Yi,true_and,Yj,Yk,Yl,Ym,Yn,Yo,Yp,Yq,Yr,Yt,Yu,Yv,Yw,Yx,Yy,Yz,XA,XB,XD,XE,XF,XG,beq_self_eq_true,reduceIte,reduceCtorEq,↓reduceIte,XH,XI,XJ])); exact s_suits_bad (g := g) hw ok (.inr ⟨rfl, hg, hv⟩) h
  | 2, _ => refine if_go (g_eq rfl rfl) (if_go (g_eq rfl rfl) (if_ret (g_eq rfl rfl) ?_)); (repeat (first | dsimp only [XK, XL] | dsimp only [ZA,ZB,ZC,ZD,ZE,ZF,ZG,ZH,ZI,ZJ,ZK,ZL,ZM,ZN,ZO,ZP,ZQ,ZR,ZS,ZT,ZU,ZV,ZW,ZX,ZY,ZZ,Za,Zb,Zc,Zd,Ze,Zf,Zg,Zh,Zi,Zj,Zk,Zl,Zm,Zn,Zo,Zp,Zq,Zr,Zs,Zt,Zu,Zv,Zw,Zx,Zy,Zz,YA,YB,YC,YD,YE,YF,YG,YH,YI,YJ,YK,YL,YM,YN,YO,YP,YQ,YR,YS,Env.set,cond_true,cond_false,String.reduceBEq,YT,YU,YV,YW,YX,YY,YZ,Ya,Yb,Yc,Yd,Ye,Yf,Yg] | simp only [Yh,Yi,true_and,Yj,Yk,Yl,Ym,Yn,Yo,Yp,Yq,Yr,Yt,Yu,Yv,Yw,Yx,Yy,Yz,XA,XB,XD,XE,XF,XG,beq_self_eq_true,reduceIte,reduceCtorEq,↓reduceIte,XH,XI,XJ])); exact s_rather_bad (g := g) hw ok (.inl hv) h
  | 3, _ => refine if_go (g_eq rfl rfl) (if_go (g_eq rfl rfl) (if_go (g_eq rfl rfl) (if_ret (g_eq rfl rfl) ?_))); (repeat (first | dsimp only [XK, XL] | dsimp only [ZA,ZB,ZC,ZD,ZE,ZF,ZG,ZH,ZI,ZJ,ZK,ZL,ZM,ZN,ZO,ZP,ZQ,ZR,ZS,ZT,ZU,ZV,ZW,ZX,ZY,ZZ,Za,Zb,Zc,Zd,Ze,Zf,Zg,Zh,Zi,Zj,Zk,Zl,Zm,Zn,Zo,Zp,Zq,Zr,Zs,Zt,Zu,Zv,Zw,Zx,Zy,Zz,YA,YB,YC,YD,YE,YF,YG,YH,YI,YJ,YK,YL,YM,YN,YO,YP,YQ,YR,YS,Env.set,cond_true,cond_false,String.reduceBEq,YT,YU,YV,YW,YX,YY,YZ,Ya,Yb,Yc,Yd,Ye,Yf,Yg] | simp only [Yh,Yi,true_and,Yj,Yk,Yl,Ym,Yn,Yo,Yp,Yq,Yr,Yt,Yu,Yv,Yw,Yx,Yy,Yz,XA,XB,XD,XE,XF,XG,beq_self_eq_true,reduceIte,reduceCtorEq,↓reduceIte,XH,XI,XJ])); exact s_rather_bad (g := g) hw ok (.inr ⟨rfl, hg, .inl ⟨hv, hn (.inl rfl)⟩⟩) h
  | 4, _ => refine if_go (g_eq rfl rfl) (if_go (g_eq rfl rfl) (if_go (g_eq rfl rfl) (if_go (g_eq rfl rfl) (if_ret (g_eq rfl rfl) ?_)))); (repeat (first | dsimp only [XK, XL] | dsimp only [ZA,ZB,ZC,ZD,ZE,ZF,ZG,ZH,ZI,ZJ,ZK,ZL,ZM,ZN,ZO,ZP,ZQ,ZR,ZS,ZT,ZU,ZV,ZW,ZX,ZY,ZZ,Za,Zb,Zc,Zd,Ze,Zf,Zg,Zh,Zi,Zj,Zk,Zl,Zm,Zn,Zo,Zp,Zq,Zr,Zs,Zt,Zu,Zv,Zw,Zx,Zy,Zz,YA,YB,YC,YD,YE,YF,YG,YH,YI,YJ,YK,YL,YM,YN,YO,YP,YQ,YR,YS,Env.set,cond_true,cond_false,String.reduceBEq,YT,YU,YV,YW,YX,YY,YZ,Ya,Yb,Yc,Yd,Ye,Yf,Yg] | simp only [Yh,Yi,true_and,Yj,Yk,Yl,Ym,Yn,Yo,Yp,Yq,Yr,Yt,Yu,Yv,Yw,Yx,Yy,Yz,XA,XB,XD,XE,XF,XG,beq_self_eq_true,reduceIte,reduceCtorEq,↓reduceIte,XH,XI,XJ])); exact s_rather_bad (g := g) hw ok (.inr ⟨rfl, hg, .inr ⟨rfl, hv, hn (.inr rfl)⟩⟩) h
  | 5, _ =>
    refine if_go (g_eq rfl rfl) (if_go (g_eq rfl rfl) (if_go (g_eq rfl rfl) (if_go (g_eq rfl rfl) (if_go (g_eq rfl rfl) (last_ret ?_)))))
    (repeat (first | dsimp only [XK, XL] | dsimp only [ZA,ZB,ZC,ZD,ZE,ZF,ZG,ZH,ZI,ZJ,ZK,ZL,ZM,ZN,ZO,ZP,ZQ,ZR,ZS,ZT,ZU,ZV,ZW,ZX,ZY,ZZ,Za,Zb,Zc,Zd,Ze,Zf,Zg,Zh,Zi,Zj,Zk,Zl,Zm,Zn,Zo,Zp,Zq,Zr,Zs,Zt,Zu,Zv,Zw,Zx,Zy,Zz,YA,YB,YC,YD,YE,YF,YG,YH,YI,YJ,YK,YL,YM,YN,YO,YP,YQ,YR,YS,Env.set,cond_true,cond_false,String.reduceBEq,YT,YU,YV,YW,YX,YY,YZ,Ya,Yb,Yc,Yd,Ye,Yf,Yg] | simp only [Yh,Yi,true_and,Yj,Yk,Yl,Ym,Yn,Yo,Yp,Yq,Yr,Yt,Yu,Yv,Yw,Yx,Yy,Yz,XA,XB,XD,XE,XF,XG,beq_self_eq_true,reduceIte,reduceCtorEq,↓reduceIte,XH,XI,XJ, e_meth, hI.inst, n1]))
    exact s_turn_guest hI hwi hv (h H (List.prefix_refl _))

theorem s_restless_bad (hw : WH H w W) (ok : WOk W) (hv : MatesBad W v H) (h : ∀ H', H <+: H' → X "BadMates" H') : callN P3 false (n + 4) "restless" [.ref w, v] H Q X := by
  (refine callN_in (show P3.fn "restless" = some f_restless_t from rfl) rfl ?_; unfold f_restless_t)
  (repeat (first | dsimp only [XK, XL] | dsimp only [ZA,ZB,ZC,ZD,ZE,ZF,ZG,ZH,ZI,ZJ,ZK,ZL,ZM,ZN,ZO,ZP,ZQ,ZR,ZS,ZT,ZU,ZV,ZW,ZX,ZY,ZZ,Za,Zb,Zc,Zd,Ze,Zf,Zg,Zh,Zi,Zj,Zk,Zl,Zm,Zn,Zo,Zp,Zq,Zr,Zs,Zt,Zu,Zv,Zw,Zx,Zy,Zz,YA,YB,YC,YD,YE,YF,YG,YH,YI,YJ,YK,YL,YM,YN,YO,YP,YQ,YR,YS,Env.set,cond_true,cond_false,String.reduceBEq,YT,YU,YV,YW,YX,YY,YZ,Ya,Yb,Yc,Yd,Ye,Yf,Yg] | simp only [Yh,Yi,true_and,Yj,Yk,Yl,Ym,Yn,Yo,Yp,Yq,Yr,Yt,Yu,Yv,Yw,Yx,Yy,Yz,XA,XB,XD,XE,XF,XG,beq_self_eq_true,reduceIte,reduceCtorEq,↓reduceIte,XH,XI,XJ]))
  refine s_need_wishes rfl rfl rfl rfl hw ok fun H' hp => ?_
  (repeat (first | dsimp only [XK, XL] | dsimp only [ZA,ZB,ZC,ZD,ZE,ZF,ZG,ZH,ZI,ZJ,ZK,ZL,ZM,ZN,ZO,ZP,ZQ,ZR,ZS,ZT,ZU,ZV,ZW,ZX,ZY,ZZ,Za,Zb,Zc,Zd,Ze,Zf,Zg,Zh,Zi,Zj,Zk,Zl,Zm,Zn,Zo,Zp,Zq,Zr,Zs,Zt,Zu,Zv,Zw,Zx,Zy,Zz,YA,YB,YC,YD,YE,YF,YG,YH,YI,YJ,YK,YL,YM,YN,YO,YP,YQ,YR,YS,Env.set,cond_true,cond_false,String.reduceBEq,YT,YU,YV,YW,YX,YY,YZ,Ya,Yb,Yc,Yd,Ye,Yf,Yg] | simp only [Yh,Yi,true_and,Yj,Yk,Yl,Ym,Yn,Yo,Yp,Yq,Yr,Yt,Yu,Yv,Yw,Yx,Yy,Yz,XA,XB,XD,XE,XF,XG,beq_self_eq_true,reduceIte,reduceCtorEq,↓reduceIte,XH,XI,XJ]))
  exact hv _ _ _ _ _ hp (hw.pre hp) fun H'' hp' => h H'' (hp.trans hp')

theorem s_holds_bad (hw : WH H w W) (ok : WOk W) (hv : PartsBad v H ∨ ∃ a l, v = .ref a ∧ LI H a l ∧ (0 < l.length ∧ l.length ≤ 6) ∧ parB l = true ∧ l.length ≠ W.length) (h : ∀ H', H <+: H' → X "BadParties" H') : callN P3 false (n + 4) "holds" [.ref w, v] H Q X := by
  (refine callN_in (show P3.fn "holds" = some f_holds_t from rfl) rfl ?_; unfold f_holds_t)
  (repeat (first | dsimp only [XK, XL] | dsimp only [ZA,ZB,ZC,ZD,ZE,ZF,ZG,ZH,ZI,ZJ,ZK,ZL,ZM,ZN,ZO,ZP,ZQ,ZR,ZS,ZT,ZU,ZV,ZW,ZX,ZY,ZZ,Za,Zb,Zc,Zd,Ze,Zf,Zg,Zh,Zi,Zj,Zk,Zl,Zm,Zn,Zo,Zp,Zq,Zr,Zs,Zt,Zu,Zv,Zw,Zx,Zy,Zz,YA,YB,YC,YD,YE,YF,YG,YH,YI,YJ,YK,YL,YM,YN,YO,YP,YQ,YR,YS,Env.set,cond_true,cond_false,String.reduceBEq,YT,YU,YV,YW,YX,YY,YZ,Ya,Yb,Yc,Yd,Ye,Yf,Yg] | simp only [Yh,Yi,true_and,Yj,Yk,Yl,Ym,Yn,Yo,Yp,Yq,Yr,Yt,Yu,Yv,Yw,Yx,Yy,Yz,XA,XB,XD,XE,XF,XG,beq_self_eq_true,reduceIte,reduceCtorEq,↓reduceIte,XH,XI,XJ]))
  refine s_need_wishes rfl rfl rfl rfl hw ok fun H' hp => ?_
  (repeat (first | dsimp only [XK, XL] | dsimp only [ZA,ZB,ZC,ZD,ZE,ZF,ZG,ZH,ZI,ZJ,ZK,ZL,ZM,ZN,ZO,ZP,ZQ,ZR,ZS,ZT,ZU,ZV,ZW,ZX,ZY,ZZ,Za,Zb,Zc,Zd,Ze,Zf,Zg,Zh,Zi,Zj,Zk,Zl,Zm,Zn,Zo,Zp,Zq,Zr,Zs,Zt,Zu,Zv,Zw,Zx,Zy,Zz,YA,YB,YC,YD,YE,YF,YG,YH,YI,YJ,YK,YL,YM,YN,YO,YP,YQ,YR,YS,Env.set,cond_true,cond_false,String.reduceBEq,YT,YU,YV,YW,YX,YY,YZ,Ya,Yb,Yc,Yd,Ye,Yf,Yg] | simp only [Yh,Yi,true_and,Yj,Yk,Yl,Ym,Yn,Yo,Yp,Yq,Yr,Yt,Yu,Yv,Yw,Yx,Yy,Yz,XA,XB,XD,XE,XF,XG,beq_self_eq_true,reduceIte,reduceCtorEq,↓reduceIte,XH,XI,XJ]))
  rcases hv with hv | ⟨a, l, rfl, ha, ⟨h0, h6⟩, hb, hl⟩
  · exact hv _ _ _ _ hp fun H'' hp' => h H'' (hp.trans hp')
  · refine s_par_ints rfl rfl rfl (ha.pre hp) h0 h6 (fun _ H'' hp' => ?_) fun q => by rw [hb] at q; cases q
    have eb : ((l.length : Int) == (W.length : Int)) = false := by simpa using fun e => hl (by omega)
    (repeat (first | dsimp only [XK, XL] | dsimp only [ZA,ZB,ZC,ZD,ZE,ZF,ZG,ZH,ZI,ZJ,ZK,ZL,ZM,ZN,ZO,ZP,ZQ,ZR,ZS,ZT,ZU,ZV,ZW,ZX,ZY,ZZ,Za,Zb,Zc,Zd,Ze,Zf,Zg,Zh,Zi,Zj,Zk,Zl,Zm,Zn,Zo,Zp,Zq,Zr,Zs,Zt,Zu,Zv,Zw,Zx,Zy,Zz,YA,YB,YC,YD,YE,YF,YG,YH,YI,YJ,YK,YL,YM,YN,YO,YP,YQ,YR,YS,Env.set,cond_true,cond_false,String.reduceBEq,YT,YU,YV,YW,YX,YY,YZ,Ya,Yb,Yc,Yd,Ye,Yf,Yg] | simp only [Yh,Yi,true_and,Yj,Yk,Yl,Ym,Yn,Yo,Yp,Yq,Yr,Yt,Yu,Yv,Yw,Yx,Yy,Yz,XA,XB,XD,XE,XF,XG,beq_self_eq_true,reduceIte,reduceCtorEq,↓reduceIte,XH,XI,XJ, ((ha.pre hp).pre hp').len, ((hw.pre hp).pre hp').len, eb]))
    exact h H'' (hp.trans hp')

theorem mod_nat {q k : Nat} : ((q : Int).fmod (k : Int)) = ((q % k : Nat) : Int) := by rw [Int.fmod_eq_emod_of_nonneg _ (by omega)]; exact (Int.natCast_emod _ _).symm

theorem s_asked {k q : Nat} (hk : k < 4) (hq : q < 6) (hw : WH H w W) (ok : WOk W) (hI : INN H x d iw mv) (hwi : WH H iw W) (hg : g < W.length) (hv : Bad k q g W v H) (h : ∀ H', H <+: H' → X (clsOf k) H') :
    callN P3 false (n + 8) "_law_asked" [.int (k : Int), .int (q : Int), .ref w, .ref x, v, .int (g : Int)] H Q X := by
  have n1 : ("Inn" ++ "." ++ "turn" : String) = "Inn.turn" := by decide
  have z2 : ((2 : Int) = 0) = False := by simp
  have z3 : ((3 : Int) = 0) = False := by simp
  have z6 : ((6 : Int) = 0) = False := by simp
  have m2 : (q : Int).fmod 2 = ((q % 2 : Nat) : Int) := mod_nat
  have m3 : (q : Int).fmod 3 = ((q % 3 : Nat) : Int) := mod_nat
  have m6 : (q : Int).fmod 6 = ((q : Nat) : Int) := by rw [show (q : Int).fmod 6 = ((q % 6 : Nat) : Int) from mod_nat, Nat.mod_eq_of_lt hq]
  (refine callN_in (show P3.fn "_law_asked" = some f__law_asked_03 from rfl) rfl ?_; unfold f__law_asked_03)
  match k, hk, hv, h with
  | 0, _, hv, h =>
    refine if_ret (g_eq rfl rfl) ?_
    (repeat (first | dsimp only [XK, XL] | dsimp only [ZA,ZB,ZC,ZD,ZE,ZF,ZG,ZH,ZI,ZJ,ZK,ZL,ZM,ZN,ZO,ZP,ZQ,ZR,ZS,ZT,ZU,ZV,ZW,ZX,ZY,ZZ,Za,Zb,Zc,Zd,Ze,Zf,Zg,Zh,Zi,Zj,Zk,Zl,Zm,Zn,Zo,Zp,Zq,Zr,Zs,Zt,Zu,Zv,Zw,Zx,Zy,Zz,YA,YB,YC,YD,YE,YF,YG,YH,YI,YJ,YK,YL,YM,YN,YO,YP,YQ,YR,YS,Env.set,cond_true,cond_false,String.reduceBEq,YT,YU,YV,YW,YX,YY,YZ,Ya,Yb,Yc,Yd,Ye,Yf,Yg] | simp only [Yh,Yi,true_and,Yj,Yk,Yl,Ym,Yn,Yo,Yp,Yq,Yr,Yt,Yu,Yv,Yw,Yx,Yy,Yz,XA,XB,XD,XE,XF,XG,beq_self_eq_true,reduceIte,reduceCtorEq,↓reduceIte,XH,XI,XJ, z6, m6]))
    exact s_guest_asked hq hw ok hI hwi hg hv.1 hv.2 h
  | 1, _, hv, h =>
    refine if_go (g_eq rfl rfl) ?_
    by_cases e : q % 2 = 0
    · refine if_ret (g_and (g_eq rfl rfl) (g_mod (by decide) rfl (by rw [m2, e]; rfl))) ?_
      (repeat (first | dsimp only [XK, XL] | dsimp only [ZA,ZB,ZC,ZD,ZE,ZF,ZG,ZH,ZI,ZJ,ZK,ZL,ZM,ZN,ZO,ZP,ZQ,ZR,ZS,ZT,ZU,ZV,ZW,ZX,ZY,ZZ,Za,Zb,Zc,Zd,Ze,Zf,Zg,Zh,Zi,Zj,Zk,Zl,Zm,Zn,Zo,Zp,Zq,Zr,Zs,Zt,Zu,Zv,Zw,Zx,Zy,Zz,YA,YB,YC,YD,YE,YF,YG,YH,YI,YJ,YK,YL,YM,YN,YO,YP,YQ,YR,YS,Env.set,cond_true,cond_false,String.reduceBEq,YT,YU,YV,YW,YX,YY,YZ,Ya,Yb,Yc,Yd,Ye,Yf,Yg] | simp only [Yh,Yi,true_and,Yj,Yk,Yl,Ym,Yn,Yo,Yp,Yq,Yr,Yt,Yu,Yv,Yw,Yx,Yy,Yz,XA,XB,XD,XE,XF,XG,beq_self_eq_true,reduceIte,reduceCtorEq,↓reduceIte,XH,XI,XJ]))
      exact s_restless_bad hw ok hv h
    · refine if_go (g_and (g_eq rfl rfl) (g_mod (by decide) rfl (by rw [m2]; simpa using fun q => e (by omega)))) (if_ret (g_eq rfl rfl) ?_)
      (repeat (first | dsimp only [XK, XL] | dsimp only [ZA,ZB,ZC,ZD,ZE,ZF,ZG,ZH,ZI,ZJ,ZK,ZL,ZM,ZN,ZO,ZP,ZQ,ZR,ZS,ZT,ZU,ZV,ZW,ZX,ZY,ZZ,Za,Zb,Zc,Zd,Ze,Zf,Zg,Zh,Zi,Zj,Zk,Zl,Zm,Zn,Zo,Zp,Zq,Zr,Zs,Zt,Zu,Zv,Zw,Zx,Zy,Zz,YA,YB,YC,YD,YE,YF,YG,YH,YI,YJ,YK,YL,YM,YN,YO,YP,YQ,YR,YS,Env.set,cond_true,cond_false,String.reduceBEq,YT,YU,YV,YW,YX,YY,YZ,Ya,Yb,Yc,Yd,Ye,Yf,Yg] | simp only [Yh,Yi,true_and,Yj,Yk,Yl,Ym,Yn,Yo,Yp,Yq,Yr,Yt,Yu,Yv,Yw,Yx,Yy,Yz,XA,XB,XD,XE,XF,XG,beq_self_eq_true,reduceIte,reduceCtorEq,↓reduceIte,XH,XI,XJ]))
      (refine callN_in (show P3.fn "calm" = some f_calm from rfl) rfl ?_; unfold f_calm)
      (repeat (first | dsimp only [XK, XL] | dsimp only [ZA,ZB,ZC,ZD,ZE,ZF,ZG,ZH,ZI,ZJ,ZK,ZL,ZM,ZN,ZO,ZP,ZQ,ZR,ZS,ZT,ZU,ZV,ZW,ZX,ZY,ZZ,Za,Zb,Zc,Zd,Ze,Zf,Zg,Zh,Zi,Zj,Zk,Zl,Zm,Zn,Zo,Zp,Zq,Zr,Zs,Zt,Zu,Zv,Zw,Zx,Zy,Zz,YA,YB,YC,YD,YE,YF,YG,YH,YI,YJ,YK,YL,YM,YN,YO,YP,YQ,YR,YS,Env.set,cond_true,cond_false,String.reduceBEq,YT,YU,YV,YW,YX,YY,YZ,Ya,Yb,Yc,Yd,Ye,Yf,Yg] | simp only [Yh,Yi,true_and,Yj,Yk,Yl,Ym,Yn,Yo,Yp,Yq,Yr,Yt,Yu,Yv,Yw,Yx,Yy,Yz,XA,XB,XD,XE,XF,XG,beq_self_eq_true,reduceIte,reduceCtorEq,↓reduceIte,XH,XI,XJ]))
      exact s_restless_bad hw ok hv h
  | 2, _, hv, h =>
    refine if_go (g_eq rfl rfl) (if_go (g_and0 (g_eq rfl rfl)) (if_go (g_eq rfl rfl) ?_))
    have hq3 : q % 3 = 0 ∨ q % 3 = 1 ∨ q % 3 = 2 := by omega
    rcases hq3 with e | e | e
    · refine if_ret (g_and (g_eq rfl rfl) (g_mod (by decide) rfl (by rw [m3, e]; rfl))) ?_
      (repeat (first | dsimp only [XK, XL] | dsimp only [ZA,ZB,ZC,ZD,ZE,ZF,ZG,ZH,ZI,ZJ,ZK,ZL,ZM,ZN,ZO,ZP,ZQ,ZR,ZS,ZT,ZU,ZV,ZW,ZX,ZY,ZZ,Za,Zb,Zc,Zd,Ze,Zf,Zg,Zh,Zi,Zj,Zk,Zl,Zm,Zn,Zo,Zp,Zq,Zr,Zs,Zt,Zu,Zv,Zw,Zx,Zy,Zz,YA,YB,YC,YD,YE,YF,YG,YH,YI,YJ,YK,YL,YM,YN,YO,YP,YQ,YR,YS,Env.set,cond_true,cond_false,String.reduceBEq,YT,YU,YV,YW,YX,YY,YZ,Ya,Yb,Yc,Yd,Ye,Yf,Yg] | simp only [Yh,Yi,true_and,Yj,Yk,Yl,Ym,Yn,Yo,Yp,Yq,Yr,Yt,Yu,Yv,Yw,Yx,Yy,Yz,XA,XB,XD,XE,XF,XG,beq_self_eq_true,reduceIte,reduceCtorEq,↓reduceIte,XH,XI,XJ]))
      (refine callN_in (show P3.fn "rings" = some f_rings_t from rfl) rfl ?_; unfold f_rings_t)
      (repeat (first | dsimp only [XK, XL] | dsimp only [ZA,ZB,ZC,ZD,ZE,ZF,ZG,ZH,ZI,ZJ,ZK,ZL,ZM,ZN,ZO,ZP,ZQ,ZR,ZS,ZT,ZU,ZV,ZW,ZX,ZY,ZZ,Za,Zb,Zc,Zd,Ze,Zf,Zg,Zh,Zi,Zj,Zk,Zl,Zm,Zn,Zo,Zp,Zq,Zr,Zs,Zt,Zu,Zv,Zw,Zx,Zy,Zz,YA,YB,YC,YD,YE,YF,YG,YH,YI,YJ,YK,YL,YM,YN,YO,YP,YQ,YR,YS,Env.set,cond_true,cond_false,String.reduceBEq,YT,YU,YV,YW,YX,YY,YZ,Ya,Yb,Yc,Yd,Ye,Yf,Yg] | simp only [Yh,Yi,true_and,Yj,Yk,Yl,Ym,Yn,Yo,Yp,Yq,Yr,Yt,Yu,Yv,Yw,Yx,Yy,Yz,XA,XB,XD,XE,XF,XG,beq_self_eq_true,reduceIte,reduceCtorEq,↓reduceIte,XH,XI,XJ]))
      rcases hv with hv | ⟨q1, _⟩
      · exact hv _ _ _ _ (List.prefix_refl _) h
      · omega
    · refine if_go (g_and (g_eq rfl rfl) (g_mod (by decide) rfl (by rw [m3, e]; rfl))) (if_ret (g_and (g_eq rfl rfl) (g_mod (by decide) rfl (by rw [m3, e]; rfl))) ?_)
      (repeat (first | dsimp only [XK, XL] | dsimp only [ZA,ZB,ZC,ZD,ZE,ZF,ZG,ZH,ZI,ZJ,ZK,ZL,ZM,ZN,ZO,ZP,ZQ,ZR,ZS,ZT,ZU,ZV,ZW,ZX,ZY,ZZ,Za,Zb,Zc,Zd,Ze,Zf,Zg,Zh,Zi,Zj,Zk,Zl,Zm,Zn,Zo,Zp,Zq,Zr,Zs,Zt,Zu,Zv,Zw,Zx,Zy,Zz,YA,YB,YC,YD,YE,YF,YG,YH,YI,YJ,YK,YL,YM,YN,YO,YP,YQ,YR,YS,Env.set,cond_true,cond_false,String.reduceBEq,YT,YU,YV,YW,YX,YY,YZ,Ya,Yb,Yc,Yd,Ye,Yf,Yg] | simp only [Yh,Yi,true_and,Yj,Yk,Yl,Ym,Yn,Yo,Yp,Yq,Yr,Yt,Yu,Yv,Yw,Yx,Yy,Yz,XA,XB,XD,XE,XF,XG,beq_self_eq_true,reduceIte,reduceCtorEq,↓reduceIte,XH,XI,XJ]))
      exact s_holds_bad hw ok (hv.imp id fun q => q.2) h
    · refine if_go (g_and (g_eq rfl rfl) (g_mod (by decide) rfl (by rw [m3, e]; rfl))) (if_go (g_and (g_eq rfl rfl) (g_mod (by decide) rfl (by rw [m3, e]; rfl))) (if_ret (g_eq rfl rfl) ?_))
      (repeat (first | dsimp only [XK, XL] | dsimp only [ZA,ZB,ZC,ZD,ZE,ZF,ZG,ZH,ZI,ZJ,ZK,ZL,ZM,ZN,ZO,ZP,ZQ,ZR,ZS,ZT,ZU,ZV,ZW,ZX,ZY,ZZ,Za,Zb,Zc,Zd,Ze,Zf,Zg,Zh,Zi,Zj,Zk,Zl,Zm,Zn,Zo,Zp,Zq,Zr,Zs,Zt,Zu,Zv,Zw,Zx,Zy,Zz,YA,YB,YC,YD,YE,YF,YG,YH,YI,YJ,YK,YL,YM,YN,YO,YP,YQ,YR,YS,Env.set,cond_true,cond_false,String.reduceBEq,YT,YU,YV,YW,YX,YY,YZ,Ya,Yb,Yc,Yd,Ye,Yf,Yg] | simp only [Yh,Yi,true_and,Yj,Yk,Yl,Ym,Yn,Yo,Yp,Yq,Yr,Yt,Yu,Yv,Yw,Yx,Yy,Yz,XA,XB,XD,XE,XF,XG,beq_self_eq_true,reduceIte,reduceCtorEq,↓reduceIte,XH,XI,XJ, z2, m2]))
      (refine callN_in (show P3.fn "paired" = some f_paired_t from rfl) rfl ?_; unfold f_paired_t)
      (repeat (first | dsimp only [XK, XL] | dsimp only [ZA,ZB,ZC,ZD,ZE,ZF,ZG,ZH,ZI,ZJ,ZK,ZL,ZM,ZN,ZO,ZP,ZQ,ZR,ZS,ZT,ZU,ZV,ZW,ZX,ZY,ZZ,Za,Zb,Zc,Zd,Ze,Zf,Zg,Zh,Zi,Zj,Zk,Zl,Zm,Zn,Zo,Zp,Zq,Zr,Zs,Zt,Zu,Zv,Zw,Zx,Zy,Zz,YA,YB,YC,YD,YE,YF,YG,YH,YI,YJ,YK,YL,YM,YN,YO,YP,YQ,YR,YS,Env.set,cond_true,cond_false,String.reduceBEq,YT,YU,YV,YW,YX,YY,YZ,Ya,Yb,Yc,Yd,Ye,Yf,Yg] | simp only [Yh,Yi,true_and,Yj,Yk,Yl,Ym,Yn,Yo,Yp,Yq,Yr,Yt,Yu,Yv,Yw,Yx,Yy,Yz,XA,XB,XD,XE,XF,XG,beq_self_eq_true,reduceIte,reduceCtorEq,↓reduceIte,XH,XI,XJ]))
      rcases hv with hv | ⟨q1, _⟩
      · exact hv _ _ _ _ (List.prefix_refl _) h
      · omega
  | 3, _, hv, h =>
    refine if_go (g_eq rfl rfl) (if_go (g_and0 (g_eq rfl rfl)) (if_go (g_eq rfl rfl) (if_go (g_and0 (g_eq rfl rfl)) (if_go (g_and0 (g_eq rfl rfl)) (if_go (g_eq rfl rfl) (last_ret ?_))))))
    (repeat (first | dsimp only [XK, XL] | dsimp only [ZA,ZB,ZC,ZD,ZE,ZF,ZG,ZH,ZI,ZJ,ZK,ZL,ZM,ZN,ZO,ZP,ZQ,ZR,ZS,ZT,ZU,ZV,ZW,ZX,ZY,ZZ,Za,Zb,Zc,Zd,Ze,Zf,Zg,Zh,Zi,Zj,Zk,Zl,Zm,Zn,Zo,Zp,Zq,Zr,Zs,Zt,Zu,Zv,Zw,Zx,Zy,Zz,YA,YB,YC,YD,YE,YF,YG,YH,YI,YJ,YK,YL,YM,YN,YO,YP,YQ,YR,YS,Env.set,cond_true,cond_false,String.reduceBEq,YT,YU,YV,YW,YX,YY,YZ,Ya,Yb,Yc,Yd,Ye,Yf,Yg] | simp only [Yh,Yi,true_and,Yj,Yk,Yl,Ym,Yn,Yo,Yp,Yq,Yr,Yt,Yu,Yv,Yw,Yx,Yy,Yz,XA,XB,XD,XE,XF,XG,beq_self_eq_true,reduceIte,reduceCtorEq,↓reduceIte,XH,XI,XJ, e_meth, hI.inst, n1]))
    exact s_turn_row hI hwi hg hv h

theorem s_told {k q : Nat} (hk : k < 4) (hq : q < 6) (hw : WH H w W) (ok : WOk W) (hI : INN H x d iw mv) (hwi : WH H iw W) (hg : g < W.length) (hv : Bad k q g W v H) (h : ∀ H', H <+: H' → Q (.int (k : Int)) H') :
    callN P3 false (n + 9) "_law_told" [.int (k : Int), .int (q : Int), .ref w, .ref x, v, .int (g : Int)] H Q X := by
  (refine callN_in (show P3.fn "_law_told" = some f__law_told from rfl) rfl ?_; unfold f__law_told)
  (repeat (first | dsimp only [XK, XL] | dsimp only [ZA,ZB,ZC,ZD,ZE,ZF,ZG,ZH,ZI,ZJ,ZK,ZL,ZM,ZN,ZO,ZP,ZQ,ZR,ZS,ZT,ZU,ZV,ZW,ZX,ZY,ZZ,Za,Zb,Zc,Zd,Ze,Zf,Zg,Zh,Zi,Zj,Zk,Zl,Zm,Zn,Zo,Zp,Zq,Zr,Zs,Zt,Zu,Zv,Zw,Zx,Zy,Zz,YA,YB,YC,YD,YE,YF,YG,YH,YI,YJ,YK,YL,YM,YN,YO,YP,YQ,YR,YS,Env.set,cond_true,cond_false,String.reduceBEq,YT,YU,YV,YW,YX,YY,YZ,Ya,Yb,Yc,Yd,Ye,Yf,Yg] | simp only [Yh,Yi,true_and,Yj,Yk,Yl,Ym,Yn,Yo,Yp,Yq,Yr,Yt,Yu,Yv,Yw,Yx,Yy,Yz,XA,XB,XD,XE,XF,XG,beq_self_eq_true,reduceIte,reduceCtorEq,↓reduceIte,XH,XI,XJ]))
  refine s_asked hk hq hw ok hI hwi hg hv fun H' hp => ?_
  match k, hk, h with
  | 0, _, h => exact h H' hp
  | 1, _, h =>
    rw [show clsOf 1 = "BadMates" from rfl, hs_go (by decide)]
    exact ⟨by decide, h H' hp⟩
  | 2, _, h =>
    rw [show clsOf 2 = "BadParties" from rfl, hs_go (by decide), hs_go (by decide)]
    exact ⟨by decide, by decide, h H' hp⟩
  | 3, _, h =>
    rw [show clsOf 3 = "BadWishes" from rfl, hs_go (by decide), hs_go (by decide), hs_go (by decide)]
    exact ⟨by decide, by decide, by decide, h H' hp⟩

theorem s_based03 {k q : Nat} (hk : k < 4) (hq : q < 6) (hw : WH H w W) (ok : WOk W) (hI : INN H x d iw mv) (hwi : WH H iw W) (hg : g < W.length) (hv : Bad k q g W v H) (h : ∀ H', H <+: H' → Q (.bool true) H') :
    callN P3 false (n + 9) "_law_based" [.int (k : Int), .int (q : Int), .ref w, .ref x, v, .int (g : Int)] H Q X := by
  (refine callN_in (show P3.fn "_law_based" = some f__law_based from rfl) rfl ?_; unfold f__law_based)
  dsimp only [ss_cons, s_based, List.map]
  (repeat (first | dsimp only [XK, XL] | dsimp only [ZA,ZB,ZC,ZD,ZE,ZF,ZG,ZH,ZI,ZJ,ZK,ZL,ZM,ZN,ZO,ZP,ZQ,ZR,ZS,ZT,ZU,ZV,ZW,ZX,ZY,ZZ,Za,Zb,Zc,Zd,Ze,Zf,Zg,Zh,Zi,Zj,Zk,Zl,Zm,Zn,Zo,Zp,Zq,Zr,Zs,Zt,Zu,Zv,Zw,Zx,Zy,Zz,YA,YB,YC,YD,YE,YF,YG,YH,YI,YJ,YK,YL,YM,YN,YO,YP,YQ,YR,YS,Env.set,cond_true,cond_false,String.reduceBEq,YT,YU,YV,YW,YX,YY,YZ,Ya,Yb,Yc,Yd,Ye,Yf,Yg] | simp only [Yh,Yi,true_and,Yj,Yk,Yl,Ym,Yn,Yo,Yp,Yq,Yr,Yt,Yu,Yv,Yw,Yx,Yy,Yz,XA,XB,XD,XE,XF,XG,beq_self_eq_true,reduceIte,reduceCtorEq,↓reduceIte,XH,XI,XJ]))
  refine s_asked hk hq hw ok hI hwi hg hv fun H' hp => ?_
  match k, hk, h with
  | 0, _, h => exact ⟨by decide, h H' hp⟩
  | 1, _, h => exact ⟨by decide, h H' hp⟩
  | 2, _, h => exact ⟨by decide, h H' hp⟩
  | 3, _, h => exact ⟨by decide, h H' hp⟩

end
end Mine

namespace Mine
open PySem

theorem get_at (H : Hp) (l : List O) (i : Nat) : (H ++ l)[H.length + i]? = l[i]? := by rw [List.getElem?_append_right (by omega)]; congr 1; omega
theorem get_at0 (H : Hp) (l : List O) : (H ++ l)[H.length]? = l[0]? := get_at H l 0
theorem item_of {H : Hp} {a r : Nat} {vs : List V} (h : H[a]? = some (.list vs)) (hr : r < vs.length) : itemV (.ref a) (.int (r : Int)) H = some (vs.getD r .none) :=
  item_seq (seqOf_list h) (by rw [List.getD_eq_getElem?_getD, List.getElem?_eq_getElem hr]; rfl)
noncomputable def AllV (p : V → Prop) : List V → Prop
  | [] => True
  | v :: vs => p v ∧ AllV p vs
theorem AllV.get {p : V → Prop} : ∀ {vs : List V} {r : Nat}, AllV p vs → r < vs.length → p (vs.getD r .none)
  | v :: vs, 0, h, _ => h.1
  | v :: vs, r + 1, h, hr => AllV.get (vs := vs) (r := r) h.2 (Nat.lt_of_succ_lt_succ hr)
theorem non_list {H : Hp} {a : Nat} {xs : List V} (h : H[a]? = some (.list xs)) : ∀ H', H <+: H' → NonG (.ref a) H' := fun H' hp => .inl (by simp [isInst, isObj, typesOf, pre_get hp h])
theorem non_dict {H : Hp} {a : Nat} {xs : List (Int × V)} (h : H[a]? = some (.dict xs)) : ∀ H', H <+: H' → NonG (.ref a) H' := fun H' hp => .inl (by simp [isInst, isObj, typesOf, pre_get hp h])
theorem tup_not {H H' : Hp} (hp : H <+: H') {a : Nat} {xs : List V} (h : H[a]? = some (.tuple xs)) : isInst (.ref a) ["list"] H' = some false := by simp [isInst, isObj, typesOf, pre_get hp h]

section
variable {n : Nat} {H : Hp} {Q : Post} {X : XP}

theorem s_bad_row {m g way : Nat} (hg : g < m) (hm : m ≤ 6) (h : ∀ H' v, H <+: H' → RowBad P3 false v g m H' → Q v H') : callN P3 false (n + 1) "_law_bad_row" [.int (m : Int), .int (g : Int), .int (way : Int)] H Q X := by
  have z : ((12 : Int) = 0) = False := by simp
  have mw : (way : Int).fmod 12 = ((way % 12 : Nat) : Int) := mod_nat
  have l1 : (1 ≤ lim) = True := by simp [lim]
  have l2 : (2 ≤ lim) = True := by simp [lim]
  have l12 : (12 ≤ lim) = True := by simp [lim]
  obtain ⟨r, er⟩ : ∃ r, r = way % 12 := ⟨_, rfl⟩
  have hr : r < 12 := by omega
  (refine callN_in (show P3.fn "_law_bad_row" = some f__law_bad_row from rfl) rfl ?_; unfold f__law_bad_row)
  (repeat (first | dsimp only [XK, XL] | dsimp only [ZA,ZB,ZC,ZD,ZE,ZF,ZG,ZH,ZI,ZJ,ZK,ZL,ZM,ZN,ZO,ZP,ZQ,ZR,ZS,ZT,ZU,ZV,ZW,ZX,ZY,ZZ,Za,Zb,Zc,Zd,Ze,Zf,Zg,Zh,Zi,Zj,Zk,Zl,Zm,Zn,Zo,Zp,Zq,Zr,Zs,Zt,Zu,Zv,Zw,Zx,Zy,Zz,YA,YB,YC,YD,YE,YF,YG,YH,YI,YJ,YK,YL,YM,YN,YO,YP,YQ,YR,YS,Env.set,cond_true,cond_false,String.reduceBEq,YT,YU,YV,YW,YX,YY,YZ,Ya,Yb,Yc,Yd,Ye,Yf,Yg] | simp only [Yh,Yi,true_and,Yj,Yk,Yl,Ym,Yn,Yo,Yp,Yq,Yr,Yt,Yu,Yv,Yw,Yx,Yy,Yz,XA,XB,XD,XE,XF,XG,beq_self_eq_true,reduceIte,reduceCtorEq,↓reduceIte,XH,XI,XJ, List.append_assoc, List.cons_append, List.nil_append, List.length_append, Nat.reduceAdd, z, mw, l1, l2, l12, ← er, Nat.add_zero]))
  rw [item_of ((get_at H _ _).trans rfl) hr]
  dsimp only [Option.map_some, oE_some]
  refine h _ _ (List.prefix_append _ _) ?_
  have other : ∀ {t : V} {H' : Hp}, (∀ H'', H' <+: H'' → isInst t ["list"] H'' = some false) → RowBad P3 false t g m H' := fun q => rowBad_other rfl q
  have thing : ∀ {a : Nat} {t : V} {H' : Hp}, H'[a]? = some (.list [t]) → (∀ H'', H' <+: H'' → NonG t H'') → RowBad P3 false (.ref a) g m H' := fun q1 q2 => rowBad_thing rfl rfl (l := []) (B := []) q1 (by simp [lim]) (by simp [rowB]) q2
  have intsK : ∀ {a : Nat} {l : List Int} {H' : Hp}, LI H' a l → l.length ≤ 6 → rowB l g m = false → RowBad P3 false (.ref a) g m H' := fun q1 q2 q3 => rowBad_ints rfl rfl q1 (by unfold lim; omega) q3
  clear mw er h
  refine AllV.get (p := fun t => RowBad P3 false t g m _) ?_ hr
  exact ⟨intsK (l := [(g : Int)]) ((get_at0 _ _).trans rfl) (by simp) (by simp [rowB]),
    intsK (l := [(m : Int)]) ((get_at _ _ _).trans rfl) (by simp) (by simp [rowB]),
    intsK (l := [-1]) ((get_at _ _ _).trans rfl) (by simp) (by simp [rowB]),
    thing ((get_at _ _ _).trans rfl) fun _ _ => .inr ⟨_, rfl⟩,
    thing ((get_at _ _ _).trans rfl) fun _ _ => .inl (by simp [isInst, isObj, typesOf]),
    other fun _ _ => by simp [isInst, isObj, typesOf],
    other fun _ hp => tup_not hp ((get_at _ _ _).trans rfl),
    intsK (l := [(m : Int), (g : Int)]) ((get_at _ _ _).trans rfl) (by simp) (by simp [rowB]),
    other fun _ _ => by simp [isInst, isObj, typesOf],
    other fun _ _ => by simp [isInst, isObj, typesOf],
    thing ((get_at _ _ _).trans rfl) (non_list ((get_at _ _ _).trans rfl)),
    thing (t := .ref (H.length + 9)) ((get_at H _ 10).trans rfl) (non_dict ((get_at H _ 9).trans rfl)), trivial⟩

end
end Mine

namespace Mine
open PySem

noncomputable def ringA (m : Nat) : List Int := (List.range m).map fun k => (((k + 1) % m : Nat) : Int)
theorem ringA_len (m : Nat) : (ringA m).length = m := by simp [ringA]
theorem parB_twice {A B : List Int} {x : Int} (h : x ∈ A ∨ x ∈ B) : parB (A ++ [x] ++ B) = false := by
  unfold parB
  refine decide_eq_false fun ⟨_, p⟩ => ?_
  rw [List.append_assoc, List.nodup_append] at p
  rcases h with h | h
  · exact p.2.2 x h x (by simp) rfl
  · exact (List.nodup_cons.mp p.2.1).1 h

theorem sl_from {H : Hp} {a : Nat} {is : List Int} (h : LI H a is) (i : Nat) : sliceV (.ref a) (some (i : Int)) none H = some (.ref H.length, H ++ [.list ((is.drop i).map .int)]) := by
  rw [sl_ref h, cut_from, List.map_drop]
theorem item_any {H : Hp} {a : Nat} {is : List Int} (h : LI H a is) {i : Int} (h0 : -(is.length : Int) ≤ i) (h1 : i < is.length) : ∃ x ∈ is, itemV (.ref a) (.int i) H = some (.int x) := by
  have : ∃ k, normIdx i is.length = some k ∧ k < is.length := by
    unfold normIdx
    by_cases hi : i < 0
    · refine ⟨(i + is.length).toNat, ?_, by omega⟩
      simp only [hi, if_true]
      rw [if_pos (by omega)]
    · refine ⟨i.toNat, ?_, by omega⟩
      simp only [hi, if_false]
      rw [if_pos (by omega)]
  obtain ⟨k, e, hk⟩ := this
  refine ⟨is[k], List.getElem_mem hk, ?_⟩
  unfold itemV
  simp only [h.seq, Option.bind_some, List.length_map, e, List.getElem?_map, List.getElem?_eq_getElem hk, Option.map_some]

section
variable {n : Nat} {H : Hp} {Q : Post} {X : XP}

theorem par_other {t : V} (ht : ∀ H', H <+: H' → isInst t ["list"] H' = some false) : PartsBad t H := fun n H' Q X hp h => s_par_other rfl (ht H' hp) (h H' (List.prefix_refl _))
theorem par_len {a : Nat} {xs : List V} (ha : H[a]? = some (.list xs)) (hl : xs.length = 0 ∨ 6 < xs.length) : PartsBad (.ref a) H := fun n H' Q X hp h => s_par_len rfl rfl (pre_get hp ha) hl (h H' (List.prefix_refl _))
theorem par_thing {a : Nat} {l : List Int} {t : V} {B : List V} (ha : H[a]? = some (.list (l.map .int ++ t :: B))) (hl : (l.map V.int ++ t :: B).length ≤ 6) (ht : NG t (l.map V.int ++ t :: B).length H) : PartsBad (.ref a) H := fun n H' Q X hp h =>
  s_par_thing rfl rfl rfl (pre_get hp ha) hl (ht.pre hp) h
theorem par_ints {a : Nat} {l : List Int} (ha : LI H a l) (hb : parB l = false) : PartsBad (.ref a) H := fun n H' Q X hp h => by
  by_cases h0 : l.length = 0 ∨ 6 < l.length
  · exact s_par_len rfl rfl (ha.pre hp) (by rw [List.length_map]; exact h0) (h H' (List.prefix_refl _))
  · exact s_par_ints rfl rfl rfl (ha.pre hp) (by omega) (by omega) (fun q => by rw [hb] at q; cases q) fun _ => h

theorem s_bad_after {m g r : Nat} (hg : g < m) (hm : m ≤ 6) (hr : r < 13) (h : ∀ H' v, H <+: H' → PartsBad v H' → Q v H') : callN P3 false (n + 1) "_law_bad_after" [.int (m : Int), .int (g : Int), .int (r : Int)] H Q X := by
  have zm : ((m : Int) = 0) = False := by simp; omega
  have hlm : m ≤ lim := by unfold lim; omega
  (refine callN_in (show P3.fn "_law_bad_after" = some f__law_bad_after from rfl) rfl ?_; unfold f__law_bad_after)
  refine wSs_step fun K hn hr' => ?_
  (repeat (first | dsimp only [XK, XL] | dsimp only [ZA,ZB,ZC,ZD,ZE,ZF,ZG,ZH,ZI,ZJ,ZK,ZL,ZM,ZN,ZO,ZP,ZQ,ZR,ZS,ZT,ZU,ZV,ZW,ZX,ZY,ZZ,Za,Zb,Zc,Zd,Ze,Zf,Zg,Zh,Zi,Zj,Zk,Zl,Zm,Zn,Zo,Zp,Zq,Zr,Zs,Zt,Zu,Zv,Zw,Zx,Zy,Zz,YA,YB,YC,YD,YE,YF,YG,YH,YI,YJ,YK,YL,YM,YN,YO,YP,YQ,YR,YS,Env.set,cond_true,cond_false,String.reduceBEq,YT,YU,YV,YW,YX,YY,YZ,Ya,Yb,Yc,Yd,Ye,Yf,Yg] | simp only [Yh,Yi,true_and,Yj,Yk,Yl,Ym,Yn,Yo,Yp,Yq,Yr,Yt,Yu,Yv,Yw,Yx,Yy,Yz,XA,XB,XD,XE,XF,XG,beq_self_eq_true,reduceIte,reduceCtorEq,↓reduceIte,XH,XI,XJ, range_nat hlm]))
  refine wLoop_idx (fun j acc H' => H' = H ∧ acc = ((List.range j).map fun k => (((k + 1) % m : Nat) : Int)).map V.int) ⟨rfl, rfl⟩ (fun j v acc H' hv hI => ⟨trivial, fun k' k1 k2 => ?_⟩) fun acc H' hI => ⟨trivial, ?_⟩
  · obtain ⟨rfl, rfl⟩ := hI
    obtain ⟨hj, rfl⟩ := rng_get hv
    have mj : ((j : Int) + 1).fmod (m : Int) = (((j + 1) % m : Nat) : Int) := mod_nat (q := j + 1)
    (repeat (first | dsimp only [XK, XL] | dsimp only [ZA,ZB,ZC,ZD,ZE,ZF,ZG,ZH,ZI,ZJ,ZK,ZL,ZM,ZN,ZO,ZP,ZQ,ZR,ZS,ZT,ZU,ZV,ZW,ZX,ZY,ZZ,Za,Zb,Zc,Zd,Ze,Zf,Zg,Zh,Zi,Zj,Zk,Zl,Zm,Zn,Zo,Zp,Zq,Zr,Zs,Zt,Zu,Zv,Zw,Zx,Zy,Zz,YA,YB,YC,YD,YE,YF,YG,YH,YI,YJ,YK,YL,YM,YN,YO,YP,YQ,YR,YS,Env.set,cond_true,cond_false,String.reduceBEq,YT,YU,YV,YW,YX,YY,YZ,Ya,Yb,Yc,Yd,Ye,Yf,Yg] | simp only [Yh,Yi,true_and,Yj,Yk,Yl,Ym,Yn,Yo,Yp,Yq,Yr,Yt,Yu,Yv,Yw,Yx,Yy,Yz,XA,XB,XD,XE,XF,XG,beq_self_eq_true,reduceIte,reduceCtorEq,↓reduceIte,XH,XI,XJ, zm, mj]))
    refine k1 _ _ ⟨rfl, ?_⟩
    rw [List.range_succ]
    simp
  obtain ⟨rfl, rfl⟩ := hI
  rw [rng_len]
  refine hn _ _ ?_
  clear hn hr' K
  have ha : LI (H' ++ [O.list ((ringA m).map V.int)]) H'.length (ringA m) := LI.new _ _
  have hp : H' <+: H' ++ [O.list ((ringA m).map V.int)] := pre_new _ _
  change wSs _ _ _ (H' ++ [O.list ((ringA m).map V.int)]) _ _
  generalize H' ++ [O.list ((ringA m).map V.int)] = H1 at ha hp ⊢
  generalize H'.length = a at ha ⊢
  have hal := ringA_len m
  generalize ringA m = A at ha hal ⊢
  obtain ⟨x, hx, ex⟩ := item_any (i := (g : Int) - 1) (ha.pre (pre_new H1 (.list ((A.take g).map .int)))) (by omega) (by omega)
  have l1 : (1 ≤ lim) = True := by simp [lim]
  -- twice
  refine wSs_step fun K hn hr' => ?_
  (repeat (first | dsimp only [XK, XL] | dsimp only [ZA,ZB,ZC,ZD,ZE,ZF,ZG,ZH,ZI,ZJ,ZK,ZL,ZM,ZN,ZO,ZP,ZQ,ZR,ZS,ZT,ZU,ZV,ZW,ZX,ZY,ZZ,Za,Zb,Zc,Zd,Ze,Zf,Zg,Zh,Zi,Zj,Zk,Zl,Zm,Zn,Zo,Zp,Zq,Zr,Zs,Zt,Zu,Zv,Zw,Zx,Zy,Zz,YA,YB,YC,YD,YE,YF,YG,YH,YI,YJ,YK,YL,YM,YN,YO,YP,YQ,YR,YS,Env.set,cond_true,cond_false,String.reduceBEq,YT,YU,YV,YW,YX,YY,YZ,Ya,Yb,Yc,Yd,Ye,Yf,Yg] | simp only [Yh,Yi,true_and,Yj,Yk,Yl,Ym,Yn,Yo,Yp,Yq,Yr,Yt,Yu,Yv,Yw,Yx,Yy,Yz,XA,XB,XD,XE,XF,XG,beq_self_eq_true,reduceIte,reduceCtorEq,↓reduceIte,XH,XI,XJ, ha.sliceTo g, ex]))
  have p1 : H1 <+: H1 ++ [O.list ((A.take g).map .int)] := pre_new _ _
  have g1 : (H1 ++ [O.list ((A.take g).map .int)])[H1.length]? = some (.list ((A.take g).map .int)) := get_new _ _
  generalize hN1 : H1 ++ [O.list ((A.take g).map .int)] = N1 at p1 g1 ⊢
  have p2 : N1 <+: N1 ++ [O.list [.int x]] := pre_new _ _
  have g2 : (N1 ++ [O.list [.int x]])[N1.length]? = some (.list [.int x]) := get_new _ _
  generalize N1 ++ [O.list [.int x]] = N2 at p2 g2 ⊢
  rw [add_at (pre_get p2 g1) g2 (by simp only [List.length_map, List.length_take, List.length_cons, List.length_nil]; unfold lim; omega)]
  (repeat (first | dsimp only [XK, XL] | dsimp only [ZA,ZB,ZC,ZD,ZE,ZF,ZG,ZH,ZI,ZJ,ZK,ZL,ZM,ZN,ZO,ZP,ZQ,ZR,ZS,ZT,ZU,ZV,ZW,ZX,ZY,ZZ,Za,Zb,Zc,Zd,Ze,Zf,Zg,Zh,Zi,Zj,Zk,Zl,Zm,Zn,Zo,Zp,Zq,Zr,Zs,Zt,Zu,Zv,Zw,Zx,Zy,Zz,YA,YB,YC,YD,YE,YF,YG,YH,YI,YJ,YK,YL,YM,YN,YO,YP,YQ,YR,YS,Env.set,cond_true,cond_false,String.reduceBEq,YT,YU,YV,YW,YX,YY,YZ,Ya,Yb,Yc,Yd,Ye,Yf,Yg] | simp only [Yh,Yi,true_and,Yj,Yk,Yl,Ym,Yn,Yo,Yp,Yq,Yr,Yt,Yu,Yv,Yw,Yx,Yy,Yz,XA,XB,XD,XE,XF,XG,beq_self_eq_true,reduceIte,reduceCtorEq,↓reduceIte,XH,XI,XJ]))
  have p3 : N2 <+: N2 ++ [O.list ((A.take g).map V.int ++ [.int x])] := pre_new _ _
  have g3 : (N2 ++ [O.list ((A.take g).map V.int ++ [.int x])])[N2.length]? = some (.list ((A.take g).map V.int ++ [.int x])) := get_new _ _
  generalize N2 ++ [O.list ((A.take g).map V.int ++ [.int x])] = N3 at p3 g3 ⊢
  have ha3 := ((ha.pre p1).pre p2).pre p3
  rw [sl_from ha3 g]
  (repeat (first | dsimp only [XK, XL] | dsimp only [ZA,ZB,ZC,ZD,ZE,ZF,ZG,ZH,ZI,ZJ,ZK,ZL,ZM,ZN,ZO,ZP,ZQ,ZR,ZS,ZT,ZU,ZV,ZW,ZX,ZY,ZZ,Za,Zb,Zc,Zd,Ze,Zf,Zg,Zh,Zi,Zj,Zk,Zl,Zm,Zn,Zo,Zp,Zq,Zr,Zs,Zt,Zu,Zv,Zw,Zx,Zy,Zz,YA,YB,YC,YD,YE,YF,YG,YH,YI,YJ,YK,YL,YM,YN,YO,YP,YQ,YR,YS,Env.set,cond_true,cond_false,String.reduceBEq,YT,YU,YV,YW,YX,YY,YZ,Ya,Yb,Yc,Yd,Ye,Yf,Yg] | simp only [Yh,Yi,true_and,Yj,Yk,Yl,Ym,Yn,Yo,Yp,Yq,Yr,Yt,Yu,Yv,Yw,Yx,Yy,Yz,XA,XB,XD,XE,XF,XG,beq_self_eq_true,reduceIte,reduceCtorEq,↓reduceIte,XH,XI,XJ]))
  have p4 : N3 <+: N3 ++ [O.list ((A.drop g).map .int)] := pre_new _ _
  have g4 : (N3 ++ [O.list ((A.drop g).map .int)])[N3.length]? = some (.list ((A.drop g).map .int)) := get_new _ _
  generalize N3 ++ [O.list ((A.drop g).map .int)] = N4 at p4 g4 ⊢
  rw [add_at (pre_get p4 g3) g4 (by simp only [List.length_append, List.length_map, List.length_take, List.length_drop, List.length_cons, List.length_nil]; unfold lim; omega)]
  (repeat (first | dsimp only [XK, XL] | dsimp only [ZA,ZB,ZC,ZD,ZE,ZF,ZG,ZH,ZI,ZJ,ZK,ZL,ZM,ZN,ZO,ZP,ZQ,ZR,ZS,ZT,ZU,ZV,ZW,ZX,ZY,ZZ,Za,Zb,Zc,Zd,Ze,Zf,Zg,Zh,Zi,Zj,Zk,Zl,Zm,Zn,Zo,Zp,Zq,Zr,Zs,Zt,Zu,Zv,Zw,Zx,Zy,Zz,YA,YB,YC,YD,YE,YF,YG,YH,YI,YJ,YK,YL,YM,YN,YO,YP,YQ,YR,YS,Env.set,cond_true,cond_false,String.reduceBEq,YT,YU,YV,YW,YX,YY,YZ,Ya,Yb,Yc,Yd,Ye,Yf,Yg] | simp only [Yh,Yi,true_and,Yj,Yk,Yl,Ym,Yn,Yo,Yp,Yq,Yr,Yt,Yu,Yv,Yw,Yx,Yy,Yz,XA,XB,XD,XE,XF,XG,beq_self_eq_true,reduceIte,reduceCtorEq,↓reduceIte,XH,XI,XJ]))
  refine hn _ _ ?_
  clear hn hr' K
  have p5 : N4 <+: N4 ++ [O.list ((A.take g).map V.int ++ [.int x] ++ (A.drop g).map V.int)] := pre_new _ _
  have g5 : LI (N4 ++ [O.list ((A.take g).map V.int ++ [.int x] ++ (A.drop g).map V.int)]) N4.length (A.take g ++ [x] ++ A.drop g) := by
    unfold LI; rw [get_new]; simp
  generalize N4 ++ [O.list ((A.take g).map V.int ++ [.int x] ++ (A.drop g).map V.int)] = N5 at p5 g5 ⊢
  have ha5 := (ha3.pre p4).pre p5
  have p05 : H' <+: N5 := hp.trans (p1.trans (p2.trans (p3.trans (p4.trans p5))))
  clear ha3 g1 g2 g3 g4 p1 p2 p3 p4 p5 hN1 ex
  generalize N4.length = t5 at g5 ⊢
  have tb : parB (A.take g ++ [x] ++ A.drop g) = false := parB_twice (by rw [← List.mem_append, List.take_append_drop]; exact hx)
  have l6 : (6 ≤ lim) = True := by simp [lim]
  have hlA : listOf? N5 a = some (A.map .int) := listOf_eq ha5
  by_cases h6 : r < 6
  · have d6 : decide ((r : Int) < 6) = true := decide_eq_true (by omega)
    have r7 : rangeOf [.int 7] = some (rangeI 0 7 1) := by decide
    have q7 : ((rangeI 0 7 1).length ≤ lim) = True := by decide
    have lA : ∀ t : List O, listOf? (N5 ++ t) a = some (A.map .int) := fun t => listOf_eq (pre_get (List.prefix_append _ _) ha5)
    refine if_ret (g_lt rfl d6) ?_
    (repeat (first | dsimp only [XK, XL] | dsimp only [ZA,ZB,ZC,ZD,ZE,ZF,ZG,ZH,ZI,ZJ,ZK,ZL,ZM,ZN,ZO,ZP,ZQ,ZR,ZS,ZT,ZU,ZV,ZW,ZX,ZY,ZZ,Za,Zb,Zc,Zd,Ze,Zf,Zg,Zh,Zi,Zj,Zk,Zl,Zm,Zn,Zo,Zp,Zq,Zr,Zs,Zt,Zu,Zv,Zw,Zx,Zy,Zz,YA,YB,YC,YD,YE,YF,YG,YH,YI,YJ,YK,YL,YM,YN,YO,YP,YQ,YR,YS,Env.set,cond_true,cond_false,String.reduceBEq,YT,YU,YV,YW,YX,YY,YZ,Ya,Yb,Yc,Yd,Ye,Yf,Yg] | simp only [Yh,Yi,true_and,Yj,Yk,Yl,Ym,Yn,Yo,Yp,Yq,Yr,Yt,Yu,Yv,Yw,Yx,Yy,Yz,XA,XB,XD,XE,XF,XG,beq_self_eq_true,reduceIte,reduceCtorEq,↓reduceIte,XH,XI,XJ, List.append_assoc, List.cons_append, List.nil_append, List.length_append, Nat.reduceAdd, Nat.add_zero, r7, q7, l6, lA]))
    rw [item_of ((get_at N5 _ 3).trans rfl) h6]
    dsimp only [Option.map_some, oE_some, kS_some]
    refine h _ _ (p05.trans (List.prefix_append _ _)) ?_
    refine AllV.get (p := fun t => PartsBad t _) ?_ h6
    exact ⟨par_len (xs := []) ((get_at0 N5 _).trans rfl) (.inl rfl),
      par_len ((get_at N5 _ 1).trans rfl) (.inr (by decide)),
      par_other fun _ hp => tup_not hp ((get_at N5 _ 2).trans rfl),
      par_other fun _ _ => by simp [isInst, isObj, typesOf],
      par_other fun _ _ => by simp [isInst, isObj, typesOf],
      par_ints (g5.pre (List.prefix_append _ _)) tb, trivial⟩
  have d6 : decide ((r : Int) < 6) = false := decide_eq_false (by omega)
  refine if_go (g_lt rfl d6) ?_
  by_cases h12 : r = 12
  · subst h12
    exact if_ret (g_eq rfl rfl) (h _ _ p05 (par_other fun _ _ => by simp [isInst, isObj, typesOf]))
  · have d12 : ((r : Int) == 12) = false := by simpa using fun q => h12 (by omega)
    obtain ⟨i, hi, ei⟩ : ∃ i : Nat, i < 6 ∧ (r : Int) - 6 = (i : Int) := ⟨r - 6, by omega, by omega⟩
    refine if_go (g_eq rfl d12) (last_ret ?_)
    (repeat (first | dsimp only [XK, XL] | dsimp only [ZA,ZB,ZC,ZD,ZE,ZF,ZG,ZH,ZI,ZJ,ZK,ZL,ZM,ZN,ZO,ZP,ZQ,ZR,ZS,ZT,ZU,ZV,ZW,ZX,ZY,ZZ,Za,Zb,Zc,Zd,Ze,Zf,Zg,Zh,Zi,Zj,Zk,Zl,Zm,Zn,Zo,Zp,Zq,Zr,Zs,Zt,Zu,Zv,Zw,Zx,Zy,Zz,YA,YB,YC,YD,YE,YF,YG,YH,YI,YJ,YK,YL,YM,YN,YO,YP,YQ,YR,YS,Env.set,cond_true,cond_false,String.reduceBEq,YT,YU,YV,YW,YX,YY,YZ,Ya,Yb,Yc,Yd,Ye,Yf,Yg] | simp only [Yh,Yi,true_and,Yj,Yk,Yl,Ym,Yn,Yo,Yp,Yq,Yr,Yt,Yu,Yv,Yw,Yx,Yy,Yz,XA,XB,XD,XE,XF,XG,beq_self_eq_true,reduceIte,reduceCtorEq,↓reduceIte,XH,XI,XJ, ha5.sliceTo g, ei]))
    have p1 : N5 <+: N5 ++ [O.list ((A.take g).map .int)] := pre_new _ _
    have g1 : (N5 ++ [O.list ((A.take g).map .int)])[N5.length]? = some (.list ((A.take g).map .int)) := get_new _ _
    generalize N5 ++ [O.list ((A.take g).map .int)] = N6 at p1 g1 ⊢
    (repeat (first | dsimp only [XK, XL] | dsimp only [ZA,ZB,ZC,ZD,ZE,ZF,ZG,ZH,ZI,ZJ,ZK,ZL,ZM,ZN,ZO,ZP,ZQ,ZR,ZS,ZT,ZU,ZV,ZW,ZX,ZY,ZZ,Za,Zb,Zc,Zd,Ze,Zf,Zg,Zh,Zi,Zj,Zk,Zl,Zm,Zn,Zo,Zp,Zq,Zr,Zs,Zt,Zu,Zv,Zw,Zx,Zy,Zz,YA,YB,YC,YD,YE,YF,YG,YH,YI,YJ,YK,YL,YM,YN,YO,YP,YQ,YR,YS,Env.set,cond_true,cond_false,String.reduceBEq,YT,YU,YV,YW,YX,YY,YZ,Ya,Yb,Yc,Yd,Ye,Yf,Yg] | simp only [Yh,Yi,true_and,Yj,Yk,Yl,Ym,Yn,Yo,Yp,Yq,Yr,Yt,Yu,Yv,Yw,Yx,Yy,Yz,XA,XB,XD,XE,XF,XG,beq_self_eq_true,reduceIte,reduceCtorEq,↓reduceIte,XH,XI,XJ, List.append_assoc, List.cons_append, List.nil_append, List.length_append, Nat.reduceAdd, Nat.add_zero, l6, l1]))
    rw [item_of ((get_at N6 _ 1).trans rfl) hi]
    dsimp only [Option.map_some, oE_some, kS_some]
    have p2 : N6 <+: N6 ++ [O.list [V.int 0], O.list [V.int (m : Int), V.int (-1), V.bool ((g : Int) == 0), V.str (Str.ofString "0"), V.none, V.ref N6.length]] := List.prefix_append _ _
    have ng : ∀ {H'}, N6 ++ [O.list [V.int 0], O.list [V.int (m : Int), V.int (-1), V.bool ((g : Int) == 0), V.str (Str.ofString "0"), V.none, V.ref N6.length]] <+: H' → NG ([V.int (m : Int), V.int (-1), V.bool ((g : Int) == 0), V.str (Str.ofString "0"), V.none, V.ref N6.length].getD i .none) m H' := by
      intro H' hq
      refine AllV.get (p := fun t => NG t m H') ?_ hi
      exact ⟨NG.int (by omega), NG.int (by omega), NG.bool, NG.str, NG.none, NG.list (pre_get hq ((get_at0 N6 _).trans rfl)), trivial⟩
    generalize N6 ++ [O.list [V.int 0], O.list [V.int (m : Int), V.int (-1), V.bool ((g : Int) == 0), V.str (Str.ofString "0"), V.none, V.ref N6.length]] = N7 at p2 ng ⊢
    generalize [V.int (m : Int), V.int (-1), V.bool ((g : Int) == 0), V.str (Str.ofString "0"), V.none, V.ref N6.length].getD i .none = t at ng ⊢
    (repeat (first | dsimp only [XK, XL] | dsimp only [ZA,ZB,ZC,ZD,ZE,ZF,ZG,ZH,ZI,ZJ,ZK,ZL,ZM,ZN,ZO,ZP,ZQ,ZR,ZS,ZT,ZU,ZV,ZW,ZX,ZY,ZZ,Za,Zb,Zc,Zd,Ze,Zf,Zg,Zh,Zi,Zj,Zk,Zl,Zm,Zn,Zo,Zp,Zq,Zr,Zs,Zt,Zu,Zv,Zw,Zx,Zy,Zz,YA,YB,YC,YD,YE,YF,YG,YH,YI,YJ,YK,YL,YM,YN,YO,YP,YQ,YR,YS,Env.set,cond_true,cond_false,String.reduceBEq,YT,YU,YV,YW,YX,YY,YZ,Ya,Yb,Yc,Yd,Ye,Yf,Yg] | simp only [Yh,Yi,true_and,Yj,Yk,Yl,Ym,Yn,Yo,Yp,Yq,Yr,Yt,Yu,Yv,Yw,Yx,Yy,Yz,XA,XB,XD,XE,XF,XG,beq_self_eq_true,reduceIte,reduceCtorEq,↓reduceIte,XH,XI,XJ, l1]))
    have p3 : N7 <+: N7 ++ [O.list [t]] := pre_new _ _
    have g3 : (N7 ++ [O.list [t]])[N7.length]? = some (.list [t]) := get_new _ _
    generalize N7 ++ [O.list [t]] = N8 at p3 g3 ⊢
    rw [add_at (pre_get p3 (pre_get p2 g1)) g3 (by simp only [List.length_map, List.length_take, List.length_cons, List.length_nil]; unfold lim; omega)]
    (repeat (first | dsimp only [XK, XL] | dsimp only [ZA,ZB,ZC,ZD,ZE,ZF,ZG,ZH,ZI,ZJ,ZK,ZL,ZM,ZN,ZO,ZP,ZQ,ZR,ZS,ZT,ZU,ZV,ZW,ZX,ZY,ZZ,Za,Zb,Zc,Zd,Ze,Zf,Zg,Zh,Zi,Zj,Zk,Zl,Zm,Zn,Zo,Zp,Zq,Zr,Zs,Zt,Zu,Zv,Zw,Zx,Zy,Zz,YA,YB,YC,YD,YE,YF,YG,YH,YI,YJ,YK,YL,YM,YN,YO,YP,YQ,YR,YS,Env.set,cond_true,cond_false,String.reduceBEq,YT,YU,YV,YW,YX,YY,YZ,Ya,Yb,Yc,Yd,Ye,Yf,Yg] | simp only [Yh,Yi,true_and,Yj,Yk,Yl,Ym,Yn,Yo,Yp,Yq,Yr,Yt,Yu,Yv,Yw,Yx,Yy,Yz,XA,XB,XD,XE,XF,XG,beq_self_eq_true,reduceIte,reduceCtorEq,↓reduceIte,XH,XI,XJ]))
    have p4 : N8 <+: N8 ++ [O.list ((A.take g).map V.int ++ [t])] := pre_new _ _
    have g4 : (N8 ++ [O.list ((A.take g).map V.int ++ [t])])[N8.length]? = some (.list ((A.take g).map V.int ++ [t])) := get_new _ _
    generalize N8 ++ [O.list ((A.take g).map V.int ++ [t])] = N9 at p4 g4 ⊢
    have ha9 := (((ha5.pre p1).pre p2).pre p3).pre p4
    rw [show sliceV (.ref a) (some ((g : Int) + 1)) none N9 = _ from sl_from ha9 (g + 1)]
    (repeat (first | dsimp only [XK, XL] | dsimp only [ZA,ZB,ZC,ZD,ZE,ZF,ZG,ZH,ZI,ZJ,ZK,ZL,ZM,ZN,ZO,ZP,ZQ,ZR,ZS,ZT,ZU,ZV,ZW,ZX,ZY,ZZ,Za,Zb,Zc,Zd,Ze,Zf,Zg,Zh,Zi,Zj,Zk,Zl,Zm,Zn,Zo,Zp,Zq,Zr,Zs,Zt,Zu,Zv,Zw,Zx,Zy,Zz,YA,YB,YC,YD,YE,YF,YG,YH,YI,YJ,YK,YL,YM,YN,YO,YP,YQ,YR,YS,Env.set,cond_true,cond_false,String.reduceBEq,YT,YU,YV,YW,YX,YY,YZ,Ya,Yb,Yc,Yd,Ye,Yf,Yg] | simp only [Yh,Yi,true_and,Yj,Yk,Yl,Ym,Yn,Yo,Yp,Yq,Yr,Yt,Yu,Yv,Yw,Yx,Yy,Yz,XA,XB,XD,XE,XF,XG,beq_self_eq_true,reduceIte,reduceCtorEq,↓reduceIte,XH,XI,XJ]))
    have p5 : N9 <+: N9 ++ [O.list ((A.drop (g + 1)).map .int)] := pre_new _ _
    have g5' : (N9 ++ [O.list ((A.drop (g + 1)).map .int)])[N9.length]? = some (.list ((A.drop (g + 1)).map .int)) := get_new _ _
    generalize N9 ++ [O.list ((A.drop (g + 1)).map .int)] = N10 at p5 g5' ⊢
    rw [add_at (pre_get p5 g4) g5' (by simp only [List.length_append, List.length_map, List.length_take, List.length_drop, List.length_cons, List.length_nil]; unfold lim; omega)]
    (repeat (first | dsimp only [XK, XL] | dsimp only [ZA,ZB,ZC,ZD,ZE,ZF,ZG,ZH,ZI,ZJ,ZK,ZL,ZM,ZN,ZO,ZP,ZQ,ZR,ZS,ZT,ZU,ZV,ZW,ZX,ZY,ZZ,Za,Zb,Zc,Zd,Ze,Zf,Zg,Zh,Zi,Zj,Zk,Zl,Zm,Zn,Zo,Zp,Zq,Zr,Zs,Zt,Zu,Zv,Zw,Zx,Zy,Zz,YA,YB,YC,YD,YE,YF,YG,YH,YI,YJ,YK,YL,YM,YN,YO,YP,YQ,YR,YS,Env.set,cond_true,cond_false,String.reduceBEq,YT,YU,YV,YW,YX,YY,YZ,Ya,Yb,Yc,Yd,Ye,Yf,Yg] | simp only [Yh,Yi,true_and,Yj,Yk,Yl,Ym,Yn,Yo,Yp,Yq,Yr,Yt,Yu,Yv,Yw,Yx,Yy,Yz,XA,XB,XD,XE,XF,XG,beq_self_eq_true,reduceIte,reduceCtorEq,↓reduceIte,XH,XI,XJ]))
    have el : (A.take g).map V.int ++ [t] ++ (A.drop (g + 1)).map V.int = (A.take g).map V.int ++ t :: (A.drop (g + 1)).map V.int := by simp
    have ll : ((A.take g).map V.int ++ t :: (A.drop (g + 1)).map V.int).length = m := by simp only [List.length_append, List.length_map, List.length_take, List.length_drop, List.length_cons]; omega
    have p6 : N7 <+: N10 ++ [O.list ((A.take g).map V.int ++ [t] ++ (A.drop (g + 1)).map V.int)] := p3.trans (p4.trans (p5.trans (pre_new _ _)))
    refine h _ _ (p05.trans (p1.trans (p2.trans p6))) (par_thing (l := A.take g) (t := t) (B := (A.drop (g + 1)).map V.int) (by rw [get_new, el]) (by rw [ll]; exact hm) (by rw [ll]; exact ng p6))
end
end Mine

namespace Mine
open PySem

theorem set_app (H : Hp) (l : List O) (i : Nat) (o : O) : (H ++ l).set (H.length + i) o = H ++ l.set i o := by
  rw [List.set_append_right _ _ (by omega)]; congr 2; omega

section
variable {n : Nat} {H : Hp} {Q : Post} {X : XP} {W : List (List Int)}
theorem mb_other {t : V} (ht : ∀ H', H <+: H' → isInst t ["list"] H' = some false) : MatesBad W t H := fun n H' w Q X hp hw h => s_mates_other rfl (ht H' hp) (h H' (List.prefix_refl _))
theorem mb_len {a : Nat} {xs : List V} (ha : H[a]? = some (.list xs)) (hl : xs.length ≠ W.length) : MatesBad W (.ref a) H := fun n H' w Q X hp hw h => s_mates_len rfl hw (pre_get hp ha) hl (h H' (List.prefix_refl _))
theorem mb_thing {a g : Nat} {t : V} (hg : g < W.length) (ha : H[a]? = some (.list ((List.replicate W.length V.none).set g t))) (hn : t ≠ .none) (ht : NG t W.length H) : MatesBad W (.ref a) H := fun n H' w Q X hp hw h =>
  s_mates_thing (i₀ := g) rfl rfl hw (pre_get hp ha) (by simp) (fun i hi => by rw [List.getElem?_set_ne (by omega), List.getElem?_replicate, if_pos (by omega)]) (by rw [List.getElem?_set_self (by simpa using hg)]) hn (ht.pre hp) (h H' (List.prefix_refl _))
theorem mb_two {a : Nat} {M : List (Option Nat)} (ok : WOk W) (hm : MT H a M) (mlen : M.length = W.length) (hlt : ∀ i j, M.getD i none = some j → j < W.length) {i₀ j₀ : Nat} (hi₀ : i₀ < W.length) (h0 : M.getD i₀ none = some j₀) (hbad : M.getD j₀ none ≠ some i₀ ∨ both W i₀ j₀ = false) : MatesBad W (.ref a) H :=
  fun n H' w Q X hp hw h => s_mates_two rfl rfl rfl hw ok (hm.pre hp) mlen hlt hi₀ h0 hbad (h H' (List.prefix_refl _))

theorem getD_rep {m i : Nat} : (List.replicate m (none : Option Nat)).getD i none = none := by
  rw [List.getD_eq_getElem?_getD, List.getElem?_replicate]; split <;> rfl
theorem rep_ov {m : Nat} : List.replicate m V.none = (List.replicate m (none : Option Nat)).map ov := by simp [ov]

theorem next_ones {g m : Nat} (hgm : g < m) : (g + 1) % m < m ∧ (g + 2) % m < m ∧ (2 < m → (g + 1) % m ≠ g) ∧ (2 < m → (g + 2) % m ≠ g) ∧ (2 < m → (g + 2) % m ≠ (g + 1) % m) := by
  have e1 : (g + 1) % m = if g + 1 < m then g + 1 else 0 := by
    split
    · rename_i q; exact Nat.mod_eq_of_lt q
    · rw [show g + 1 = m by omega, Nat.mod_self]
  have e2 : 2 < m → (g + 2) % m = if g + 2 < m then g + 2 else g + 2 - m := by
    intro _
    split
    · rename_i q; exact Nat.mod_eq_of_lt q
    · rw [Nat.mod_eq_sub_mod (by omega), Nat.mod_eq_of_lt (by omega)]
  refine ⟨Nat.mod_lt _ (by omega), Nat.mod_lt _ (by omega), fun q => ?_, fun q => ?_, fun q => ?_⟩
  · rw [e1]; split <;> omega
  · rw [e2 q]; split <;> omega
  · rw [e1, e2 q]; split <;> split <;> omega
theorem s_bad_mates {w g r : Nat} (hw : WH H w W) (ok : WOk W) (hg : g < W.length) (hr : r < 14) (h : ∀ H' v, H <+: H' → MatesBad W v H' → Q v H') : callN P3 false (n + 1) "_law_bad_mates" [.ref w, .int (g : Int), .int (r : Int)] H Q X := by
  have hm := ok.le
  have hlm : W.length ≤ lim := by unfold lim; omega
  generalize hM : W.length = m at hm hlm
  have hgm : g < m := by omega
  have zm : ((m : Int) = 0) = False := by simp; omega
  have l1 : (1 ≤ lim) = True := by simp [lim]
  have l5 : (5 ≤ lim) = True := by simp [lim]
  have l8 : (8 ≤ lim) = True := by simp [lim]
  (refine callN_in (show P3.fn "_law_bad_mates" = some f__law_bad_mates from rfl) rfl ?_; unfold f__law_bad_mates)
  refine wSs_step fun K hn hr' => ?_
  (repeat (first | dsimp only [XK, XL] | dsimp only [ZA,ZB,ZC,ZD,ZE,ZF,ZG,ZH,ZI,ZJ,ZK,ZL,ZM,ZN,ZO,ZP,ZQ,ZR,ZS,ZT,ZU,ZV,ZW,ZX,ZY,ZZ,Za,Zb,Zc,Zd,Ze,Zf,Zg,Zh,Zi,Zj,Zk,Zl,Zm,Zn,Zo,Zp,Zq,Zr,Zs,Zt,Zu,Zv,Zw,Zx,Zy,Zz,YA,YB,YC,YD,YE,YF,YG,YH,YI,YJ,YK,YL,YM,YN,YO,YP,YQ,YR,YS,Env.set,cond_true,cond_false,String.reduceBEq,YT,YU,YV,YW,YX,YY,YZ,Ya,Yb,Yc,Yd,Ye,Yf,Yg] | simp only [Yh,Yi,true_and,Yj,Yk,Yl,Ym,Yn,Yo,Yp,Yq,Yr,Yt,Yu,Yv,Yw,Yx,Yy,Yz,XA,XB,XD,XE,XF,XG,beq_self_eq_true,reduceIte,reduceCtorEq,↓reduceIte,XH,XI,XJ, hw.len, hM]))
  refine hn _ _ ?_
  clear hn hr' K
  refine wSs_step fun K hn hr' => ?_
  (repeat (first | dsimp only [XK, XL] | dsimp only [ZA,ZB,ZC,ZD,ZE,ZF,ZG,ZH,ZI,ZJ,ZK,ZL,ZM,ZN,ZO,ZP,ZQ,ZR,ZS,ZT,ZU,ZV,ZW,ZX,ZY,ZZ,Za,Zb,Zc,Zd,Ze,Zf,Zg,Zh,Zi,Zj,Zk,Zl,Zm,Zn,Zo,Zp,Zq,Zr,Zs,Zt,Zu,Zv,Zw,Zx,Zy,Zz,YA,YB,YC,YD,YE,YF,YG,YH,YI,YJ,YK,YL,YM,YN,YO,YP,YQ,YR,YS,Env.set,cond_true,cond_false,String.reduceBEq,YT,YU,YV,YW,YX,YY,YZ,Ya,Yb,Yc,Yd,Ye,Yf,Yg] | simp only [Yh,Yi,true_and,Yj,Yk,Yl,Ym,Yn,Yo,Yp,Yq,Yr,Yt,Yu,Yv,Yw,Yx,Yy,Yz,XA,XB,XD,XE,XF,XG,beq_self_eq_true,reduceIte,reduceCtorEq,↓reduceIte,XH,XI,XJ, mul_at (get_new H (.list [V.none])) hlm]))
  refine hn _ _ ?_
  clear hn hr' K
  rw [List.append_assoc]
  simp only [List.length_append, List.length_cons, List.length_nil, List.cons_append, List.nil_append, Nat.zero_add]
  by_cases h5 : r < 5
  · have d5 : decide ((r : Int) < 5) = true := decide_eq_true (by omega)
    refine if_ret (g_lt rfl d5) ?_
    have p0 : H <+: H ++ [O.list [V.none], O.list (List.replicate m V.none)] := List.prefix_append _ _
    have g0 : (H ++ [O.list [V.none], O.list (List.replicate m V.none)])[H.length + 1]? = some (.list (List.replicate m V.none)) := (get_at H _ 1).trans rfl
    generalize H ++ [O.list [V.none], O.list (List.replicate m V.none)] = N at p0 g0 ⊢
    generalize H.length + 1 = a at g0 ⊢
    have ga : ∀ t : List O, (N ++ t)[a]? = some (.list (List.replicate m V.none)) := fun t => pre_get (List.prefix_append _ _) g0
    have sl := sl_ref (lo := some (1 : Int)) (hi := none) g0
    rw [show cut (List.replicate m V.none) (some (1 : Int)) none = List.replicate (m - 1) V.none by rw [show cut (List.replicate m V.none) (some (1 : Int)) none = _ from cut_from _ 1, List.drop_replicate]] at sl
    have lo := fun t => listOf_eq (ga t)
    have ad := add_at (H := N ++ [O.list (List.replicate (m - 1) V.none), O.list [V.none]]) (a := a) (b := N.length + 1) (ga _) ((get_at N _ 1).trans rfl) (by simp [lim]; omega)
    (repeat (first | dsimp only [XK, XL] | dsimp only [ZA,ZB,ZC,ZD,ZE,ZF,ZG,ZH,ZI,ZJ,ZK,ZL,ZM,ZN,ZO,ZP,ZQ,ZR,ZS,ZT,ZU,ZV,ZW,ZX,ZY,ZZ,Za,Zb,Zc,Zd,Ze,Zf,Zg,Zh,Zi,Zj,Zk,Zl,Zm,Zn,Zo,Zp,Zq,Zr,Zs,Zt,Zu,Zv,Zw,Zx,Zy,Zz,YA,YB,YC,YD,YE,YF,YG,YH,YI,YJ,YK,YL,YM,YN,YO,YP,YQ,YR,YS,Env.set,cond_true,cond_false,String.reduceBEq,YT,YU,YV,YW,YX,YY,YZ,Ya,Yb,Yc,Yd,Ye,Yf,Yg] | simp only [Yh,Yi,true_and,Yj,Yk,Yl,Ym,Yn,Yo,Yp,Yq,Yr,Yt,Yu,Yv,Yw,Yx,Yy,Yz,XA,XB,XD,XE,XF,XG,beq_self_eq_true,reduceIte,reduceCtorEq,↓reduceIte,XH,XI,XJ, sl, l1, l5, lo, List.append_assoc, List.cons_append, List.nil_append, List.length_append, Nat.reduceAdd, Nat.add_zero]))
    rw [ad]
    (repeat (first | dsimp only [XK, XL] | dsimp only [ZA,ZB,ZC,ZD,ZE,ZF,ZG,ZH,ZI,ZJ,ZK,ZL,ZM,ZN,ZO,ZP,ZQ,ZR,ZS,ZT,ZU,ZV,ZW,ZX,ZY,ZZ,Za,Zb,Zc,Zd,Ze,Zf,Zg,Zh,Zi,Zj,Zk,Zl,Zm,Zn,Zo,Zp,Zq,Zr,Zs,Zt,Zu,Zv,Zw,Zx,Zy,Zz,YA,YB,YC,YD,YE,YF,YG,YH,YI,YJ,YK,YL,YM,YN,YO,YP,YQ,YR,YS,Env.set,cond_true,cond_false,String.reduceBEq,YT,YU,YV,YW,YX,YY,YZ,Ya,Yb,Yc,Yd,Ye,Yf,Yg] | simp only [Yh,Yi,true_and,Yj,Yk,Yl,Ym,Yn,Yo,Yp,Yq,Yr,Yt,Yu,Yv,Yw,Yx,Yy,Yz,XA,XB,XD,XE,XF,XG,beq_self_eq_true,reduceIte,reduceCtorEq,↓reduceIte,XH,XI,XJ, lo, l5, List.append_assoc, List.cons_append, List.nil_append, List.length_append, Nat.reduceAdd, Nat.add_zero]))
    rw [item_of ((get_at N _ 4).trans rfl) h5]
    dsimp only [Option.map_some, oE_some]
    refine h _ _ (p0.trans (List.prefix_append _ _)) ?_
    match r, h5 with
    | 0, _ => exact mb_len ((get_at0 N _).trans rfl) (by rw [List.length_replicate]; omega)
    | 1, _ => exact mb_len ((get_at N _ 2).trans rfl) (by simp; omega)
    | 2, _ => exact mb_other fun _ hp => tup_not hp ((get_at N _ 3).trans rfl)
    | 3, _ => exact mb_other fun _ _ => by simp [isInst, isObj, typesOf]
    | 4, _ => exact mb_other fun _ _ => by simp [isInst, isObj, typesOf]
  have d5 : decide ((r : Int) < 5) = false := decide_eq_false (by omega)
  refine if_go (g_lt rfl d5) ?_
  by_cases h13 : r = 13
  · subst h13
    exact if_ret (g_eq rfl rfl) (h _ _ (List.prefix_append _ _) (mb_other fun _ _ => by simp [isInst, isObj, typesOf]))
  have d13 : ((r : Int) == 13) = false := by simpa using fun q => h13 (by omega)
  refine if_go (g_eq rfl d13) ?_
  have hw0 := hw.pre (List.prefix_append H [O.list [V.none], O.list (List.replicate m V.none)])
  refine wSs_step fun K hn hr' => ?_
  (repeat (first | dsimp only [XK, XL] | dsimp only [ZA,ZB,ZC,ZD,ZE,ZF,ZG,ZH,ZI,ZJ,ZK,ZL,ZM,ZN,ZO,ZP,ZQ,ZR,ZS,ZT,ZU,ZV,ZW,ZX,ZY,ZZ,Za,Zb,Zc,Zd,Ze,Zf,Zg,Zh,Zi,Zj,Zk,Zl,Zm,Zn,Zo,Zp,Zq,Zr,Zs,Zt,Zu,Zv,Zw,Zx,Zy,Zz,YA,YB,YC,YD,YE,YF,YG,YH,YI,YJ,YK,YL,YM,YN,YO,YP,YQ,YR,YS,Env.set,cond_true,cond_false,String.reduceBEq,YT,YU,YV,YW,YX,YY,YZ,Ya,Yb,Yc,Yd,Ye,Yf,Yg] | simp only [Yh,Yi,true_and,Yj,Yk,Yl,Ym,Yn,Yo,Yp,Yq,Yr,Yt,Yu,Yv,Yw,Yx,Yy,Yz,XA,XB,XD,XE,XF,XG,beq_self_eq_true,reduceIte,reduceCtorEq,↓reduceIte,XH,XI,XJ, range_nat hlm]))
  refine wLoop_idx (fun j acc H' => H' = H ++ [O.list [V.none], O.list (List.replicate m V.none)] ∧ acc = (((List.range j).filter fun i => !both W g i).map fun i : Nat => (i : Int)).map V.int) ⟨rfl, rfl⟩ (fun j v acc H' hv hI => ⟨trivial, fun k' k1 k2 => ?_⟩) fun acc H' hI => ⟨trivial, ?_⟩
  · obtain ⟨rfl, rfl⟩ := hI
    obtain ⟨hj, rfl⟩ := rng_get hv
    obtain ⟨bg, eg, lg⟩ := hw0.item (row_get hg)
    obtain ⟨bj, ej, lj⟩ := hw0.item (row_get (show j < W.length by omega))
    cases q1 : decide ((j : Int) ∈ row W g) with
    | false =>
      (repeat (first | dsimp only [XK, XL] | dsimp only [ZA,ZB,ZC,ZD,ZE,ZF,ZG,ZH,ZI,ZJ,ZK,ZL,ZM,ZN,ZO,ZP,ZQ,ZR,ZS,ZT,ZU,ZV,ZW,ZX,ZY,ZZ,Za,Zb,Zc,Zd,Ze,Zf,Zg,Zh,Zi,Zj,Zk,Zl,Zm,Zn,Zo,Zp,Zq,Zr,Zs,Zt,Zu,Zv,Zw,Zx,Zy,Zz,YA,YB,YC,YD,YE,YF,YG,YH,YI,YJ,YK,YL,YM,YN,YO,YP,YQ,YR,YS,Env.set,cond_true,cond_false,String.reduceBEq,YT,YU,YV,YW,YX,YY,YZ,Ya,Yb,Yc,Yd,Ye,Yf,Yg] | simp only [Yh,Yi,true_and,Yj,Yk,Yl,Ym,Yn,Yo,Yp,Yq,Yr,Yt,Yu,Yv,Yw,Yx,Yy,Yz,XA,XB,XD,XE,XF,XG,beq_self_eq_true,reduceIte,reduceCtorEq,↓reduceIte,XH,XI,XJ, eg, lg.mem, q1]))
      refine k1 _ _ ⟨rfl, ?_⟩
      rw [List.range_succ, List.filter_append]
      simp [both, q1]
    | true =>
      cases q2 : decide ((g : Int) ∈ row W j) with
      | false =>
        (repeat (first | dsimp only [XK, XL] | dsimp only [ZA,ZB,ZC,ZD,ZE,ZF,ZG,ZH,ZI,ZJ,ZK,ZL,ZM,ZN,ZO,ZP,ZQ,ZR,ZS,ZT,ZU,ZV,ZW,ZX,ZY,ZZ,Za,Zb,Zc,Zd,Ze,Zf,Zg,Zh,Zi,Zj,Zk,Zl,Zm,Zn,Zo,Zp,Zq,Zr,Zs,Zt,Zu,Zv,Zw,Zx,Zy,Zz,YA,YB,YC,YD,YE,YF,YG,YH,YI,YJ,YK,YL,YM,YN,YO,YP,YQ,YR,YS,Env.set,cond_true,cond_false,String.reduceBEq,YT,YU,YV,YW,YX,YY,YZ,Ya,Yb,Yc,Yd,Ye,Yf,Yg] | simp only [Yh,Yi,true_and,Yj,Yk,Yl,Ym,Yn,Yo,Yp,Yq,Yr,Yt,Yu,Yv,Yw,Yx,Yy,Yz,XA,XB,XD,XE,XF,XG,beq_self_eq_true,reduceIte,reduceCtorEq,↓reduceIte,XH,XI,XJ, eg, lg.mem, q1, ej, lj.mem, q2]))
        refine k1 _ _ ⟨rfl, ?_⟩
        rw [List.range_succ, List.filter_append]
        simp [both, q1, q2]
      | true =>
        (repeat (first | dsimp only [XK, XL] | dsimp only [ZA,ZB,ZC,ZD,ZE,ZF,ZG,ZH,ZI,ZJ,ZK,ZL,ZM,ZN,ZO,ZP,ZQ,ZR,ZS,ZT,ZU,ZV,ZW,ZX,ZY,ZZ,Za,Zb,Zc,Zd,Ze,Zf,Zg,Zh,Zi,Zj,Zk,Zl,Zm,Zn,Zo,Zp,Zq,Zr,Zs,Zt,Zu,Zv,Zw,Zx,Zy,Zz,YA,YB,YC,YD,YE,YF,YG,YH,YI,YJ,YK,YL,YM,YN,YO,YP,YQ,YR,YS,Env.set,cond_true,cond_false,String.reduceBEq,YT,YU,YV,YW,YX,YY,YZ,Ya,Yb,Yc,Yd,Ye,Yf,Yg] | simp only [Yh,Yi,true_and,Yj,Yk,Yl,Ym,Yn,Yo,Yp,Yq,Yr,Yt,Yu,Yv,Yw,Yx,Yy,Yz,XA,XB,XD,XE,XF,XG,beq_self_eq_true,reduceIte,reduceCtorEq,↓reduceIte,XH,XI,XJ, eg, lg.mem, q1, ej, lj.mem, q2]))
        refine k2 _ ⟨rfl, ?_⟩
        rw [List.range_succ, List.filter_append]
        simp [both, q1, q2]
  obtain ⟨rfl, rfl⟩ := hI
  rw [rng_len]
  have bgg : both W g g = false := by
    unfold both
    have := (ok.rows g hg).ne
    simp [this]
  -- the first of the others
  obtain ⟨o, os, eo⟩ : ∃ o os, (List.range m).filter (fun i => !both W g i) = o :: os := by
    cases e : (List.range m).filter (fun i => !both W g i) with
    | nil =>
      have : g ∈ (List.range m).filter (fun i => !both W g i) := List.mem_filter.mpr ⟨List.mem_range.mpr hgm, by simp [bgg]⟩
      rw [e] at this
      cases this
    | cons o os => exact ⟨o, os, rfl⟩
  have ho : o < m ∧ both W g o = false := by
    have : o ∈ (List.range m).filter (fun i => !both W g i) := by rw [eo]; simp
    obtain ⟨q1, q2⟩ := List.mem_filter.mp this
    exact ⟨List.mem_range.mp q1, by simpa using q2⟩
  rw [eo]
  refine hn _ _ ?_
  clear hn hr' K
  obtain ⟨i, hi, ei⟩ : ∃ i : Nat, i < 8 ∧ (r : Int) - 5 = (i : Int) := ⟨r - 5, by omega, by omega⟩
  have ri : r = i + 5 := by omega
  have m1 : ((g : Int) + 1).fmod (m : Int) = (((g + 1) % m : Nat) : Int) := mod_nat (q := g + 1)
  have m2 : ((g : Int) + 2).fmod (m : Int) = (((g + 2) % m : Nat) : Int) := mod_nat (q := g + 2)

  have hit : ∀ (xs : List V) (t : List O), itemV (.ref (H.length + 2)) (.int 0) (H ++ O.list [V.none] :: O.list xs :: O.list (((o :: os).map fun i : Nat => (i : Int)).map V.int) :: t) = some (.int (o : Int)) := fun xs t => item_seq (i := 0) (seqOf_list ((get_at H _ 2).trans rfl)) rfl
  have hset : ∀ (xs : List V) (t : List O) (k : Nat) (v : V), k < xs.length → setV (.ref (H.length + 1)) (.int (k : Int)) v (H ++ O.list [V.none] :: O.list xs :: O.list (((o :: os).map fun i : Nat => (i : Int)).map V.int) :: t) = some (H ++ O.list [V.none] :: O.list (xs.set k v) :: O.list (((o :: os).map fun i : Nat => (i : Int)).map V.int) :: t) := fun xs t k v hk => by
    rw [set_seq ((get_at H _ 1).trans rfl) hk, set_app]; rfl
  generalize O.list (((o :: os).map fun i : Nat => (i : Int)).map V.int) = L at hit hset ⊢
  refine wSs_step fun K hn hr' => ?_
  (repeat (first | dsimp only [XK, XL] | dsimp only [ZA,ZB,ZC,ZD,ZE,ZF,ZG,ZH,ZI,ZJ,ZK,ZL,ZM,ZN,ZO,ZP,ZQ,ZR,ZS,ZT,ZU,ZV,ZW,ZX,ZY,ZZ,Za,Zb,Zc,Zd,Ze,Zf,Zg,Zh,Zi,Zj,Zk,Zl,Zm,Zn,Zo,Zp,Zq,Zr,Zs,Zt,Zu,Zv,Zw,Zx,Zy,Zz,YA,YB,YC,YD,YE,YF,YG,YH,YI,YJ,YK,YL,YM,YN,YO,YP,YQ,YR,YS,Env.set,cond_true,cond_false,String.reduceBEq,YT,YU,YV,YW,YX,YY,YZ,Ya,Yb,Yc,Yd,Ye,Yf,Yg] | simp only [Yh,Yi,true_and,Yj,Yk,Yl,Ym,Yn,Yo,Yp,Yq,Yr,Yt,Yu,Yv,Yw,Yx,Yy,Yz,XA,XB,XD,XE,XF,XG,beq_self_eq_true,reduceIte,reduceCtorEq,↓reduceIte,XH,XI,XJ, List.append_assoc, List.cons_append, List.nil_append, List.length_append, Nat.reduceAdd, Nat.add_zero, zm, m1, ei, hit, l8]))
  rw [item_of ((get_at H _ 4).trans rfl) hi]
  dsimp only [Option.map_some, oE_some]
  rw [hset _ _ _ _ (by simpa using hgm)]
  dsimp only [oE_some]
  refine hn _ _ ?_
  clear hn hr' K
  have e9 : i ≠ 4 → ((r : Int) == 9) = false := fun q => by simpa using fun e => q (by omega)
  have e6 : i ≠ 1 → ((r : Int) == 6) = false := fun q => by simpa using fun e => q (by omega)
  have y9 : i = 4 → ((r : Int) == 9) = true := fun q => by subst q; simp; omega
  have y6 : i = 1 → ((r : Int) == 6) = true := fun q => by subst q; simp; omega
  have thing : ∀ {t : V} {l : List O}, t ≠ .none → NG t m (H ++ O.list [V.none] :: O.list ((List.replicate m V.none).set g t) :: L :: l) → Q (V.ref (H.length + 1)) (H ++ O.list [V.none] :: O.list ((List.replicate m V.none).set g t) :: L :: l) := fun hn hng =>
    h _ _ (List.prefix_append _ _) (mb_thing (g := g) hg (by rw [hM]; exact (get_at H _ 1).trans rfl) hn (by rw [hM]; exact hng))
  have two : ∀ {M : List (Option Nat)} {l : List O} {j₀ : Nat}, M.length = m → (∀ i j, M.getD i none = some j → j < m) → M.getD g none = some j₀ → (M.getD j₀ none ≠ some g ∨ both W g j₀ = false) → Q (V.ref (H.length + 1)) (H ++ O.list [V.none] :: O.list (M.map ov) :: L :: l) := fun h1 h2 h3 h4 =>
    h _ _ (List.prefix_append _ _) (mb_two ok ((get_at H _ 1).trans rfl) (by rw [hM]; exact h1) (by rw [hM]; exact h2) hg h3 h4)
  have one : ∀ {l : List O} {j : Nat}, j < m → (j ≠ g ∨ both W g j = false) → Q (V.ref (H.length + 1)) (H ++ O.list [V.none] :: O.list ((List.replicate m V.none).set g (.int (j : Int))) :: L :: l) := fun {l j} hj hb => by
    rw [rep_ov, show V.int (j : Int) = ov (some j) from rfl, ← List.map_set]
    refine two (by simp) (fun i k q => ?_) (by rw [getD_set _ _ _ _ _ (by simpa using hgm), if_pos rfl]) ?_
    · rw [getD_set _ _ _ _ _ (by simpa using hgm)] at q
      split at q
      · cases q; exact hj
      · rw [getD_rep] at q; cases q
    · rcases hb with hb | hb
      · left
        rw [getD_set _ _ _ _ _ (by simpa using hgm), if_neg (Ne.symm hb), getD_rep]
        simp
      · exact .inr hb
  clear h
  by_cases h4 : i = 4
  · subst h4
    by_cases q : o = g
    · have eq' : ((o : Int) == (g : Int)) = true := by rw [q]; simp
      exact if_go (g_and (g_eq rfl (y9 rfl)) (fun Q hq => by (repeat (first | dsimp only [XK, XL] | dsimp only [ZA,ZB,ZC,ZD,ZE,ZF,ZG,ZH,ZI,ZJ,ZK,ZL,ZM,ZN,ZO,ZP,ZQ,ZR,ZS,ZT,ZU,ZV,ZW,ZX,ZY,ZZ,Za,Zb,Zc,Zd,Ze,Zf,Zg,Zh,Zi,Zj,Zk,Zl,Zm,Zn,Zo,Zp,Zq,Zr,Zs,Zt,Zu,Zv,Zw,Zx,Zy,Zz,YA,YB,YC,YD,YE,YF,YG,YH,YI,YJ,YK,YL,YM,YN,YO,YP,YQ,YR,YS,Env.set,cond_true,cond_false,String.reduceBEq,YT,YU,YV,YW,YX,YY,YZ,Ya,Yb,Yc,Yd,Ye,Yf,Yg] | simp only [Yh,Yi,true_and,Yj,Yk,Yl,Ym,Yn,Yo,Yp,Yq,Yr,Yt,Yu,Yv,Yw,Yx,Yy,Yz,XA,XB,XD,XE,XF,XG,beq_self_eq_true,reduceIte,reduceCtorEq,↓reduceIte,XH,XI,XJ, hit, eq'])); exact hq)) (if_go (g_and0 (g_eq rfl (e6 (by decide)))) (last_ret (one ho.1 (.inr ho.2))))
    · have eq' : ((o : Int) == (g : Int)) = false := by simpa using fun e => q (by omega)
      refine if_do (g_and (g_eq rfl (y9 rfl)) (fun Q hq => by (repeat (first | dsimp only [XK, XL] | dsimp only [ZA,ZB,ZC,ZD,ZE,ZF,ZG,ZH,ZI,ZJ,ZK,ZL,ZM,ZN,ZO,ZP,ZQ,ZR,ZS,ZT,ZU,ZV,ZW,ZX,ZY,ZZ,Za,Zb,Zc,Zd,Ze,Zf,Zg,Zh,Zi,Zj,Zk,Zl,Zm,Zn,Zo,Zp,Zq,Zr,Zs,Zt,Zu,Zv,Zw,Zx,Zy,Zz,YA,YB,YC,YD,YE,YF,YG,YH,YI,YJ,YK,YL,YM,YN,YO,YP,YQ,YR,YS,Env.set,cond_true,cond_false,String.reduceBEq,YT,YU,YV,YW,YX,YY,YZ,Ya,Yb,Yc,Yd,Ye,Yf,Yg] | simp only [Yh,Yi,true_and,Yj,Yk,Yl,Ym,Yn,Yo,Yp,Yq,Yr,Yt,Yu,Yv,Yw,Yx,Yy,Yz,XA,XB,XD,XE,XF,XG,beq_self_eq_true,reduceIte,reduceCtorEq,↓reduceIte,XH,XI,XJ, hit, eq'])); exact hq)) ?_
      refine wSs_step fun K hn hr' => ?_
      (repeat (first | dsimp only [XK, XL] | dsimp only [ZA,ZB,ZC,ZD,ZE,ZF,ZG,ZH,ZI,ZJ,ZK,ZL,ZM,ZN,ZO,ZP,ZQ,ZR,ZS,ZT,ZU,ZV,ZW,ZX,ZY,ZZ,Za,Zb,Zc,Zd,Ze,Zf,Zg,Zh,Zi,Zj,Zk,Zl,Zm,Zn,Zo,Zp,Zq,Zr,Zs,Zt,Zu,Zv,Zw,Zx,Zy,Zz,YA,YB,YC,YD,YE,YF,YG,YH,YI,YJ,YK,YL,YM,YN,YO,YP,YQ,YR,YS,Env.set,cond_true,cond_false,String.reduceBEq,YT,YU,YV,YW,YX,YY,YZ,Ya,Yb,Yc,Yd,Ye,Yf,Yg] | simp only [Yh,Yi,true_and,Yj,Yk,Yl,Ym,Yn,Yo,Yp,Yq,Yr,Yt,Yu,Yv,Yw,Yx,Yy,Yz,XA,XB,XD,XE,XF,XG,beq_self_eq_true,reduceIte,reduceCtorEq,↓reduceIte,XH,XI,XJ, hit]))
      rw [hset _ _ _ _ (by simpa using ho.1)]
      dsimp only [oE_some]
      refine hn _ _ (wSs_nil (if_go (g_and0 (g_eq rfl (e6 (by decide)))) (last_ret ?_)))
      clear hn hr' K
      show Q (V.ref (H.length + 1)) _
      rw [show [V.int (g : Int), V.int (((g + 1) % m : Nat) : Int), V.int (m : Int), V.bool ((g : Int) == 0), V.int (o : Int), V.int (-1), V.str (Str.ofString "0"), V.ref (H.length + 3)].getD 4 .none = V.int (o : Int) from rfl]
      rw [rep_ov, show V.int (o : Int) = ov (some o) from rfl, show V.int (g : Int) = ov (some g) from rfl, ← List.map_set, ← List.map_set]
      have a1 : g < (List.replicate m (none : Option Nat)).length := by simpa using hgm
      have a2 : o < ((List.replicate m (none : Option Nat)).set g (some o)).length := by simpa using ho.1
      refine two (j₀ := o) (by simp) (fun i x q => ?_) ?_ (.inr ho.2)
      · rw [getD_set _ _ _ _ _ a2, getD_set _ _ _ _ _ a1, getD_rep] at q
        split at q
        · cases q; exact hgm
        · split at q
          · cases q; exact ho.1
          · cases q
      · rw [getD_set _ _ _ _ _ a2, if_neg q, getD_set _ _ _ _ _ a1, if_pos rfl]
  by_cases h1 : i = 1
  · subst h1
    refine if_go (g_and0 (g_eq rfl (e9 (by decide)))) ?_
    obtain ⟨hj, hk, n1, n2, n3⟩ : (g + 1) % m < m ∧ (g + 2) % m < m ∧ (2 < m → (g + 1) % m ≠ g) ∧ (2 < m → (g + 2) % m ≠ g) ∧ (2 < m → (g + 2) % m ≠ (g + 1) % m) := next_ones hgm
    by_cases h2 : 2 < m
    · refine if_do (g_and (g_eq rfl (y6 rfl)) (fun Q hq => by (repeat (first | dsimp only [XK, XL] | dsimp only [ZA,ZB,ZC,ZD,ZE,ZF,ZG,ZH,ZI,ZJ,ZK,ZL,ZM,ZN,ZO,ZP,ZQ,ZR,ZS,ZT,ZU,ZV,ZW,ZX,ZY,ZZ,Za,Zb,Zc,Zd,Ze,Zf,Zg,Zh,Zi,Zj,Zk,Zl,Zm,Zn,Zo,Zp,Zq,Zr,Zs,Zt,Zu,Zv,Zw,Zx,Zy,Zz,YA,YB,YC,YD,YE,YF,YG,YH,YI,YJ,YK,YL,YM,YN,YO,YP,YQ,YR,YS,Env.set,cond_true,cond_false,String.reduceBEq,YT,YU,YV,YW,YX,YY,YZ,Ya,Yb,Yc,Yd,Ye,Yf,Yg] | simp only [Yh,Yi,true_and,Yj,Yk,Yl,Ym,Yn,Yo,Yp,Yq,Yr,Yt,Yu,Yv,Yw,Yx,Yy,Yz,XA,XB,XD,XE,XF,XG,beq_self_eq_true,reduceIte,reduceCtorEq,↓reduceIte,XH,XI,XJ, decide_eq_true (show (2 : Int) < (m : Int) by omega)])); exact hq)) ?_
      refine wSs_step fun K hn hr' => ?_
      (repeat (first | dsimp only [XK, XL] | dsimp only [ZA,ZB,ZC,ZD,ZE,ZF,ZG,ZH,ZI,ZJ,ZK,ZL,ZM,ZN,ZO,ZP,ZQ,ZR,ZS,ZT,ZU,ZV,ZW,ZX,ZY,ZZ,Za,Zb,Zc,Zd,Ze,Zf,Zg,Zh,Zi,Zj,Zk,Zl,Zm,Zn,Zo,Zp,Zq,Zr,Zs,Zt,Zu,Zv,Zw,Zx,Zy,Zz,YA,YB,YC,YD,YE,YF,YG,YH,YI,YJ,YK,YL,YM,YN,YO,YP,YQ,YR,YS,Env.set,cond_true,cond_false,String.reduceBEq,YT,YU,YV,YW,YX,YY,YZ,Ya,Yb,Yc,Yd,Ye,Yf,Yg] | simp only [Yh,Yi,true_and,Yj,Yk,Yl,Ym,Yn,Yo,Yp,Yq,Yr,Yt,Yu,Yv,Yw,Yx,Yy,Yz,XA,XB,XD,XE,XF,XG,beq_self_eq_true,reduceIte,reduceCtorEq,↓reduceIte,XH,XI,XJ, zm, m1, m2]))
      have m2' := m2
      generalize (g + 1) % m = j at hj n1 n3 one two ⊢
      generalize (g + 2) % m = k at hk n2 n3 m2' ⊢
      rw [hset _ _ _ _ (by simpa using hj)]
      dsimp only [oE_some]
      refine hn _ _ ?_
      clear hn hr' K
      refine wSs_step fun K hn hr' => ?_
      (repeat (first | dsimp only [XK, XL] | dsimp only [ZA,ZB,ZC,ZD,ZE,ZF,ZG,ZH,ZI,ZJ,ZK,ZL,ZM,ZN,ZO,ZP,ZQ,ZR,ZS,ZT,ZU,ZV,ZW,ZX,ZY,ZZ,Za,Zb,Zc,Zd,Ze,Zf,Zg,Zh,Zi,Zj,Zk,Zl,Zm,Zn,Zo,Zp,Zq,Zr,Zs,Zt,Zu,Zv,Zw,Zx,Zy,Zz,YA,YB,YC,YD,YE,YF,YG,YH,YI,YJ,YK,YL,YM,YN,YO,YP,YQ,YR,YS,Env.set,cond_true,cond_false,String.reduceBEq,YT,YU,YV,YW,YX,YY,YZ,Ya,Yb,Yc,Yd,Ye,Yf,Yg] | simp only [Yh,Yi,true_and,Yj,Yk,Yl,Ym,Yn,Yo,Yp,Yq,Yr,Yt,Yu,Yv,Yw,Yx,Yy,Yz,XA,XB,XD,XE,XF,XG,beq_self_eq_true,reduceIte,reduceCtorEq,↓reduceIte,XH,XI,XJ, zm, m2']))
      rw [hset _ _ _ _ (by simpa using hk)]
      dsimp only [oE_some]
      refine hn _ _ (wSs_nil (last_ret ?_))
      clear hn hr' K
      show Q (V.ref (H.length + 1)) _
      rw [show [V.int (g : Int), V.int (j : Int), V.int (m : Int), V.bool ((g : Int) == 0), V.int (o : Int), V.int (-1), V.str (Str.ofString "0"), V.ref (H.length + 3)].getD 1 .none = V.int (j : Int) from rfl]
      rw [rep_ov, show V.int (j : Int) = ov (some j) from rfl, show V.int (k : Int) = ov (some k) from rfl, show V.int (g : Int) = ov (some g) from rfl, ← List.map_set, ← List.map_set, ← List.map_set]
      have a1 : g < (List.replicate m (none : Option Nat)).length := by simpa using hgm
      have a2 : j < ((List.replicate m (none : Option Nat)).set g (some j)).length := by simpa using hj
      have a3 : k < (((List.replicate m (none : Option Nat)).set g (some j)).set j (some k)).length := by simpa using hk
      refine two (j₀ := j) (by simp) (fun i x q => ?_) ?_ (.inl ?_)
      · rw [getD_set _ _ _ _ _ a3, getD_set _ _ _ _ _ a2, getD_set _ _ _ _ _ a1, getD_rep] at q
        split at q
        · cases q; exact hgm
        · split at q
          · cases q; exact hk
          · split at q
            · cases q; exact hj
            · cases q
      · rw [getD_set _ _ _ _ _ a3, if_neg (n2 h2), getD_set _ _ _ _ _ a2, if_neg (n1 h2), getD_set _ _ _ _ _ a1, if_pos rfl]
      · rw [getD_set _ _ _ _ _ a3, if_neg (n3 h2), getD_set _ _ _ _ _ a2, if_pos rfl]
        intro q; exact n2 h2 (Option.some.inj q)
    · refine if_go (g_and (g_eq rfl (y6 rfl)) (fun Q hq => by (repeat (first | dsimp only [XK, XL] | dsimp only [ZA,ZB,ZC,ZD,ZE,ZF,ZG,ZH,ZI,ZJ,ZK,ZL,ZM,ZN,ZO,ZP,ZQ,ZR,ZS,ZT,ZU,ZV,ZW,ZX,ZY,ZZ,Za,Zb,Zc,Zd,Ze,Zf,Zg,Zh,Zi,Zj,Zk,Zl,Zm,Zn,Zo,Zp,Zq,Zr,Zs,Zt,Zu,Zv,Zw,Zx,Zy,Zz,YA,YB,YC,YD,YE,YF,YG,YH,YI,YJ,YK,YL,YM,YN,YO,YP,YQ,YR,YS,Env.set,cond_true,cond_false,String.reduceBEq,YT,YU,YV,YW,YX,YY,YZ,Ya,Yb,Yc,Yd,Ye,Yf,Yg] | simp only [Yh,Yi,true_and,Yj,Yk,Yl,Ym,Yn,Yo,Yp,Yq,Yr,Yt,Yu,Yv,Yw,Yx,Yy,Yz,XA,XB,XD,XE,XF,XG,beq_self_eq_true,reduceIte,reduceCtorEq,↓reduceIte,XH,XI,XJ, decide_eq_false (show ¬ (2 : Int) < (m : Int) by omega)])); exact hq)) (last_ret ?_)
      refine one hj ?_
      by_cases q : (g + 1) % m = g
      · exact .inr (by rw [q]; exact bgg)
      · exact .inl q
  refine if_go (g_and0 (g_eq rfl (e9 h4))) (if_go (g_and0 (g_eq rfl (e6 h1))) (last_ret ?_))
  show Q (V.ref (H.length + 1)) _
  refine AllV.get (p := fun t => Q (V.ref (H.length + 1)) (H ++ O.list [V.none] :: O.list ((List.replicate m V.none).set g t) :: L :: [O.list [V.int 0], O.list [V.int (g : Int), V.int (((g + 1) % m : Nat) : Int), V.int (m : Int), V.bool ((g : Int) == 0), V.int (o : Int), V.int (-1), V.str (Str.ofString "0"), V.ref (H.length + 3)]])) ?_ hi
  exact ⟨one hgm (.inr bgg), one (next_ones hgm).1 (by
      by_cases q : (g + 1) % m = g
      · exact .inr (by rw [q]; exact bgg)
      · exact .inl q), thing nofun (.int (by omega)), thing nofun .bool, one ho.1 (.inr ho.2), thing nofun (.int (by omega)), thing nofun .str, thing nofun (.list ((get_at H _ 3).trans rfl)), trivial⟩
end
end Mine

namespace Mine
open PySem

noncomputable abbrev C3 : Ctx := ⟨false, callN P3 false 199, P3.glob⟩
structure E3 (m g k q wy w : Nat) (v : V) (ρ : Env) : Prop where
  script : ρ "_law_script" = some (.ref 0)
  many : ρ "_law_many" = some (.int (m : Int))
  wishes : ρ "_law_wishes" = some (.ref w)
  guest : ρ "_law_guest" = some (.int (g : Int))
  kind : ρ "_law_kind" = some (.int (k : Int))
  which : ρ "_law_which" = some (.int (q : Int))
  way : ρ "_law_way" = some (.int (wy : Int))
  bad : ρ "_law_bad" = some v
theorem E3.set {m g k q wy w : Nat} {v v' : V} {ρ : Env} (h : E3 m g k q wy w v ρ) : E3 m g k q wy w v' (ρ.set "_law_bad" v') :=
  ⟨h.script, h.many, h.wishes, h.guest, h.kind, h.which, h.way, rfl⟩

section
variable {m g k q wy w : Nat} {v : V} {ρ : Env} {H : Hp} {K : SPost} {X : SXP} {W : List (List Int)}

noncomputable def ite0 : S := .ite (.and_ [.op (.cmp .eq) [.var "_law_kind", .int 0], .op (.cmp .eq) [.op (.bin .mod) [.var "_law_way", .int 11], .int 10], .op (.cmp .notIn) [.var "_law_which", .op .mkTuple [.int 3, .int 4]]])
    [.assign "_law_bad" .none]
    []
theorem w_ite0 (hE : E3 m g k q wy w v ρ) (hm : W.length = m) (hv : NG v m H) (hn : v ≠ .none) (h : ∀ ρ' H' v', H <+: H' → E3 m g k q wy w v' ρ' → (k = 0 → Bad 0 q g W v' H') → K none ρ' H') : wS C3 ite0 ρ H K X := by
  have z : ((11 : Int) = 0) = False := by simp
  have l2 : (2 ≤ lim) = True := by simp [lim]
  have stay : ∀ {H'}, H <+: H' → K none ρ H' := fun hp => h _ _ v hp hE fun _ => ⟨by rw [hm]; exact hv.pre hp, fun _ => hn⟩
  have mt : mem (H ++ [O.tuple [.int 3, .int 4]]) (.int (q : Int)) (.ref H.length) = some (decide ((q : Int) ∈ [(3 : Int), 4])) := by
    rw [mem_ref (get_new H (O.tuple [.int 3, .int 4]))]; exact inD_ints (H ++ [O.tuple [.int 3, .int 4]]) (q : Int) [3, 4]
  unfold ite0
  (repeat (first | dsimp only [XK, XL] | dsimp only [ZA,ZB,ZC,ZD,ZE,ZF,ZG,ZH,ZI,ZJ,ZK,ZL,ZM,ZN,ZO,ZP,ZQ,ZR,ZS,ZT,ZU,ZV,ZW,ZX,ZY,ZZ,Za,Zb,Zc,Zd,Ze,Zf,Zg,Zh,Zi,Zj,Zk,Zl,Zm,Zn,Zo,Zp,Zq,Zr,Zs,Zt,Zu,Zv,Zw,Zx,Zy,Zz,YA,YB,YC,YD,YE,YF,YG,YH,YI,YJ,YK,YL,YM,YN,YO,YP,YQ,YR,YS,Env.set,cond_true,cond_false,String.reduceBEq,YT,YU,YV,YW,YX,YY,YZ,Ya,Yb,Yc,Yd,Ye,Yf,Yg] | simp only [Yh,Yi,true_and,Yj,Yk,Yl,Ym,Yn,Yo,Yp,Yq,Yr,Yt,Yu,Yv,Yw,Yx,Yy,Yz,XA,XB,XD,XE,XF,XG,beq_self_eq_true,reduceIte,reduceCtorEq,↓reduceIte,XH,XI,XJ, hE.kind, hE.way, hE.which, z, l2, Nat.reduceAdd]))
  refine ⟨fun h0 => ⟨fun h1 => ?_, fun h1 => stay (List.prefix_refl _)⟩, fun h0 => stay (List.prefix_refl _)⟩
  rw [mt]
  (repeat (first | dsimp only [XK, XL] | dsimp only [ZA,ZB,ZC,ZD,ZE,ZF,ZG,ZH,ZI,ZJ,ZK,ZL,ZM,ZN,ZO,ZP,ZQ,ZR,ZS,ZT,ZU,ZV,ZW,ZX,ZY,ZZ,Za,Zb,Zc,Zd,Ze,Zf,Zg,Zh,Zi,Zj,Zk,Zl,Zm,Zn,Zo,Zp,Zq,Zr,Zs,Zt,Zu,Zv,Zw,Zx,Zy,Zz,YA,YB,YC,YD,YE,YF,YG,YH,YI,YJ,YK,YL,YM,YN,YO,YP,YQ,YR,YS,Env.set,cond_true,cond_false,String.reduceBEq,YT,YU,YV,YW,YX,YY,YZ,Ya,Yb,Yc,Yd,Ye,Yf,Yg] | simp only [Yh,Yi,true_and,Yj,Yk,Yl,Ym,Yn,Yo,Yp,Yq,Yr,Yt,Yu,Yv,Yw,Yx,Yy,Yz,XA,XB,XD,XE,XF,XG,beq_self_eq_true,reduceIte,reduceCtorEq,↓reduceIte,XH,XI,XJ]))
  refine ⟨fun h2 => ?_, fun h2 => stay (pre_new _ _)⟩
  refine h _ _ .none (pre_new _ _) hE.set fun _ => ⟨.none, fun hq => ?_⟩
  exfalso
  have : ¬ ((q : Int) ∈ [(3 : Int), 4]) := by simpa using h2
  rcases hq with rfl | rfl <;> simp at this

theorem getD_ints {l : List Nat} {i : Nat} (h : i < l.length) : (l.map fun n : Nat => V.int (n : Int)).getD i .none = .int ((l.getD i 0 : Nat) : Int) := by
  rw [List.getD_eq_getElem?_getD, List.getD_eq_getElem?_getD, List.getElem?_map, List.getElem?_eq_getElem h]; rfl
theorem ways_lt : ∀ i : Nat, i < 14 → [6, 10, 11, 9, 5, 8, 7, 12, 3, 13, 2, 1, 0, 4].getD i 0 < 14 := by decide
noncomputable def ite1 : S := .ite (.op (.cmp .eq) [.var "_law_kind", .int 1])
    [.assign "_law_bad" (.call "_law_bad_mates" [.var "_law_wishes", .var "_law_guest", .op .item [.op .mkList [.int 6, .int 10, .int 11, .int 9, .int 5, .int 8, .int 7, .int 12, .int 3, .int 13, .int 2, .int 1, .int 0, .int 4], .op (.bin .mod) [.var "_law_way", .int 14]]])]
    []
theorem w_ite1 (hE : E3 m g k q wy w v ρ) (hm : W.length = m) (hw : WH H w W) (ok : WOk W) (hg : g < m) (hb : k = 0 → Bad 0 q g W v H) (h : ∀ ρ' H' v', H <+: H' → E3 m g k q wy w v' ρ' → (k ≤ 1 → Bad k q g W v' H') → K none ρ' H') : wS C3 ite1 ρ H K X := by
  have z : ((14 : Int) = 0) = False := by simp
  have l14 : (14 ≤ lim) = True := by simp [lim]
  have mw : (wy : Int).fmod 14 = ((wy % 14 : Nat) : Int) := mod_nat
  unfold ite1
  by_cases hk : k = 1
  · subst hk
    refine wS_do (g_eq hE.kind rfl) ?_
    (repeat (first | dsimp only [XK, XL] | dsimp only [ZA,ZB,ZC,ZD,ZE,ZF,ZG,ZH,ZI,ZJ,ZK,ZL,ZM,ZN,ZO,ZP,ZQ,ZR,ZS,ZT,ZU,ZV,ZW,ZX,ZY,ZZ,Za,Zb,Zc,Zd,Ze,Zf,Zg,Zh,Zi,Zj,Zk,Zl,Zm,Zn,Zo,Zp,Zq,Zr,Zs,Zt,Zu,Zv,Zw,Zx,Zy,Zz,YA,YB,YC,YD,YE,YF,YG,YH,YI,YJ,YK,YL,YM,YN,YO,YP,YQ,YR,YS,Env.set,cond_true,cond_false,String.reduceBEq,YT,YU,YV,YW,YX,YY,YZ,Ya,Yb,Yc,Yd,Ye,Yf,Yg] | simp only [Yh,Yi,true_and,Yj,Yk,Yl,Ym,Yn,Yo,Yp,Yq,Yr,Yt,Yu,Yv,Yw,Yx,Yy,Yz,XA,XB,XD,XE,XF,XG,beq_self_eq_true,reduceIte,reduceCtorEq,↓reduceIte,XH,XI,XJ, hE.wishes, hE.guest, hE.way, z, l14, mw, Nat.reduceAdd]))
    have hr : wy % 14 < 14 := by omega
    obtain ⟨r, hr', er⟩ : ∃ r : Nat, r < 14 ∧ itemV (.ref H.length) (.int ((wy % 14 : Nat) : Int)) (H ++ [O.list [.int 6, .int 10, .int 11, .int 9, .int 5, .int 8, .int 7, .int 12, .int 3, .int 13, .int 2, .int 1, .int 0, .int 4]]) = some (.int (r : Int)) := by
      generalize wy % 14 = i at hr
      exact ⟨[6, 10, 11, 9, 5, 8, 7, 12, 3, 13, 2, 1, 0, 4].getD i 0, ways_lt i hr, (item_of (get_new H (O.list [.int 6, .int 10, .int 11, .int 9, .int 5, .int 8, .int 7, .int 12, .int 3, .int 13, .int 2, .int 1, .int 0, .int 4])) hr).trans (congrArg some (getD_ints (l := [6, 10, 11, 9, 5, 8, 7, 12, 3, 13, 2, 1, 0, 4]) hr))⟩
    rw [er]
    (repeat (first | dsimp only [XK, XL] | dsimp only [ZA,ZB,ZC,ZD,ZE,ZF,ZG,ZH,ZI,ZJ,ZK,ZL,ZM,ZN,ZO,ZP,ZQ,ZR,ZS,ZT,ZU,ZV,ZW,ZX,ZY,ZZ,Za,Zb,Zc,Zd,Ze,Zf,Zg,Zh,Zi,Zj,Zk,Zl,Zm,Zn,Zo,Zp,Zq,Zr,Zs,Zt,Zu,Zv,Zw,Zx,Zy,Zz,YA,YB,YC,YD,YE,YF,YG,YH,YI,YJ,YK,YL,YM,YN,YO,YP,YQ,YR,YS,Env.set,cond_true,cond_false,String.reduceBEq,YT,YU,YV,YW,YX,YY,YZ,Ya,Yb,Yc,Yd,Ye,Yf,Yg] | simp only [Yh,Yi,true_and,Yj,Yk,Yl,Ym,Yn,Yo,Yp,Yq,Yr,Yt,Yu,Yv,Yw,Yx,Yy,Yz,XA,XB,XD,XE,XF,XG,beq_self_eq_true,reduceIte,reduceCtorEq,↓reduceIte,XH,XI,XJ]))
    refine s_bad_mates (hw.pre (pre_new _ _)) ok (by omega) hr' fun H' v' hp hv' => ?_
    exact h _ _ v' ((pre_new _ _).trans hp) hE.set fun _ => hv'
  · have e1 : ((k : Int) == 1) = false := by simpa using fun e => hk (by omega)
    refine wS_go (g_eq hE.kind e1) (h _ _ v (List.prefix_refl _) hE fun hk1 => ?_)
    obtain rfl : k = 0 := by omega
    exact hb rfl

noncomputable def ite2 : S := .ite (.op (.cmp .eq) [.var "_law_kind", .int 2])
    [.assign "_law_bad" (.call "_law_bad_after" [.var "_law_many", .var "_law_guest", .op (.bin .mod) [.var "_law_way", .int 13]]),
    .ite (.and_ [.op (.cmp .eq) [.op (.bin .mod) [.var "_law_which", .int 3], .int 1], .op (.cmp .eq) [.op (.bin .mod) [.var "_law_way", .int 4], .int 3]])
      [.assign "_law_bad" (.op .listRange [.op (.bin .sub) [.op (.bin .add) [.var "_law_many", .int 1], .op (.bin .mul) [.int 2, .op .int [.op (.cmp .eq) [.var "_law_many", .int 6]]]]])]
      []]
    []
theorem parB_range : ∀ N : Nat, N < 7 → parB ((List.range N).map fun i : Nat => (i : Int)) = true := by decide
theorem w_ite2 (hE : E3 m g k q wy w v ρ) (hm : W.length = m) (hm6 : m ≤ 6) (hg : g < m) (hb : k ≤ 1 → Bad k q g W v H) (h : ∀ ρ' H' v', H <+: H' → E3 m g k q wy w v' ρ' → (k ≤ 2 → Bad k q g W v' H') → K none ρ' H') : wS C3 ite2 ρ H K X := by
  have z13 : ((13 : Int) = 0) = False := by simp
  have z3 : ((3 : Int) = 0) = False := by simp
  have z4 : ((4 : Int) = 0) = False := by simp
  have mw : (wy : Int).fmod 13 = ((wy % 13 : Nat) : Int) := mod_nat
  have mq3 : (q : Int).fmod 3 = ((q % 3 : Nat) : Int) := mod_nat
  unfold ite2
  by_cases hk : k = 2
  · subst hk
    refine wS_do (g_eq hE.kind rfl) (wSs_step fun K' hn' hr' => ?_)
    (repeat (first | dsimp only [XK, XL] | dsimp only [ZA,ZB,ZC,ZD,ZE,ZF,ZG,ZH,ZI,ZJ,ZK,ZL,ZM,ZN,ZO,ZP,ZQ,ZR,ZS,ZT,ZU,ZV,ZW,ZX,ZY,ZZ,Za,Zb,Zc,Zd,Ze,Zf,Zg,Zh,Zi,Zj,Zk,Zl,Zm,Zn,Zo,Zp,Zq,Zr,Zs,Zt,Zu,Zv,Zw,Zx,Zy,Zz,YA,YB,YC,YD,YE,YF,YG,YH,YI,YJ,YK,YL,YM,YN,YO,YP,YQ,YR,YS,Env.set,cond_true,cond_false,String.reduceBEq,YT,YU,YV,YW,YX,YY,YZ,Ya,Yb,Yc,Yd,Ye,Yf,Yg] | simp only [Yh,Yi,true_and,Yj,Yk,Yl,Ym,Yn,Yo,Yp,Yq,Yr,Yt,Yu,Yv,Yw,Yx,Yy,Yz,XA,XB,XD,XE,XF,XG,beq_self_eq_true,reduceIte,reduceCtorEq,↓reduceIte,XH,XI,XJ, hE.many, hE.guest, hE.way, z13, mw]))
    refine s_bad_after hg hm6 (by omega) fun H' v' hp hv' => ?_
    refine hn' _ _ ?_
    clear hn' hr' K'
    have hE' : E3 m g 2 q wy w v' (ρ.set "_law_bad" v') := hE.set
    have stay : K none (ρ.set "_law_bad" v') H' := h _ _ v' hp hE' fun _ => .inl hv'
    (repeat (first | dsimp only [XK, XL] | dsimp only [ZA,ZB,ZC,ZD,ZE,ZF,ZG,ZH,ZI,ZJ,ZK,ZL,ZM,ZN,ZO,ZP,ZQ,ZR,ZS,ZT,ZU,ZV,ZW,ZX,ZY,ZZ,Za,Zb,Zc,Zd,Ze,Zf,Zg,Zh,Zi,Zj,Zk,Zl,Zm,Zn,Zo,Zp,Zq,Zr,Zs,Zt,Zu,Zv,Zw,Zx,Zy,Zz,YA,YB,YC,YD,YE,YF,YG,YH,YI,YJ,YK,YL,YM,YN,YO,YP,YQ,YR,YS,Env.set,cond_true,cond_false,String.reduceBEq,YT,YU,YV,YW,YX,YY,YZ,Ya,Yb,Yc,Yd,Ye,Yf,Yg] | simp only [Yh,Yi,true_and,Yj,Yk,Yl,Ym,Yn,Yo,Yp,Yq,Yr,Yt,Yu,Yv,Yw,Yx,Yy,Yz,XA,XB,XD,XE,XF,XG,beq_self_eq_true,reduceIte,reduceCtorEq,↓reduceIte,XH,XI,XJ, hE.which, hE.way, z3, z4, mq3, hE.many]))
    refine ⟨fun h1 => ⟨fun h2 => ?_, fun h2 => stay⟩, fun h1 => stay⟩
    have hq3 : q % 3 = 1 := by have : ((q % 3 : Nat) : Int) = 1 := by simpa using h1
                               omega
    obtain ⟨N, c, n0, n7, nm, ec, em, eN⟩ : ∃ (N : Nat) (c : Int), 0 < N ∧ N < 7 ∧ N ≠ m ∧ intV (.bool ((m : Int) == 6)) = some (.int c) ∧ mulV (.int 2) (.int c) H' = some (.int (2 * c), H') ∧ (m : Int) + 1 - 2 * c = (N : Int) := by
      by_cases h6 : m = 6
      · exact ⟨5, 1, by omega, by omega, by omega, by rw [h6]; rfl, rfl, by rw [h6]; rfl⟩
      · have : ((m : Int) == 6) = false := by simpa using fun e => h6 (by omega)
        exact ⟨m + 1, 0, by omega, by omega, by omega, by rw [this]; rfl, rfl, by simp⟩
    have hNl : N ≤ lim := by unfold lim; omega
    have ln : ((rangeI 0 (N : Int) 1).length ≤ lim) = True := by
      have := congrArg List.length (rangeI_rng N)
      rw [List.length_map, rng_len] at this
      rw [this]; simp [hNl]
    (repeat (first | dsimp only [XK, XL] | dsimp only [ZA,ZB,ZC,ZD,ZE,ZF,ZG,ZH,ZI,ZJ,ZK,ZL,ZM,ZN,ZO,ZP,ZQ,ZR,ZS,ZT,ZU,ZV,ZW,ZX,ZY,ZZ,Za,Zb,Zc,Zd,Ze,Zf,Zg,Zh,Zi,Zj,Zk,Zl,Zm,Zn,Zo,Zp,Zq,Zr,Zs,Zt,Zu,Zv,Zw,Zx,Zy,Zz,YA,YB,YC,YD,YE,YF,YG,YH,YI,YJ,YK,YL,YM,YN,YO,YP,YQ,YR,YS,Env.set,cond_true,cond_false,String.reduceBEq,YT,YU,YV,YW,YX,YY,YZ,Ya,Yb,Yc,Yd,Ye,Yf,Yg] | simp only [Yh,Yi,true_and,Yj,Yk,Yl,Ym,Yn,Yo,Yp,Yq,Yr,Yt,Yu,Yv,Yw,Yx,Yy,Yz,XA,XB,XD,XE,XF,XG,beq_self_eq_true,reduceIte,reduceCtorEq,↓reduceIte,XH,XI,XJ, ec, em, eN, range_nat hNl, ln]))
    refine h _ _ (.ref H'.length) (hp.trans (pre_new _ _)) ⟨hE.script, hE.many, hE.wishes, hE.guest, hE.kind, hE.which, hE.way, rfl⟩ fun _ => .inr ⟨hq3, _, (List.range N).map fun i : Nat => (i : Int), rfl, ?_, by simp; omega, parB_range N n7, by simp; omega⟩
    unfold LI
    rw [get_new]
    simp [rng]
  · have e1 : ((k : Int) == 2) = false := by simpa using fun e => hk (by omega)
    exact wS_go (g_eq hE.kind e1) (h _ _ v (List.prefix_refl _) hE fun hk1 => hb (by omega))

noncomputable def ite3 : S := .ite (.op (.cmp .eq) [.var "_law_kind", .int 3])
    [.assign "_law_bad" (.call "_law_bad_row" [.var "_law_many", .var "_law_guest", .var "_law_way"])]
    []
theorem w_ite3 (hk4 : k < 4) (hE : E3 m g k q wy w v ρ) (hm : W.length = m) (hm6 : m ≤ 6) (hg : g < m) (hb : k ≤ 2 → Bad k q g W v H) (h : ∀ ρ' H' v', H <+: H' → E3 m g k q wy w v' ρ' → Bad k q g W v' H' → K none ρ' H') : wS C3 ite3 ρ H K X := by
  unfold ite3
  by_cases hk : k = 3
  · subst hk
    refine wS_do (g_eq hE.kind rfl) ?_
    (repeat (first | dsimp only [XK, XL] | dsimp only [ZA,ZB,ZC,ZD,ZE,ZF,ZG,ZH,ZI,ZJ,ZK,ZL,ZM,ZN,ZO,ZP,ZQ,ZR,ZS,ZT,ZU,ZV,ZW,ZX,ZY,ZZ,Za,Zb,Zc,Zd,Ze,Zf,Zg,Zh,Zi,Zj,Zk,Zl,Zm,Zn,Zo,Zp,Zq,Zr,Zs,Zt,Zu,Zv,Zw,Zx,Zy,Zz,YA,YB,YC,YD,YE,YF,YG,YH,YI,YJ,YK,YL,YM,YN,YO,YP,YQ,YR,YS,Env.set,cond_true,cond_false,String.reduceBEq,YT,YU,YV,YW,YX,YY,YZ,Ya,Yb,Yc,Yd,Ye,Yf,Yg] | simp only [Yh,Yi,true_and,Yj,Yk,Yl,Ym,Yn,Yo,Yp,Yq,Yr,Yt,Yu,Yv,Yw,Yx,Yy,Yz,XA,XB,XD,XE,XF,XG,beq_self_eq_true,reduceIte,reduceCtorEq,↓reduceIte,XH,XI,XJ, hE.many, hE.guest, hE.way]))
    refine s_bad_row hg hm6 fun H' v' hp hv' => ?_
    exact h _ _ v' hp hE.set (by show RowBad P3 false v' g W.length H'; rw [hm]; exact hv')
  · have e1 : ((k : Int) == 3) = false := by simpa using fun e => hk (by omega)
    exact wS_go (g_eq hE.kind e1) (h _ _ v (List.prefix_refl _) hE (hb (by omega)))

set_option maxRecDepth 10000 in
theorem main03 (is : List Int) : callN prog03 false 200 "law" [.ref 0] [.frozen (is.map .int)] (fun v _ => v = .bool true) (fun _ _ => False) := by
  have hs : ∀ {H : Hp}, [O.frozen (is.map .int)] <+: H → H[0]? = some (.frozen (is.map .int)) := fun hp => pre_get hp rfl
  have hq : ∀ {H : Hp}, [O.frozen (is.map .int)] <+: H → seqOf H 0 = some (is.map .int) := fun hp => by unfold seqOf; rw [hs hp]
  have p0 : [O.frozen (is.map .int)] <+: [O.frozen (is.map .int)] := List.prefix_refl _
  have z6 : ((6 : Int) = 0) = False := by simp
  have z4 : ((4 : Int) = 0) = False := by simp
  have z30 : ((30 : Int) = 0) = False := by simp
  have z10 : ((10 : Int) = 0) = False := by simp
  have z2 : ((2 : Int) = 0) = False := by simp
  have z6' : ((6 : Int) = 0 ∨ 2 ^ 30 ≤ (6 : Int).natAbs) = False := by simp
  have z3' : ((3 : Int) = 0 ∨ 2 ^ 30 ≤ (3 : Int).natAbs) = False := by simp
  have z4' : ((4 : Int) = 0 ∨ 2 ^ 30 ≤ (4 : Int).natAbs) = False := by simp
  have z24' : ((24 : Int) = 0 ∨ 2 ^ 30 ≤ (24 : Int).natAbs) = False := by simp
  (refine callN_in (show prog03.fn "law" = some f_law_03 from rfl) rfl ?_; unfold f_law_03)
  -- many
  refine wSs_step fun K hn hr => ?_
  (repeat (first | dsimp only [XK, XL] | dsimp only [ZA,ZB,ZC,ZD,ZE,ZF,ZG,ZH,ZI,ZJ,ZK,ZL,ZM,ZN,ZO,ZP,ZQ,ZR,ZS,ZT,ZU,ZV,ZW,ZX,ZY,ZZ,Za,Zb,Zc,Zd,Ze,Zf,Zg,Zh,Zi,Zj,Zk,Zl,Zm,Zn,Zo,Zp,Zq,Zr,Zs,Zt,Zu,Zv,Zw,Zx,Zy,Zz,YA,YB,YC,YD,YE,YF,YG,YH,YI,YJ,YK,YL,YM,YN,YO,YP,YQ,YR,YS,Env.set,cond_true,cond_false,String.reduceBEq,YT,YU,YV,YW,YX,YY,YZ,Ya,Yb,Yc,Yd,Ye,Yf,Yg] | simp only [Yh,Yi,true_and,Yj,Yk,Yl,Ym,Yn,Yo,Yp,Yq,Yr,Yt,Yu,Yv,Yw,Yx,Yy,Yz,XA,XB,XD,XE,XF,XG,beq_self_eq_true,reduceIte,reduceCtorEq,↓reduceIte,XH,XI,XJ]))
  refine s_cell_at (k := 0) rfl (hq p0) ?_
  obtain ⟨m0, hm0, em⟩ := fmod_nat (is.getD 0 0) (m := 6) (by omega)
  have em' : (is.getD 0 0).fmod 6 = (m0 : Int) := em
  have em2 : (1 : Int) + (m0 : Int) = ((m0 + 1 : Nat) : Int) := by omega
  (repeat (first | dsimp only [XK, XL] | dsimp only [ZA,ZB,ZC,ZD,ZE,ZF,ZG,ZH,ZI,ZJ,ZK,ZL,ZM,ZN,ZO,ZP,ZQ,ZR,ZS,ZT,ZU,ZV,ZW,ZX,ZY,ZZ,Za,Zb,Zc,Zd,Ze,Zf,Zg,Zh,Zi,Zj,Zk,Zl,Zm,Zn,Zo,Zp,Zq,Zr,Zs,Zt,Zu,Zv,Zw,Zx,Zy,Zz,YA,YB,YC,YD,YE,YF,YG,YH,YI,YJ,YK,YL,YM,YN,YO,YP,YQ,YR,YS,Env.set,cond_true,cond_false,String.reduceBEq,YT,YU,YV,YW,YX,YY,YZ,Ya,Yb,Yc,Yd,Ye,Yf,Yg] | simp only [Yh,Yi,true_and,Yj,Yk,Yl,Ym,Yn,Yo,Yp,Yq,Yr,Yt,Yu,Yv,Yw,Yx,Yy,Yz,XA,XB,XD,XE,XF,XG,beq_self_eq_true,reduceIte,reduceCtorEq,↓reduceIte,XH,XI,XJ, em', em2, z6]))
  refine hn _ _ ?_
  clear hn hr K
  obtain ⟨m, hm⟩ : ∃ m, m = m0 + 1 := ⟨_, rfl⟩
  rw [← hm]
  have zm : ((m : Int) = 0) = False := by simp; omega
  -- wishes
  refine wSs_step fun K hn hr => ?_
  (repeat (first | dsimp only [XK, XL] | dsimp only [ZA,ZB,ZC,ZD,ZE,ZF,ZG,ZH,ZI,ZJ,ZK,ZL,ZM,ZN,ZO,ZP,ZQ,ZR,ZS,ZT,ZU,ZV,ZW,ZX,ZY,ZZ,Za,Zb,Zc,Zd,Ze,Zf,Zg,Zh,Zi,Zj,Zk,Zl,Zm,Zn,Zo,Zp,Zq,Zr,Zs,Zt,Zu,Zv,Zw,Zx,Zy,Zz,YA,YB,YC,YD,YE,YF,YG,YH,YI,YJ,YK,YL,YM,YN,YO,YP,YQ,YR,YS,Env.set,cond_true,cond_false,String.reduceBEq,YT,YU,YV,YW,YX,YY,YZ,Ya,Yb,Yc,Yd,Ye,Yf,Yg] | simp only [Yh,Yi,true_and,Yj,Yk,Yl,Ym,Yn,Yo,Yp,Yq,Yr,Yt,Yu,Yv,Yw,Yx,Yy,Yz,XA,XB,XD,XE,XF,XG,beq_self_eq_true,reduceIte,reduceCtorEq,↓reduceIte,XH,XI,XJ]))
  refine s_wishes_by rfl rfl rfl rfl (by omega) (by omega) fun H1 w W hp1 hW ok hWl => ?_
  refine hn _ _ ?_
  clear hn hr K
  -- guest
  refine wSs_step fun K hn hr => ?_
  (repeat (first | dsimp only [XK, XL] | dsimp only [ZA,ZB,ZC,ZD,ZE,ZF,ZG,ZH,ZI,ZJ,ZK,ZL,ZM,ZN,ZO,ZP,ZQ,ZR,ZS,ZT,ZU,ZV,ZW,ZX,ZY,ZZ,Za,Zb,Zc,Zd,Ze,Zf,Zg,Zh,Zi,Zj,Zk,Zl,Zm,Zn,Zo,Zp,Zq,Zr,Zs,Zt,Zu,Zv,Zw,Zx,Zy,Zz,YA,YB,YC,YD,YE,YF,YG,YH,YI,YJ,YK,YL,YM,YN,YO,YP,YQ,YR,YS,Env.set,cond_true,cond_false,String.reduceBEq,YT,YU,YV,YW,YX,YY,YZ,Ya,Yb,Yc,Yd,Ye,Yf,Yg] | simp only [Yh,Yi,true_and,Yj,Yk,Yl,Ym,Yn,Yo,Yp,Yq,Yr,Yt,Yu,Yv,Yw,Yx,Yy,Yz,XA,XB,XD,XE,XF,XG,beq_self_eq_true,reduceIte,reduceCtorEq,↓reduceIte,XH,XI,XJ]))
  refine s_cell_at (k := 0) rfl (hq hp1) ?_
  obtain ⟨g, hg, eg⟩ := fmod_nat ((is.getD 0 0).fdiv 6) (m := m) (by omega)
  (repeat (first | dsimp only [XK, XL] | dsimp only [ZA,ZB,ZC,ZD,ZE,ZF,ZG,ZH,ZI,ZJ,ZK,ZL,ZM,ZN,ZO,ZP,ZQ,ZR,ZS,ZT,ZU,ZV,ZW,ZX,ZY,ZZ,Za,Zb,Zc,Zd,Ze,Zf,Zg,Zh,Zi,Zj,Zk,Zl,Zm,Zn,Zo,Zp,Zq,Zr,Zs,Zt,Zu,Zv,Zw,Zx,Zy,Zz,YA,YB,YC,YD,YE,YF,YG,YH,YI,YJ,YK,YL,YM,YN,YO,YP,YQ,YR,YS,Env.set,cond_true,cond_false,String.reduceBEq,YT,YU,YV,YW,YX,YY,YZ,Ya,Yb,Yc,Yd,Ye,Yf,Yg] | simp only [Yh,Yi,true_and,Yj,Yk,Yl,Ym,Yn,Yo,Yp,Yq,Yr,Yt,Yu,Yv,Yw,Yx,Yy,Yz,XA,XB,XD,XE,XF,XG,beq_self_eq_true,reduceIte,reduceCtorEq,↓reduceIte,XH,XI,XJ, z6', zm, eg]))
  refine hn _ _ ?_
  clear hn hr K
  -- kind
  refine wSs_step fun K hn hr => ?_
  (repeat (first | dsimp only [XK, XL] | dsimp only [ZA,ZB,ZC,ZD,ZE,ZF,ZG,ZH,ZI,ZJ,ZK,ZL,ZM,ZN,ZO,ZP,ZQ,ZR,ZS,ZT,ZU,ZV,ZW,ZX,ZY,ZZ,Za,Zb,Zc,Zd,Ze,Zf,Zg,Zh,Zi,Zj,Zk,Zl,Zm,Zn,Zo,Zp,Zq,Zr,Zs,Zt,Zu,Zv,Zw,Zx,Zy,Zz,YA,YB,YC,YD,YE,YF,YG,YH,YI,YJ,YK,YL,YM,YN,YO,YP,YQ,YR,YS,Env.set,cond_true,cond_false,String.reduceBEq,YT,YU,YV,YW,YX,YY,YZ,Ya,Yb,Yc,Yd,Ye,Yf,Yg] | simp only [Yh,Yi,true_and,Yj,Yk,Yl,Ym,Yn,Yo,Yp,Yq,Yr,Yt,Yu,Yv,Yw,Yx,Yy,Yz,XA,XB,XD,XE,XF,XG,beq_self_eq_true,reduceIte,reduceCtorEq,↓reduceIte,XH,XI,XJ]))
  refine s_cell_at (k := 2) rfl (hq hp1) ?_
  obtain ⟨k, hk, ek⟩ := fmod_nat (is.getD 2 0) (m := 4) (by omega)
  have ek' : (is.getD 2 0).fmod 4 = (k : Int) := ek
  (repeat (first | dsimp only [XK, XL] | dsimp only [ZA,ZB,ZC,ZD,ZE,ZF,ZG,ZH,ZI,ZJ,ZK,ZL,ZM,ZN,ZO,ZP,ZQ,ZR,ZS,ZT,ZU,ZV,ZW,ZX,ZY,ZZ,Za,Zb,Zc,Zd,Ze,Zf,Zg,Zh,Zi,Zj,Zk,Zl,Zm,Zn,Zo,Zp,Zq,Zr,Zs,Zt,Zu,Zv,Zw,Zx,Zy,Zz,YA,YB,YC,YD,YE,YF,YG,YH,YI,YJ,YK,YL,YM,YN,YO,YP,YQ,YR,YS,Env.set,cond_true,cond_false,String.reduceBEq,YT,YU,YV,YW,YX,YY,YZ,Ya,Yb,Yc,Yd,Ye,Yf,Yg] | simp only [Yh,Yi,true_and,Yj,Yk,Yl,Ym,Yn,Yo,Yp,Yq,Yr,Yt,Yu,Yv,Yw,Yx,Yy,Yz,XA,XB,XD,XE,XF,XG,beq_self_eq_true,reduceIte,reduceCtorEq,↓reduceIte,XH,XI,XJ, z4, ek']))
  refine hn _ _ ?_
  clear hn hr K
  -- which
  refine wSs_step fun K hn hr => ?_
  (repeat (first | dsimp only [XK, XL] | dsimp only [ZA,ZB,ZC,ZD,ZE,ZF,ZG,ZH,ZI,ZJ,ZK,ZL,ZM,ZN,ZO,ZP,ZQ,ZR,ZS,ZT,ZU,ZV,ZW,ZX,ZY,ZZ,Za,Zb,Zc,Zd,Ze,Zf,Zg,Zh,Zi,Zj,Zk,Zl,Zm,Zn,Zo,Zp,Zq,Zr,Zs,Zt,Zu,Zv,Zw,Zx,Zy,Zz,YA,YB,YC,YD,YE,YF,YG,YH,YI,YJ,YK,YL,YM,YN,YO,YP,YQ,YR,YS,Env.set,cond_true,cond_false,String.reduceBEq,YT,YU,YV,YW,YX,YY,YZ,Ya,Yb,Yc,Yd,Ye,Yf,Yg] | simp only [Yh,Yi,true_and,Yj,Yk,Yl,Ym,Yn,Yo,Yp,Yq,Yr,Yt,Yu,Yv,Yw,Yx,Yy,Yz,XA,XB,XD,XE,XF,XG,beq_self_eq_true,reduceIte,reduceCtorEq,↓reduceIte,XH,XI,XJ]))
  refine s_cell_at (k := 2) rfl (hq hp1) ?_
  obtain ⟨q, hqq, eq⟩ := fmod_nat ((is.getD 2 0).fdiv 4) (m := 6) (by omega)
  have eq' : ((is.getD 2 0).fdiv 4).fmod 6 = (q : Int) := eq
  (repeat (first | dsimp only [XK, XL] | dsimp only [ZA,ZB,ZC,ZD,ZE,ZF,ZG,ZH,ZI,ZJ,ZK,ZL,ZM,ZN,ZO,ZP,ZQ,ZR,ZS,ZT,ZU,ZV,ZW,ZX,ZY,ZZ,Za,Zb,Zc,Zd,Ze,Zf,Zg,Zh,Zi,Zj,Zk,Zl,Zm,Zn,Zo,Zp,Zq,Zr,Zs,Zt,Zu,Zv,Zw,Zx,Zy,Zz,YA,YB,YC,YD,YE,YF,YG,YH,YI,YJ,YK,YL,YM,YN,YO,YP,YQ,YR,YS,Env.set,cond_true,cond_false,String.reduceBEq,YT,YU,YV,YW,YX,YY,YZ,Ya,Yb,Yc,Yd,Ye,Yf,Yg] | simp only [Yh,Yi,true_and,Yj,Yk,Yl,Ym,Yn,Yo,Yp,Yq,Yr,Yt,Yu,Yv,Yw,Yx,Yy,Yz,XA,XB,XD,XE,XF,XG,beq_self_eq_true,reduceIte,reduceCtorEq,↓reduceIte,XH,XI,XJ, z4', z6, eq']))
  refine hn _ _ ?_
  clear hn hr K
  -- way
  refine wSs_step fun K hn hr => ?_
  (repeat (first | dsimp only [XK, XL] | dsimp only [ZA,ZB,ZC,ZD,ZE,ZF,ZG,ZH,ZI,ZJ,ZK,ZL,ZM,ZN,ZO,ZP,ZQ,ZR,ZS,ZT,ZU,ZV,ZW,ZX,ZY,ZZ,Za,Zb,Zc,Zd,Ze,Zf,Zg,Zh,Zi,Zj,Zk,Zl,Zm,Zn,Zo,Zp,Zq,Zr,Zs,Zt,Zu,Zv,Zw,Zx,Zy,Zz,YA,YB,YC,YD,YE,YF,YG,YH,YI,YJ,YK,YL,YM,YN,YO,YP,YQ,YR,YS,Env.set,cond_true,cond_false,String.reduceBEq,YT,YU,YV,YW,YX,YY,YZ,Ya,Yb,Yc,Yd,Ye,Yf,Yg] | simp only [Yh,Yi,true_and,Yj,Yk,Yl,Ym,Yn,Yo,Yp,Yq,Yr,Yt,Yu,Yv,Yw,Yx,Yy,Yz,XA,XB,XD,XE,XF,XG,beq_self_eq_true,reduceIte,reduceCtorEq,↓reduceIte,XH,XI,XJ]))
  refine s_cell_at (k := 2) rfl (hq hp1) ?_
  obtain ⟨wy, hwy, ewy⟩ := fmod_nat ((is.getD 2 0).fdiv 24) (m := 30) (by omega)
  have ewy' : ((is.getD 2 0).fdiv 24).fmod 30 = (wy : Int) := ewy
  (repeat (first | dsimp only [XK, XL] | dsimp only [ZA,ZB,ZC,ZD,ZE,ZF,ZG,ZH,ZI,ZJ,ZK,ZL,ZM,ZN,ZO,ZP,ZQ,ZR,ZS,ZT,ZU,ZV,ZW,ZX,ZY,ZZ,Za,Zb,Zc,Zd,Ze,Zf,Zg,Zh,Zi,Zj,Zk,Zl,Zm,Zn,Zo,Zp,Zq,Zr,Zs,Zt,Zu,Zv,Zw,Zx,Zy,Zz,YA,YB,YC,YD,YE,YF,YG,YH,YI,YJ,YK,YL,YM,YN,YO,YP,YQ,YR,YS,Env.set,cond_true,cond_false,String.reduceBEq,YT,YU,YV,YW,YX,YY,YZ,Ya,Yb,Yc,Yd,Ye,Yf,Yg] | simp only [Yh,Yi,true_and,Yj,Yk,Yl,Ym,Yn,Yo,Yp,Yq,Yr,Yt,Yu,Yv,Yw,Yx,Yy,Yz,XA,XB,XD,XE,XF,XG,beq_self_eq_true,reduceIte,reduceCtorEq,↓reduceIte,XH,XI,XJ, z24', z30, ewy']))
  refine hn _ _ ?_
  clear hn hr K
  -- bad
  refine wSs_step fun K hn hr => ?_
  have l1 : (1 ≤ lim) = True := by simp [lim]
  have l10 : (10 ≤ lim) = True := by simp [lim]
  have mw : (wy : Int).fmod 10 = ((wy % 10 : Nat) : Int) := mod_nat
  (repeat (first | dsimp only [XK, XL] | dsimp only [ZA,ZB,ZC,ZD,ZE,ZF,ZG,ZH,ZI,ZJ,ZK,ZL,ZM,ZN,ZO,ZP,ZQ,ZR,ZS,ZT,ZU,ZV,ZW,ZX,ZY,ZZ,Za,Zb,Zc,Zd,Ze,Zf,Zg,Zh,Zi,Zj,Zk,Zl,Zm,Zn,Zo,Zp,Zq,Zr,Zs,Zt,Zu,Zv,Zw,Zx,Zy,Zz,YA,YB,YC,YD,YE,YF,YG,YH,YI,YJ,YK,YL,YM,YN,YO,YP,YQ,YR,YS,Env.set,cond_true,cond_false,String.reduceBEq,YT,YU,YV,YW,YX,YY,YZ,Ya,Yb,Yc,Yd,Ye,Yf,Yg] | simp only [Yh,Yi,true_and,Yj,Yk,Yl,Ym,Yn,Yo,Yp,Yq,Yr,Yt,Yu,Yv,Yw,Yx,Yy,Yz,XA,XB,XD,XE,XF,XG,beq_self_eq_true,reduceIte,reduceCtorEq,↓reduceIte,XH,XI,XJ, List.append_assoc, List.cons_append, List.nil_append, List.length_append, Nat.reduceAdd, Nat.add_zero, l1, l10, z10, mw]))
  have hw10 : wy % 10 < 10 := by omega
  rw [item_of ((get_at H1 _ 1).trans rfl) hw10]
  dsimp only [Option.map_some, oE_some]
  refine hn _ _ ?_
  clear hn hr K
  have pN : H1 <+: H1 ++ [O.list [V.int 0], O.list [V.int (-1), V.int (m : Int), V.bool true, V.str (Str.ofString "0"), V.ref H1.length, V.int 6, V.bool false, V.int (-(m : Int)), V.int 1000000, V.str (Str.ofString "a")]] := List.prefix_append _ _
  obtain ⟨v, hv, hNG, hvn⟩ : ∃ v, v = [V.int (-1), V.int (m : Int), V.bool true, V.str (Str.ofString "0"), V.ref H1.length, V.int 6, V.bool false, V.int (-(m : Int)), V.int 1000000, V.str (Str.ofString "a")].getD (wy % 10) V.none ∧ NG v m (H1 ++ [O.list [V.int 0], O.list [V.int (-1), V.int (m : Int), V.bool true, V.str (Str.ofString "0"), V.ref H1.length, V.int 6, V.bool false, V.int (-(m : Int)), V.int 1000000, V.str (Str.ofString "a")]]) ∧ v ≠ .none := by
    refine ⟨_, rfl, ?_⟩
    refine AllV.get (p := fun t => NG t m _ ∧ t ≠ .none) ?_ hw10
    exact ⟨⟨NG.int (by omega), nofun⟩, ⟨NG.int (by omega), nofun⟩, ⟨NG.bool, nofun⟩, ⟨NG.str, nofun⟩, ⟨NG.list ((get_at0 H1 _).trans rfl), nofun⟩, ⟨NG.int (by omega), nofun⟩, ⟨NG.bool, nofun⟩, ⟨NG.int (by omega), nofun⟩, ⟨NG.int (by omega), nofun⟩, ⟨NG.str, nofun⟩, trivial⟩
  rw [← hv]
  clear hv
  generalize H1 ++ [O.list [V.int 0], O.list [V.int (-1), V.int (m : Int), V.bool true, V.str (Str.ofString "0"), V.ref H1.length, V.int 6, V.bool false, V.int (-(m : Int)), V.int 1000000, V.str (Str.ofString "a")]] = H2 at pN hNG ⊢
  -- what is wrong
  refine wSs_step fun K hn hr => w_ite0 (m := m) (g := g) (k := k) (q := q) (wy := wy) (w := w) (v := v) (W := W) ⟨rfl, rfl, rfl, rfl, rfl, rfl, rfl, rfl⟩ hWl hNG hvn fun ρ3 H3 v3 p3 E3' b3 => ?_
  refine hn _ _ ?_
  clear hn hr K
  refine wSs_step fun K hn hr => w_ite1 E3' hWl (hW.pre (pN.trans p3)) ok hg b3 fun ρ4 H4 v4 p4 E4 b4 => ?_
  refine hn _ _ ?_
  clear hn hr K
  refine wSs_step fun K hn hr => w_ite2 E4 hWl (by omega) hg b4 fun ρ5 H5 v5 p5 E5 b5 => ?_
  refine hn _ _ ?_
  clear hn hr K
  refine wSs_step fun K hn hr => w_ite3 hk E5 hWl (by omega) hg b5 fun ρ6 H6 v6 p6 E6 b6 => ?_
  refine hn _ _ ?_
  clear hn hr K
  have p16 : H1 <+: H6 := pN.trans (p3.trans (p4.trans (p5.trans p6)))
  have hW6 := hW.pre p16
  have p06 := hp1.trans p16
  clear b3 b4 b5 E3' E4 E5 hNG p3 p4 p5 p6 pN
  have cpy : E.compS (.op .list [.var "_law_row"]) (.one "_law_row") (.var "_law_wishes") [] = copyE "_law_wishes" "_law_row" := rfl
  rw [cpy]
  -- inn
  refine wSs_step fun K hn hr => ?_
  rw [s_assign, e_new, es_cons]
  unfold copyE
  refine w_copyE (w := w) (fun Q hQ => by (repeat (first | dsimp only [XK, XL] | dsimp only [ZA,ZB,ZC,ZD,ZE,ZF,ZG,ZH,ZI,ZJ,ZK,ZL,ZM,ZN,ZO,ZP,ZQ,ZR,ZS,ZT,ZU,ZV,ZW,ZX,ZY,ZZ,Za,Zb,Zc,Zd,Ze,Zf,Zg,Zh,Zi,Zj,Zk,Zl,Zm,Zn,Zo,Zp,Zq,Zr,Zs,Zt,Zu,Zv,Zw,Zx,Zy,Zz,YA,YB,YC,YD,YE,YF,YG,YH,YI,YJ,YK,YL,YM,YN,YO,YP,YQ,YR,YS,Env.set,cond_true,cond_false,String.reduceBEq,YT,YU,YV,YW,YX,YY,YZ,Ya,Yb,Yc,Yd,Ye,Yf,Yg] | simp only [Yh,Yi,true_and,Yj,Yk,Yl,Ym,Yn,Yo,Yp,Yq,Yr,Yt,Yu,Yv,Yw,Yx,Yy,Yz,XA,XB,XD,XE,XF,XG,beq_self_eq_true,reduceIte,reduceCtorEq,↓reduceIte,XH,XI,XJ, E6.wishes])); exact hQ) hW6 fun H7 cp p7 _ hC => ?_
  have := w_newInn (P := prog03) (b := false) (N := 187) (C := C3) (e := .var "y") (ρ := fun _ => some (.ref cp)) (w := cp) (H := H7) (H1 := H7) (W := W) (X := fun _ _ => False) (Q := fun v H' => K none (ρ6.set "_law_inn" v) H') rfl rfl rfl rfl rfl rfl rfl rfl rfl rfl rfl rfl rfl (fun Q q => q) hC.wh ok fun H8 x d iw mv p8 _ _ _ _ hI hWi hmv _ => ?_
  · exact this
  refine hn _ _ ?_
  clear hn hr K
  -- before
  have n1 : ("Inn" ++ "." ++ "twos" : String) = "Inn.twos" := by decide
  have n2 : ("Inn" ++ "." ++ "table" : String) = "Inn.table" := by decide
  refine wSs_step fun K hn hr => ?_
  (repeat (first | dsimp only [XK, XL] | dsimp only [ZA,ZB,ZC,ZD,ZE,ZF,ZG,ZH,ZI,ZJ,ZK,ZL,ZM,ZN,ZO,ZP,ZQ,ZR,ZS,ZT,ZU,ZV,ZW,ZX,ZY,ZZ,Za,Zb,Zc,Zd,Ze,Zf,Zg,Zh,Zi,Zj,Zk,Zl,Zm,Zn,Zo,Zp,Zq,Zr,Zs,Zt,Zu,Zv,Zw,Zx,Zy,Zz,YA,YB,YC,YD,YE,YF,YG,YH,YI,YJ,YK,YL,YM,YN,YO,YP,YQ,YR,YS,Env.set,cond_true,cond_false,String.reduceBEq,YT,YU,YV,YW,YX,YY,YZ,Ya,Yb,Yc,Yd,Ye,Yf,Yg] | simp only [Yh,Yi,true_and,Yj,Yk,Yl,Ym,Yn,Yo,Yp,Yq,Yr,Yt,Yu,Yv,Yw,Yx,Yy,Yz,XA,XB,XD,XE,XF,XG,beq_self_eq_true,reduceIte,reduceCtorEq,↓reduceIte,XH,XI,XJ, e_meth, hI.inst, n1]))
  refine s_twos rfl hI hmv fun H9 bf p9 hbf _ => ?_
  refine hn _ _ ?_
  clear hn hr K
  -- handed
  have hW9 := hW6.pre (p7.trans (p8.trans p9))
  refine wSs_step fun K hn hr => ?_
  rw [s_assign]
  refine w_copyE (w := w) (fun Q hQ => by (repeat (first | dsimp only [XK, XL] | dsimp only [ZA,ZB,ZC,ZD,ZE,ZF,ZG,ZH,ZI,ZJ,ZK,ZL,ZM,ZN,ZO,ZP,ZQ,ZR,ZS,ZT,ZU,ZV,ZW,ZX,ZY,ZZ,Za,Zb,Zc,Zd,Ze,Zf,Zg,Zh,Zi,Zj,Zk,Zl,Zm,Zn,Zo,Zp,Zq,Zr,Zs,Zt,Zu,Zv,Zw,Zx,Zy,Zz,YA,YB,YC,YD,YE,YF,YG,YH,YI,YJ,YK,YL,YM,YN,YO,YP,YQ,YR,YS,Env.set,cond_true,cond_false,String.reduceBEq,YT,YU,YV,YW,YX,YY,YZ,Ya,Yb,Yc,Yd,Ye,Yf,Yg] | simp only [Yh,Yi,true_and,Yj,Yk,Yl,Ym,Yn,Yo,Yp,Yq,Yr,Yt,Yu,Yv,Yw,Yx,Yy,Yz,XA,XB,XD,XE,XF,XG,beq_self_eq_true,reduceIte,reduceCtorEq,↓reduceIte,XH,XI,XJ, E6.wishes])); exact hQ) hW9 fun H10 hd p10 _ hH => ?_
  refine hn _ _ ?_
  clear hn hr K
  have I10 := (hI.pre p9).pre p10
  have Wi10 := (hWi.wh.pre p9).pre p10
  have B10 := b6.pre (p7.trans (p8.trans (p9.trans p10)))
  have p010 := p06.trans (p7.trans (p8.trans (p9.trans p10)))
  have key : ∀ H11, H10 <+: H11 → ∀ K : SPost, (∀ ρ H, K (some (.bool true)) ρ H) → wSs C3 [.ret (.and_ [.op (.cmp .eq) [.meth "twos" (.var "_law_inn") [], .var "_law_before"], .op (.cmp .eq) [.meth "table" (.var "_law_inn") [], .var "_law_wishes"], .op (.cmp .eq) [.var "_law_handed", .var "_law_wishes"]])] (((ρ6.set "_law_inn" (.ref x)).set "_law_before" bf).set "_law_handed" (.ref hd)) H11 K (fun _ _ => False) := by
    intro H11 p11 K hK
    (repeat (first | dsimp only [XK, XL] | dsimp only [ZA,ZB,ZC,ZD,ZE,ZF,ZG,ZH,ZI,ZJ,ZK,ZL,ZM,ZN,ZO,ZP,ZQ,ZR,ZS,ZT,ZU,ZV,ZW,ZX,ZY,ZZ,Za,Zb,Zc,Zd,Ze,Zf,Zg,Zh,Zi,Zj,Zk,Zl,Zm,Zn,Zo,Zp,Zq,Zr,Zs,Zt,Zu,Zv,Zw,Zx,Zy,Zz,YA,YB,YC,YD,YE,YF,YG,YH,YI,YJ,YK,YL,YM,YN,YO,YP,YQ,YR,YS,Env.set,cond_true,cond_false,String.reduceBEq,YT,YU,YV,YW,YX,YY,YZ,Ya,Yb,Yc,Yd,Ye,Yf,Yg] | simp only [Yh,Yi,true_and,Yj,Yk,Yl,Ym,Yn,Yo,Yp,Yq,Yr,Yt,Yu,Yv,Yw,Yx,Yy,Yz,XA,XB,XD,XE,XF,XG,beq_self_eq_true,reduceIte,reduceCtorEq,↓reduceIte,XH,XI,XJ, e_meth, (I10.pre p11).inst, n1]))
    refine s_twos rfl (I10.pre p11) (((hmv.pre p9).pre p10).pre p11) fun H12 v12 p12 hv12 _ => ?_
    have q12 := p11.trans p12
    (repeat (first | dsimp only [XK, XL] | dsimp only [ZA,ZB,ZC,ZD,ZE,ZF,ZG,ZH,ZI,ZJ,ZK,ZL,ZM,ZN,ZO,ZP,ZQ,ZR,ZS,ZT,ZU,ZV,ZW,ZX,ZY,ZZ,Za,Zb,Zc,Zd,Ze,Zf,Zg,Zh,Zi,Zj,Zk,Zl,Zm,Zn,Zo,Zp,Zq,Zr,Zs,Zt,Zu,Zv,Zw,Zx,Zy,Zz,YA,YB,YC,YD,YE,YF,YG,YH,YI,YJ,YK,YL,YM,YN,YO,YP,YQ,YR,YS,Env.set,cond_true,cond_false,String.reduceBEq,YT,YU,YV,YW,YX,YY,YZ,Ya,Yb,Yc,Yd,Ye,Yf,Yg] | simp only [Yh,Yi,true_and,Yj,Yk,Yl,Ym,Yn,Yo,Yp,Yq,Yr,Yt,Yu,Yv,Yw,Yx,Yy,Yz,XA,XB,XD,XE,XF,XG,beq_self_eq_true,reduceIte,reduceCtorEq,↓reduceIte,XH,XI,XJ, hv12.eq ((hbf.pre p10).pre q12), e_meth, (I10.pre q12).inst, n2]))
    refine s_table rfl (I10.pre q12) (Wi10.pre q12) fun H13 r p13 _ hT => ?_
    have q13 := q12.trans p13
    have W13 := (hW9.pre p10).pre q13
    (repeat (first | dsimp only [XK, XL] | dsimp only [ZA,ZB,ZC,ZD,ZE,ZF,ZG,ZH,ZI,ZJ,ZK,ZL,ZM,ZN,ZO,ZP,ZQ,ZR,ZS,ZT,ZU,ZV,ZW,ZX,ZY,ZZ,Za,Zb,Zc,Zd,Ze,Zf,Zg,Zh,Zi,Zj,Zk,Zl,Zm,Zn,Zo,Zp,Zq,Zr,Zs,Zt,Zu,Zv,Zw,Zx,Zy,Zz,YA,YB,YC,YD,YE,YF,YG,YH,YI,YJ,YK,YL,YM,YN,YO,YP,YQ,YR,YS,Env.set,cond_true,cond_false,String.reduceBEq,YT,YU,YV,YW,YX,YY,YZ,Ya,Yb,Yc,Yd,Ye,Yf,Yg] | simp only [Yh,Yi,true_and,Yj,Yk,Yl,Ym,Yn,Yo,Yp,Yq,Yr,Yt,Yu,Yv,Yw,Yx,Yy,Yz,XA,XB,XD,XE,XF,XG,beq_self_eq_true,reduceIte,reduceCtorEq,↓reduceIte,XH,XI,XJ, E6.wishes, hT.wh.eq W13, (hH.wh.pre q13).eq W13, decide_true]))
    exact hK _ _
  -- asked
  refine wSs_step fun K hn hr => ?_
  have go : ∀ H11, H10 <+: H11 → K none (((ρ6.set "_law_inn" (.ref x)).set "_law_before" bf).set "_law_handed" (.ref hd)) H11 := fun H11 p11 => hn _ _ (key H11 p11 _ fun _ _ => rfl)
  (repeat (first | dsimp only [XK, XL] | dsimp only [ZA,ZB,ZC,ZD,ZE,ZF,ZG,ZH,ZI,ZJ,ZK,ZL,ZM,ZN,ZO,ZP,ZQ,ZR,ZS,ZT,ZU,ZV,ZW,ZX,ZY,ZZ,Za,Zb,Zc,Zd,Ze,Zf,Zg,Zh,Zi,Zj,Zk,Zl,Zm,Zn,Zo,Zp,Zq,Zr,Zs,Zt,Zu,Zv,Zw,Zx,Zy,Zz,YA,YB,YC,YD,YE,YF,YG,YH,YI,YJ,YK,YL,YM,YN,YO,YP,YQ,YR,YS,Env.set,cond_true,cond_false,String.reduceBEq,YT,YU,YV,YW,YX,YY,YZ,Ya,Yb,Yc,Yd,Ye,Yf,Yg] | simp only [Yh,Yi,true_and,Yj,Yk,Yl,Ym,Yn,Yo,Yp,Yq,Yr,Yt,Yu,Yv,Yw,Yx,Yy,Yz,XA,XB,XD,XE,XF,XG,beq_self_eq_true,reduceIte,reduceCtorEq,↓reduceIte,XH,XI,XJ, E6.script]))
  refine s_cell_at (k := 1) rfl (hq p010) ?_
  (repeat (first | dsimp only [XK, XL] | dsimp only [ZA,ZB,ZC,ZD,ZE,ZF,ZG,ZH,ZI,ZJ,ZK,ZL,ZM,ZN,ZO,ZP,ZQ,ZR,ZS,ZT,ZU,ZV,ZW,ZX,ZY,ZZ,Za,Zb,Zc,Zd,Ze,Zf,Zg,Zh,Zi,Zj,Zk,Zl,Zm,Zn,Zo,Zp,Zq,Zr,Zs,Zt,Zu,Zv,Zw,Zx,Zy,Zz,YA,YB,YC,YD,YE,YF,YG,YH,YI,YJ,YK,YL,YM,YN,YO,YP,YQ,YR,YS,Env.set,cond_true,cond_false,String.reduceBEq,YT,YU,YV,YW,YX,YY,YZ,Ya,Yb,Yc,Yd,Ye,Yf,Yg] | simp only [Yh,Yi,true_and,Yj,Yk,Yl,Ym,Yn,Yo,Yp,Yq,Yr,Yt,Yu,Yv,Yw,Yx,Yy,Yz,XA,XB,XD,XE,XF,XG,beq_self_eq_true,reduceIte,reduceCtorEq,↓reduceIte,XH,XI,XJ, z3', z2]))
  refine ⟨fun h1 => ?_, fun h1 => ?_⟩
  · (repeat (first | dsimp only [XK, XL] | dsimp only [ZA,ZB,ZC,ZD,ZE,ZF,ZG,ZH,ZI,ZJ,ZK,ZL,ZM,ZN,ZO,ZP,ZQ,ZR,ZS,ZT,ZU,ZV,ZW,ZX,ZY,ZZ,Za,Zb,Zc,Zd,Ze,Zf,Zg,Zh,Zi,Zj,Zk,Zl,Zm,Zn,Zo,Zp,Zq,Zr,Zs,Zt,Zu,Zv,Zw,Zx,Zy,Zz,YA,YB,YC,YD,YE,YF,YG,YH,YI,YJ,YK,YL,YM,YN,YO,YP,YQ,YR,YS,Env.set,cond_true,cond_false,String.reduceBEq,YT,YU,YV,YW,YX,YY,YZ,Ya,Yb,Yc,Yd,Ye,Yf,Yg] | simp only [Yh,Yi,true_and,Yj,Yk,Yl,Ym,Yn,Yo,Yp,Yq,Yr,Yt,Yu,Yv,Yw,Yx,Yy,Yz,XA,XB,XD,XE,XF,XG,beq_self_eq_true,reduceIte,reduceCtorEq,↓reduceIte,XH,XI,XJ, E6.kind, E6.which, E6.bad, E6.guest]))
    refine s_based03 (n := 190) hk hqq hH.wh ok I10 Wi10 (by omega) B10 fun H11 p11 => ?_
    (repeat (first | dsimp only [XK, XL] | dsimp only [ZA,ZB,ZC,ZD,ZE,ZF,ZG,ZH,ZI,ZJ,ZK,ZL,ZM,ZN,ZO,ZP,ZQ,ZR,ZS,ZT,ZU,ZV,ZW,ZX,ZY,ZZ,Za,Zb,Zc,Zd,Ze,Zf,Zg,Zh,Zi,Zj,Zk,Zl,Zm,Zn,Zo,Zp,Zq,Zr,Zs,Zt,Zu,Zv,Zw,Zx,Zy,Zz,YA,YB,YC,YD,YE,YF,YG,YH,YI,YJ,YK,YL,YM,YN,YO,YP,YQ,YR,YS,Env.set,cond_true,cond_false,String.reduceBEq,YT,YU,YV,YW,YX,YY,YZ,Ya,Yb,Yc,Yd,Ye,Yf,Yg] | simp only [Yh,Yi,true_and,Yj,Yk,Yl,Ym,Yn,Yo,Yp,Yq,Yr,Yt,Yu,Yv,Yw,Yx,Yy,Yz,XA,XB,XD,XE,XF,XG,beq_self_eq_true,reduceIte,reduceCtorEq,↓reduceIte,XH,XI,XJ]))
    exact go H11 p11
  · (repeat (first | dsimp only [XK, XL] | dsimp only [ZA,ZB,ZC,ZD,ZE,ZF,ZG,ZH,ZI,ZJ,ZK,ZL,ZM,ZN,ZO,ZP,ZQ,ZR,ZS,ZT,ZU,ZV,ZW,ZX,ZY,ZZ,Za,Zb,Zc,Zd,Ze,Zf,Zg,Zh,Zi,Zj,Zk,Zl,Zm,Zn,Zo,Zp,Zq,Zr,Zs,Zt,Zu,Zv,Zw,Zx,Zy,Zz,YA,YB,YC,YD,YE,YF,YG,YH,YI,YJ,YK,YL,YM,YN,YO,YP,YQ,YR,YS,Env.set,cond_true,cond_false,String.reduceBEq,YT,YU,YV,YW,YX,YY,YZ,Ya,Yb,Yc,Yd,Ye,Yf,Yg] | simp only [Yh,Yi,true_and,Yj,Yk,Yl,Ym,Yn,Yo,Yp,Yq,Yr,Yt,Yu,Yv,Yw,Yx,Yy,Yz,XA,XB,XD,XE,XF,XG,beq_self_eq_true,reduceIte,reduceCtorEq,↓reduceIte,XH,XI,XJ, E6.kind, E6.which, E6.bad, E6.guest]))
    refine s_told (n := 190) hk hqq hH.wh ok I10 Wi10 (by omega) B10 fun H11 p11 => ?_
    (repeat (first | dsimp only [XK, XL] | dsimp only [ZA,ZB,ZC,ZD,ZE,ZF,ZG,ZH,ZI,ZJ,ZK,ZL,ZM,ZN,ZO,ZP,ZQ,ZR,ZS,ZT,ZU,ZV,ZW,ZX,ZY,ZZ,Za,Zb,Zc,Zd,Ze,Zf,Zg,Zh,Zi,Zj,Zk,Zl,Zm,Zn,Zo,Zp,Zq,Zr,Zs,Zt,Zu,Zv,Zw,Zx,Zy,Zz,YA,YB,YC,YD,YE,YF,YG,YH,YI,YJ,YK,YL,YM,YN,YO,YP,YQ,YR,YS,Env.set,cond_true,cond_false,String.reduceBEq,YT,YU,YV,YW,YX,YY,YZ,Ya,Yb,Yc,Yd,Ye,Yf,Yg] | simp only [Yh,Yi,true_and,Yj,Yk,Yl,Ym,Yn,Yo,Yp,Yq,Yr,Yt,Yu,Yv,Yw,Yx,Yy,Yz,XA,XB,XD,XE,XF,XG,beq_self_eq_true,reduceIte,reduceCtorEq,↓reduceIte,XH,XI,XJ]))
    exact go H11 p11
end
end Mine

open PySem PySem.W PyProof.Rows
namespace Mine
noncomputable def fs03 : Tab := ⟨["is_guest", "is_row", "need_wishes", "need_guest", "both_wish", "sooner", "suits", "rather", "need_mates", "found_restless", "restless", "calm", "settled", "all_twos", "all_calm", "first_calm", "need_parties", "rings", "holds", "paired", "_law_cell_at", "_law_row_by", "_law_wishes_by", "_law_guest_asked", "_law_asked", "_law_told", "_law_based", "_law_bad_mates", "_law_bad_after", "_law_bad_row", "law"], ["BadWishes", "BadGuest", "BadMates", "BadParties", "NoNote", "BedError"], [], [("Inn", "__init__"), ("Inn", "turn"), ("Inn", "twos"), ("Inn", "table")]⟩
end Mine

set_option maxRecDepth 100000 in
set_option maxHeartbeats 8000000 in
theorem PySem.Challenge.cw_uf030033_03_holds : PySem.Challenge.rw_uf030033_03.Holds := by
  w_on
  refine holds_law (by decide +kernel) fun said => ?_
  o_head (Mine.baseHook ["BadWishes", "BadGuest", "BadMates", "BadParties", "NoNote"])
  case hw => w_witness2
  intro w s₀ s₁ mg mb G Y fa o pm cd doc dV kV ho hd hcd hD hmg hg args vals as hpre hlay hrd hwl hlo
  refine Ground.open G ?_
  intro T B D TE TW
  clear hd hcd hD
  wrow_args hpre hlay hrd hwl hlo
  refine wpAny_mono (Mine.law_call (fs := Mine.fs03) (P := Mine.prog03) T hmg (by assumption) (by assumption) (by omega) (by decide +kernel) (by decide +kernel) (fun x v h => ?_) (by decide) (fun c hc => ?_) (show Mine.Bases ["BadWishes", "BadGuest", "BadMates", "BadParties", "NoNote"] s₁.heap from Y) (fun _ h => nomatch h) (Mine.inn_of_top TE.topC (by decide +kernel)) (Mine.meths_of_top TE.topC (by decide +kernel)) fun is _ => Mine.main03 is) (fun v s' q => ?_) fun _ _ e => e
  · unfold Mine.prog03 at h
    dsimp only at h
    split at h
    · cases h; exact Mine.glob_int T (by kernel_rfl)
    · cases h
  · simp only [Mine.fs03, List.mem_cons, List.not_mem_nil, or_false] at hc
    rcases hc with rfl | rfl | rfl | rfl | rfl | rfl
    · kernel_rfl
    · kernel_rfl
    · kernel_rfl
    · kernel_rfl
    · kernel_rfl
    · kernel_rfl
  · obtain ⟨rfl, k1, k2, k3⟩ := q
    refine GoodW.toG ⟨.inl ⟨.bool true, .bool true, [], rfl, raisesW_false ?_, .bool true, ?_, unshared_nil⟩, k1, k2, k3.trans hg⟩
    · wrow_none_raised
    · wrow_post


