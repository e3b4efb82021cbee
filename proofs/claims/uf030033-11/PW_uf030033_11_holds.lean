import PyProof.Rows.All
import PyProof.P3Statements
import PyProof.StrCalls2
import PyProof.Cells
import PyProof.Rules3
import PyProof.ListOps
import PyProof.SliceList
import PyProof.SliceMore
import PyProof.PureInt
import PyProof.NoPylong
import PyProof.Rows.RuleB_floordiv
import PyProof.Rows.RuleB_mod
import PyProof.Rows.ListMul
import PyProof.IsiPairs
import PyProof.IsiHeapPairs
import PyProof.IsiNone
import PyProof.Methods
import PyProof.LetGo
import PyProof.ListIndexNeg
import PyProof.Rows.Tup
import PyProof.Rows.TupSub
import PyProof.Rows.StrRules
import PyProof.EqLayable
import PyProof.P3In
import PyProof.Rows.InDataRows
import PyProof.ListCopy
import PyProof.TupleOfSeq
import PyProof.TupleCall
import PyProof.WalkInts
import PyProof.CompFree
import PyProof.CallRoads
import PyProof.CallType
import PyProof.DictStraight
import PyProof.DefCall
import PyProof.SliceSyntax
import PyProof.WalksMore
import PyProof.ForRange
import PyProof.EqKinds
import PyProof.NeKinds
import PyProof.FactsAll.list_2
import PyProof.ListRange
import PyProof.Conv_int_bool
import PyProof.Rows.Range3
import PyProof.StrBlockH
import PyProof.CallStr
import PyProof.Conv_int
import PyProof.Rows.StrItems
import KE.IntTextText
import PyProof.FactsAll.str_5
import PyProof.RangeFor
import PyProof.TupleIter
import PyProof.PlainList
import PyProof.CompUse
import PyProof.Rows.Chain
import PyProof.Rows.Nodes
import PyProof.RulesRaise
import PyProof.RulesTry
import PyProof.Rows.Top
import Wide.All
import PyProof.Rows.CatFin
import PyProof.StrLawsTight
import Open.Line
import Wide.FinOn
import PySem.Challenge.RW_uf030033_11
set_option Elab.async false
set_option linter.all false
namespace Mine
open PySem

inductive V where
  | none | bool (b : Bool) | int (i : Int) | str (s : Str) | ref (a : Nat)
  deriving DecidableEq, Inhabited

inductive O where
  | list (xs : List V) | frozen (xs : List V) | tuple (xs : List V)
  | dict (es : List (Int × V)) | inst (c : String) (d : Nat) | fdict (fs : List (String × V)) | exc (c : String)
  deriving Inhabited

abbrev Hp := List O
abbrev Env := String → Option V
noncomputable def Env.set (ρ : Env) (x : String) (v : V) : Env := fun y => if y = x then some v else ρ y
noncomputable def Env.unset (ρ : Env) (x : String) : Env := fun y => if y = x then Option.none else ρ y

set_option genSizeOf false
set_option genInjectivity false
inductive Cmp where
  | eq | ne | lt | le | gt | ge | is_ | isNot | in_ | notIn
inductive Bin where
  | add | sub | mul | mod | fdiv
inductive Prim where
  | bin (o : Bin) | neg | cmp (o : Cmp)
  | len | isinst (ts : List String) | list | tuple | str | int | min1 | min2 | max2 | any | all | sum
  | item | slice (lo hi : Bool) | rev
  | mkList | mkTuple | mkDict
  | append | pop | index | join | split | startswith
  | attr (n : String) | listRange

inductive Tgt where
  | one (x : String) | two (x y : String)

inductive E where
  | none | bool (b : Bool) | int (i : Int) | str (s : String)
  | var (x : String) | glob (x : String)
  | op (p : Prim) (args : List E)
  | mcall (p : Prim) (o : E) (args : List E)
  | and_ (es : List E) | or_ (es : List E) | not_ (e : E)
  | ife (c a b : E)
  | chain (a : E) (o : Cmp) (b : E) (o' : Cmp) (c : E)
  | call (f : String) (args : List E)
  | meth (m : String) (o : E) (args : List E)
  | new (c : String) (args : List E)
  | compR (elt : E) (x : String) (args : List E) (conds : List E)
  | compS (elt : E) (x : Tgt) (src : E) (conds : List E)

mutual
inductive S where
  | assign (x : String) (e : E)
  | setItem (o i v : E)
  | setAttr (o : E) (n : String) (v : E)
  | expr (e : E)
  | ret (e : E)
  | retN
  | ite (c : E) (a b : List S)
  | forR (x : String) (args : List E) (body : List S)
  | forS (x : String) (src : E) (body : List S)
  | while_ (c : E) (body : List S)
  | raise (c : String) (msg : String)
  | try_ (body : List S) (hs : List Hd)
inductive Hd where
  | mk (c : String) (as : Option String) (body : List S)
end

set_option genSizeOf true
set_option genInjectivity true
structure Fn where
  params : List String
  body : List S


noncomputable def lim : Nat := 100000

noncomputable def seqOf (H : Hp) (a : Nat) : Option (List V) := match H[a]? with
  | some (.list xs) | some (.frozen xs) | some (.tuple xs) => some xs
  | _ => none

noncomputable def readD : Nat → Hp → V → Option PyData
  | _, _, .none => some .none
  | _, _, .bool b => some (.bool b)
  | _, _, .int i => some (.int i)
  | _, _, .str s => some (.str s)
  | 0, _, .ref _ => none
  | n + 1, H, .ref a => match H[a]? with
    | some (.list xs) => (xs.mapM (readD n H)).map .list
    | some (.frozen xs) => (xs.mapM (readD n H)).map .list
    | some (.tuple xs) => (xs.mapM (readD n H)).map .tuple
    | _ => none

noncomputable def asInt : V → Option Int
  | .int i => some i
  | _ => none
noncomputable def asBool : V → Option Bool
  | .bool b => some b
  | _ => none
noncomputable def asStr : V → Option Str
  | .str s => some s
  | _ => none

noncomputable def eqD (H : Hp) (a b : V) : Option Bool := match readD 8 H a, readD 8 H b with
  | some x, some y => if x.canLay0 && y.canLay0 then some (PyData.eqv x y) else none
  | _, _ => none

noncomputable def inD (H : Hp) (x : V) (xs : List V) : Option Bool := match readD 8 H x, xs.mapM (readD 8 H) with
  | some d, some ds => if d.canLay0 && PyData.canLayAll0 ds then some (ds.any fun y => PyData.eqv y d) else none
  | _, _ => none

noncomputable def mem (H : Hp) (x c : V) : Option Bool := match c with
  | .str s => match x with
    | .str y => some (Txt.contains s y)
    | _ => none
  | .ref a => match H[a]? with
    | some (.list xs) => inD H x xs
    | some (.frozen xs) => inD H x xs
    | some (.tuple xs) => inD H x xs
    | some (.dict es) => match x with
      | .int k => some (es.any fun e => e.1 == k)
      | _ => none
    | _ => none
  | _ => none

noncomputable def lessV (H : Hp) (a b : V) : Option Bool := match a, b with
  | .int i, .int j => some (decide (i < j))
  | _, _ => none

noncomputable def isSame (a b : V) : Option Bool := match b with
  | .none => some (decide (a = .none))
  | .bool true => some (decide (a = .bool true))
  | _ => none

noncomputable def cmpV (o : Cmp) (a b : V) (H : Hp) : Option Bool := match o with
  | .eq => eqD H a b
  | .ne => (eqD H a b).map (!·)
  | .lt => lessV H a b
  | .le => match a, b with | .int i, .int j => some (decide (i ≤ j)) | _, _ => none
  | .gt => match a, b with | .int i, .int j => some (decide (j < i)) | _, _ => none
  | .ge => match a, b with | .int i, .int j => some (decide (j ≤ i)) | _, _ => none
  | .is_ => isSame a b
  | .isNot => (isSame a b).map (!·)
  | .in_ => mem H a b
  | .notIn => (mem H a b).map (!·)

noncomputable def putNew (H : Hp) (o : O) : Option (V × Hp) := some (.ref H.length, H ++ [o])

noncomputable def addV (a b : V) (H : Hp) : Option (V × Hp) := match a, b with
  | .int i, .int j => some (.int (i + j), H)
  | .str x, .str y => if x.cps.size + y.cps.size ≤ lim then some (.str (x ++ y), H) else none
  | .ref a, .ref b => match H[a]?, H[b]? with
    | some (.list xs), some (.list ys) => if xs.length + ys.length ≤ lim then putNew H (.list (xs ++ ys)) else none
    | _, _ => none
  | _, _ => none

noncomputable def mulV (a b : V) (H : Hp) : Option (V × Hp) := match a, b with
  | .int i, .int j => if i.natAbs < 2 ^ 30 && j.natAbs < 2 ^ 30 then some (.int (i * j), H) else none
  | .ref a, .int n => match H[a]? with
    | some (.list [x]) => if n.natAbs ≤ lim then putNew H (.list (List.replicate n.toNat x)) else none
    | _ => none
  | _, _ => none

noncomputable def binV (o : Bin) (a b : V) (H : Hp) : Option (V × Hp) := match o with
  | .add => addV a b H
  | .sub => match a, b with | .int i, .int j => some (.int (i - j), H) | _, _ => none
  | .mul => mulV a b H
  | .mod => match a, b with | .int i, .int j => if j = 0 then none else some (.int (i.fmod j), H) | _, _ => none
  | .fdiv => match a, b with | .int i, .int j => if j = 0 ∨ 2 ^ 30 ≤ j.natAbs then none else some (.int (i.fdiv j), H) | _, _ => none

noncomputable def lenV (v : V) (H : Hp) : Option Int := match v with
  | .str s => if s.cps.size ≤ lim then some s.cps.size else none
  | .ref a => (seqOf H a).map fun xs => (xs.length : Int)
  | _ => none

/-- an exception class and the classes above it -/
noncomputable def supers : String → List String
  | "BadWishes" => ["BadWishes", "BedError", "ValueError"]
  | "BadGuest" => ["BadGuest", "BedError", "ValueError"]
  | "BadMates" => ["BadMates", "BedError", "ValueError"]
  | "BadParties" => ["BadParties", "BedError", "ValueError"]
  | "NoNote" => ["NoNote", "BedError", "ValueError"]
  | _ => []

noncomputable def typesOf (v : V) (H : Hp) : List String := match v with
  | .none => []
  | .bool _ => ["bool", "int"]
  | .int _ => ["int"]
  | .str _ => ["str"]
  | .ref a => match H[a]? with
    | some (.list _) | some (.frozen _) => ["list"]
    | some (.tuple _) => ["tuple"]
    | some (.exc c) => supers c
    | _ => []

noncomputable def isInst (v : V) (ts : List String) (H : Hp) : Bool := ts.any fun t => (typesOf v H).contains t

noncomputable def normIdx (i : Int) (n : Nat) : Option Nat :=
  let j := if i < 0 then i + n else i
  if 0 ≤ j ∧ j < n then some j.toNat else none

noncomputable def itemV (v i : V) (H : Hp) : Option V := match i with
  | .int i => match v with
    | .ref a => (seqOf H a).bind fun xs => (normIdx i xs.length).bind fun k => xs[k]?
    | _ => none
  | _ => none

noncomputable def clampIdx (n : Nat) (i : Int) : Nat := (max 0 (min (if i < 0 then i + n else i) n)).toNat

noncomputable def cut {α : Type} (xs : List α) (lo hi : Option Int) : List α :=
  (xs.drop (lo.elim 0 (clampIdx xs.length))).take (hi.elim xs.length (clampIdx xs.length) - lo.elim 0 (clampIdx xs.length))

noncomputable def sliceV (v : V) (lo hi : Option Int) (H : Hp) : Option (V × Hp) := match v with
  | .ref a => match H[a]? with
    | some (.list xs) => putNew H (.list (cut xs lo hi))
    | some (.frozen xs) => putNew H (.list (cut xs lo hi))
    | _ => none
  | .str s => if s.length ≤ lim then some (.str (Txt.slice s lo hi), H) else none
  | _ => none

noncomputable def rangeI (a b c : Int) : List Int := (List.range (if a < b then (b - a - 1) / c + 1 else 0).toNat).map fun k : Nat => a + (k : Int) * c

noncomputable def rangeOf (vs : List V) : Option (List Int) := match vs with
  | [.int b] => if b.natAbs ≤ lim then some (rangeI 0 b 1) else none
  | [.int a, .int b] => if 0 ≤ a ∧ a.natAbs ≤ lim ∧ b.natAbs ≤ lim then some (rangeI a b 1) else none
  | [.int a, .int b, .int c] => if 0 ≤ a ∧ a.natAbs ≤ lim ∧ b.natAbs ≤ lim ∧ 0 < c ∧ c.natAbs ≤ lim then some (rangeI a b c) else none
  | _ => none

noncomputable def setAtV (xs : List V) (i : Int) (v : V) : Option (List V) := if 0 ≤ i ∧ i < xs.length then some (xs.set i.toNat v) else none

noncomputable def dictPut (es : List (Int × V)) (k : Int) (v : V) : List (Int × V) :=
  if es.any (fun e => e.1 == k) then es.map fun e => if e.1 == k then (k, v) else e else es ++ [(k, v)]

noncomputable def setV (o i v : V) (H : Hp) : Option Hp := match o, i with
  | .ref a, .int i => match H[a]? with
    | some (.list xs) => (setAtV xs i v).map fun ys => H.set a (.list ys)
    | some (.dict es) => if es.length < lim then some (H.set a (.dict (dictPut es i v))) else none
    | _ => none
  | _, _ => none

noncomputable def appendV (vs : List V) (H : Hp) : Option (V × Hp) := match vs with
  | [.ref a, v] => (match H[a]? with
    | some (.list xs) => if xs.length < lim then some (.none, H.set a (.list (xs ++ [v]))) else none
    | _ => none)
  | _ => none
noncomputable def popV (vs : List V) (H : Hp) : Option (V × Hp) := match vs with
  | [.ref a, .int i] => (match H[a]? with
    | some (.list xs) => (normIdx i xs.length).bind fun k => xs[k]?.map fun v => (v, H.set a (.list (xs.eraseIdx k)))
    | _ => none)
  | _ => none
noncomputable def indexV (vs : List V) (H : Hp) : Option (V × Hp) := match vs with
  | [.ref a, .int k] => (match H[a]? with
    | some (.list xs) => (xs.mapM asInt).bind fun is => if k ∈ is then some (.int (is.idxOf k : Nat), H) else none
    | _ => none)
  | _ => none

noncomputable def joinV (vs : List V) (H : Hp) : Option (V × Hp) := match vs with
  | [.str s, .ref a] => (match H[a]? with
    | some (.list xs) => (xs.mapM asStr).bind fun ws => if (ws.map (·.length)).sum + ws.length * s.length ≤ lim then some (.str (Txt.join s ws), H) else none
    | _ => none)
  | _ => none
noncomputable def splitV (vs : List V) (H : Hp) : Option (V × Hp) := match vs with
  | [.str s, .str t] => if t.length = 1 ∧ s.length + 2 ≤ lim then putNew H (.list ((Txt.split s t).map .str)) else none
  | _ => none
noncomputable def startsV (vs : List V) (H : Hp) : Option (V × Hp) := match vs with
  | [.str s, .str t] => some (.bool (Txt.startswith s t), H)
  | _ => none

noncomputable def methV (p : Prim) (vs : List V) (H : Hp) : Option (V × Hp) := match p with
  | .append => appendV vs H
  | .pop => popV vs H
  | .index => indexV vs H
  | .join => joinV vs H
  | .split => splitV vs H
  | .startswith => startsV vs H
  | _ => none

noncomputable def attrV (n : String) (v : V) (H : Hp) : Option V := match v with
  | .ref a => match H[a]? with
    | some (.inst _ d) => (match H[d]? with
      | some (.fdict fs) => fs.lookup n
      | _ => none)
    | _ => none
  | _ => none

noncomputable def strV (v : V) : Option V := match v with
  | .int i => if i.natAbs < 1000 then some (.str (Str.ofString (toString i))) else none
  | _ => none

noncomputable def intV (v : V) : Option V := match v with
  | .bool b => some (.int (if b then 1 else 0))
  | .str s => match s.cps.toList with
    | [c] => if 48 ≤ c ∧ c < 58 then some (.int ((c - 48 : Nat) : Int)) else none
    | _ => none
  | _ => none

noncomputable def minL : List Int → Option Int
  | [] => none
  | a :: r => some (r.foldl (fun x y => if y < x then y else x) a)

noncomputable def prim (p : Prim) (vs : List V) (H : Hp) : Option (V × Hp) := match p with
  | .bin o => match vs with | [a, b] => binV o a b H | _ => none
  | .neg => match vs with | [.int i] => some (.int (-i), H) | _ => none
  | .cmp o => match vs with | [a, b] => (cmpV o a b H).map fun b => (.bool b, H) | _ => none
  | .len => match vs with | [v] => (lenV v H).map fun n => (.int n, H) | _ => none
  | .isinst ts => match vs with | [v] => some (.bool (isInst v ts H), H) | _ => none
  | .list => match vs with | [.ref a] => (seqOf H a).bind fun xs => putNew H (.list xs) | _ => none
  | .tuple => match vs with | [.ref a] => (seqOf H a).bind fun xs => putNew H (.tuple xs) | _ => none
  | .str => match vs with | [v] => (strV v).map fun x => (x, H) | _ => none
  | .int => match vs with | [v] => (intV v).map fun x => (x, H) | _ => none
  | .min1 => match vs with | [.ref a] => (seqOf H a).bind fun xs => (xs.mapM asInt).bind fun is => (minL is).map fun i => (.int i, H) | _ => none
  | .min2 => match vs with | [.int i, .int j] => some (.int (if j < i then j else i), H) | _ => none
  | .max2 => match vs with | [.int i, .int j] => some (.int (if i < j then j else i), H) | _ => none
  | .any => match vs with | [.ref a] => (seqOf H a).bind fun xs => (xs.mapM asBool).map fun bs => (.bool (bs.any id), H) | _ => none
  | .all => match vs with | [.ref a] => (seqOf H a).bind fun xs => (xs.mapM asBool).map fun bs => (.bool (bs.all id), H) | _ => none
  | .sum => match vs with | [.ref a] => (seqOf H a).bind fun xs => (xs.mapM asInt).map fun is => (.int is.sum, H) | _ => none
  | .item => match vs with | [v, i] => (itemV v i H).map fun x => (x, H) | _ => none
  | .slice lo hi => match lo, hi, vs with
    | false, false, [v] => sliceV v none none H
    | true, false, [v, .int i] => sliceV v (some i) none H
    | false, true, [v, .int j] => sliceV v none (some j) H
    | true, true, [v, .int i, .int j] => sliceV v (some i) (some j) H
    | _, _, _ => none
  | .rev => match vs with | [.ref a] => (match H[a]? with | some (.list xs) => putNew H (.list xs.reverse) | _ => none) | _ => none
  | .mkList => if vs.length ≤ lim then putNew H (.list vs) else none
  | .mkTuple => if vs.length ≤ lim then putNew H (.tuple vs) else none
  | .mkDict => match vs with | [] => putNew H (.dict []) | _ => none
  | .attr n => match vs with | [v] => (attrV n v H).map fun x => (x, H) | _ => none
  | .listRange => (rangeOf vs).bind fun is => if is.length ≤ lim then putNew H (.list (is.map .int)) else none
  | .append => methV .append vs H
  | .pop => methV .pop vs H
  | .index => methV .index vs H
  | .join => methV .join vs H
  | .split => methV .split vs H
  | .startswith => methV .startswith vs H


abbrev Post := V → Hp → Prop
abbrev XP := Nat → Hp → Prop
abbrev SPost := Option V → Env → Hp → Prop
abbrev SXP := Nat → Env → Hp → Prop

structure Ctx where
  ok : Bool
  call : String → List V → Hp → Post → XP → Prop
  glob : String → Option V

noncomputable def wP (p : Prim) (vs : List V) (H : Hp) (Q : Post) : Prop := match prim p vs H with
  | some (v, H') => Q v H'
  | none => False

/-- what a built-in method's receiver must be -/
noncomputable def recvOk (p : Prim) (v : V) (H : Hp) : Bool := match p with
  | .append | .pop | .index => (match v with
    | .ref a => (match H[a]? with | some (.list _) => true | _ => false)
    | _ => false)
  | .join | .split | .startswith => (match v with | .str _ => true | _ => false)
  | _ => false

noncomputable def wB (v : V) (k : Bool → Prop) : Prop := match v with
  | .bool b => k b
  | _ => False

noncomputable def wIf (b : Bool) (p q : Prop) : Prop := (b = true → p) ∧ (b = false → q)

noncomputable def wLoop (G : Hp → Prop) (step : V → Hp → (Option V → Hp → Prop) → Prop) : List V → List V → Hp → (List V → Hp → Prop) → Prop
  | [], acc, H, k => G H ∧ k acc H
  | v :: vs, acc, H, k => G H ∧ step v H (fun o H' => wLoop G step vs (match o with | some u => acc ++ [u] | none => acc) H' k)

noncomputable def wFor (G : Hp → Prop) (step : V → Env → Hp → SPost → Prop) : List V → Env → Hp → SPost → Prop
  | [], ρ, H, k => G H ∧ k none ρ H
  | v :: vs, ρ, H, k => G H ∧ step v ρ H (fun r ρ' H' => match r with
    | none => wFor G step vs ρ' H' k
    | some v => k (some v) ρ' H')

noncomputable def wWhile (test : Env → Hp → (Bool → Hp → Prop) → Prop) (body : Env → Hp → SPost → Prop) : Nat → Env → Hp → SPost → Prop
  | 0, _, _, _ => False
  | n + 1, ρ, H, k => test ρ H fun b H1 => wIf b (body ρ H1 fun r ρ' H' => match r with
      | none => wWhile test body n ρ' H' k
      | some v => k (some v) ρ' H') (k none ρ H1)

noncomputable def bindT (t : Tgt) (v : V) (ρ : Env) (H : Hp) : Option Env := match t with
  | .one x => some (ρ.set x v)
  | .two x y => match v with
    | .ref a => (match H[a]? with
      | some (.tuple [u, w]) => some ((ρ.set x u).set y w)
      | _ => none)
    | _ => none

mutual
noncomputable def wE (C : Ctx) : E → Env → Hp → Post → XP → Prop
  | .none, _, H, Q, _ => Q .none H
  | .bool b, _, H, Q, _ => Q (.bool b) H
  | .int i, _, H, Q, _ => Q (.int i) H
  | .str s, _, H, Q, _ => Q (.str (Str.ofString s)) H
  | .var x, ρ, H, Q, _ => match ρ x with | some v => Q v H | none => False
  | .glob x, _, H, Q, _ => match C.glob x with | some v => Q v H | none => False
  | .op p args, ρ, H, Q, X => wEs C args ρ H (fun vs H1 => wP p vs H1 Q) X
  | .mcall p o args, ρ, H, Q, X => wE C o ρ H (fun v H1 => recvOk p v H1 = true ∧ wEs C args ρ H1 (fun vs H2 => wP p (v :: vs) H2 Q) X) X
  | .and_ es, ρ, H, Q, X => wAnd C es ρ H (fun b H1 => Q (.bool b) H1) X
  | .or_ es, ρ, H, Q, X => wOr C es ρ H (fun b H1 => Q (.bool b) H1) X
  | .not_ e, ρ, H, Q, X => wE C e ρ H (fun v H1 => wB v fun b => Q (.bool (!b)) H1) X
  | .ife c a b, ρ, H, Q, X => wE C c ρ H (fun v H1 => wB v fun t => wIf t (wE C a ρ H1 Q X) (wE C b ρ H1 Q X)) X
  | .chain a o b o' c, ρ, H, Q, X => wE C a ρ H (fun va H1 => wE C b ρ H1 (fun vb H2 => wP (.cmp o) [va, vb] H2 fun r H3 => wB r fun t => wIf t
      (wE C c ρ H3 (fun vc H4 => wP (.cmp o') [vb, vc] H4 Q) X)
      (Q (.bool false) H3)) X) X
  | .call f args, ρ, H, Q, X => wEs C args ρ H (fun vs H1 => C.call f vs H1 Q X) X
  | .meth m o args, ρ, H, Q, X => wE C o ρ H (fun v H1 => match v with
      | .ref a => (match H1[a]? with
        | some (.inst c _) => wEs C args ρ H1 (fun vs H2 => C.call (c ++ "." ++ m) (.ref a :: vs) H2 Q X) X
        | _ => False)
      | _ => False) X
  | .new c args, ρ, H, Q, X => wEs C args ρ H (fun vs H1 => C.call (c ++ ".__init__") (.ref (H1.length + 1) :: vs) (H1 ++ [.fdict [], .inst c H1.length]) (fun _ H2 => Q (.ref (H1.length + 1)) H2) X) X
  | .compR elt x args conds, ρ, H, Q, X => wEs C args ρ H (fun vs H1 => match rangeOf vs with
      | some is => wLoop (fun _ => True) (fun v H2 k => wAnd C conds (ρ.set x v) H2 (fun b H3 => wIf b
          (wE C elt (ρ.set x v) H3 (fun u H4 => k (some u) H4) X)
          (k none H3)) X) (is.map .int) [] H1 (fun acc H5 => Q (.ref H5.length) (H5 ++ [.list acc]))
      | none => False) X
  | .compS elt t src conds, ρ, H, Q, X => wE C src ρ H (fun vs H1 => match vs with
      | .ref a => (match seqOf H1 a with
        | some items => wLoop (fun H' => H'[a]? = H1[a]?) (fun v H2 k => match bindT t v ρ H2 with
            | some ρ' => wAnd C conds ρ' H2 (fun b H3 => wIf b
              (wE C elt ρ' H3 (fun u H4 => k (some u) H4) X)
              (k none H3)) X
            | none => False) items [] H1 (fun acc H5 => Q (.ref H5.length) (H5 ++ [.list acc]))
        | none => False)
      | _ => False) X
noncomputable def wEs (C : Ctx) : List E → Env → Hp → (List V → Hp → Prop) → XP → Prop
  | [], _, H, Q, _ => Q [] H
  | e :: es, ρ, H, Q, X => wE C e ρ H (fun v H1 => wEs C es ρ H1 (fun vs H2 => Q (v :: vs) H2) X) X
noncomputable def wAnd (C : Ctx) : List E → Env → Hp → (Bool → Hp → Prop) → XP → Prop
  | [], _, H, Q, _ => Q true H
  | e :: es, ρ, H, Q, X => wE C e ρ H (fun v H1 => wB v fun b => wIf b
      (wAnd C es ρ H1 Q X)
      (Q false H1)) X
noncomputable def wOr (C : Ctx) : List E → Env → Hp → (Bool → Hp → Prop) → XP → Prop
  | [], _, H, Q, _ => Q false H
  | e :: es, ρ, H, Q, X => wE C e ρ H (fun v H1 => wB v fun b => wIf b
      (Q true H1)
      (wOr C es ρ H1 Q X)) X
end

noncomputable def setF (fs : List (String × V)) (n : String) (v : V) : List (String × V) :=
  if fs.any (fun f => f.1 == n) then fs.map fun f => if f.1 == n then (n, v) else f else fs ++ [(n, v)]

noncomputable def setAttrV (o : V) (n : String) (v : V) (H : Hp) : Option Hp := match o with
  | .ref a => (match H[a]? with
    | some (.inst _ d) => (match H[d]? with
      | some (.fdict fs) => some (H.set d (.fdict (setF fs n v)))
      | _ => none)
    | _ => none)
  | _ => none

mutual
noncomputable def wS (C : Ctx) : S → Env → Hp → SPost → SXP → Prop
  | .assign x e, ρ, H, k, X => wE C e ρ H (fun v H1 => k none (ρ.set x v) H1) (fun a H1 => X a ρ H1)
  | .setItem o i v, ρ, H, k, X => wE C v ρ H (fun vv H1 => wE C o ρ H1 (fun vo H2 => wE C i ρ H2 (fun vi H3 => match setV vo vi vv H3 with
      | some H4 => k none ρ H4
      | none => False) (fun a H1 => X a ρ H1)) (fun a H1 => X a ρ H1)) (fun a H1 => X a ρ H1)
  | .setAttr o n v, ρ, H, k, X => wE C v ρ H (fun vv H1 => wE C o ρ H1 (fun vo H2 => match setAttrV vo n vv H2 with
      | some H3 => k none ρ H3
      | none => False) (fun a H1 => X a ρ H1)) (fun a H1 => X a ρ H1)
  | .expr e, ρ, H, k, X => wE C e ρ H (fun _ H1 => k none ρ H1) (fun a H1 => X a ρ H1)
  | .ret e, ρ, H, k, X => wE C e ρ H (fun v H1 => k (some v) ρ H1) (fun a H1 => X a ρ H1)
  | .retN, ρ, H, k, _ => k (some .none) ρ H
  | .ite c a b, ρ, H, k, X => wE C c ρ H (fun v H1 => wB v fun t => wIf t
      (wSs C a ρ H1 k X)
      (wSs C b ρ H1 k X)) (fun a H1 => X a ρ H1)
  | .forR x args body, ρ, H, k, X => wEs C args ρ H (fun vs H1 => match rangeOf vs with
      | some is => wFor (fun _ => True) (fun v ρ' H' k' => wSs C body (ρ'.set x v) H' k' X) (is.map .int) ρ H1 k
      | none => False) (fun a H1 => X a ρ H1)
  | .forS x src body, ρ, H, k, X => wE C src ρ H (fun v H1 => match v with
      | .ref a => (match seqOf H1 a with
        | some items => wFor (fun H' => H'[a]? = H1[a]?) (fun v ρ' H' k' => wSs C body (ρ'.set x v) H' k' X) items ρ H1 k
        | none => False)
      | _ => False) (fun a H1 => X a ρ H1)
  | .while_ c body, ρ, H, k, X => ∃ n, wWhile (fun ρ' H' k' => wE C c ρ' H' (fun v H1 => wB v fun b => k' b H1) (fun a H1 => X a ρ' H1)) (fun ρ' H' k' => wSs C body ρ' H' k' X) n ρ H k
  | .raise c _, ρ, H, _, X => C.ok = true ∧ X H.length ρ (H ++ [.exc c])
  | .try_ body hs, ρ, H, k, X => wSs C body ρ H k (fun a ρ' H' => wHs C hs a ρ' H' k X)
noncomputable def wSs (C : Ctx) : List S → Env → Hp → SPost → SXP → Prop
  | [], ρ, H, k, _ => k none ρ H
  | s :: ss, ρ, H, k, X => wS C s ρ H (fun r ρ1 H1 => match r with
      | none => wSs C ss ρ1 H1 k X
      | some v => k (some v) ρ1 H1) X
noncomputable def wHs (C : Ctx) : List Hd → Nat → Env → Hp → SPost → SXP → Prop
  | [], a, ρ, H, _, X => X a ρ H
  | h :: hs, a, ρ, H, k, X => wH C h a ρ H (wHs C hs a ρ H k X) k X
noncomputable def wH (C : Ctx) : Hd → Nat → Env → Hp → Prop → SPost → SXP → Prop
  | .mk c as body, a, ρ, H, rest, k, X => match H[a]? with
    | some (.exc c') => if (supers c').contains c then (match as with
        | none => wSs C body ρ H k X
        | some n => wSs C body (ρ.set n (.ref a)) H (fun r ρ' H' => k r (ρ'.unset n) H') (fun b ρ' H' => X b (ρ'.unset n) H'))
      else rest
    | _ => False
end

noncomputable def bindP : List String → List V → Env
  | x :: xs, v :: vs => (bindP xs vs).set x v
  | _, _ => fun _ => none

structure Prog where
  fn : String → Option Fn
  glob : String → Option V

noncomputable def callN (P : Prog) (ok : Bool) : Nat → String → List V → Hp → Post → XP → Prop
  | 0, _, _, _, _, _ => False
  | n + 1, f, vs, H, Q, X => match P.fn f with
    | some fn => fn.params.length = vs.length ∧ wSs ⟨ok, callN P ok n, P.glob⟩ fn.body (bindP fn.params vs) H
        (fun r _ H' => match r with | some v => Q v H' | none => Q .none H') (fun a _ H' => X a H')
    | none => False

end Mine

namespace Mine
open PySem

noncomputable def f_is_guest : Fn := ⟨["thing", "many"], [.ret (.and_ [.op (.isinst ["int"]) [.var "thing"], .not_ (.op (.isinst ["bool"]) [.var "thing"]), .chain (.int 0) .le (.var "thing") .lt (.var "many")])]⟩
noncomputable def f_is_row : Fn := ⟨["row", "guest", "many"], [.ite (.not_ (.op (.isinst ["list"]) [.var "row"]))
    [.ret (.bool false)]
    [],
  .forR "at" [.op .len [.var "row"]]
    [.ite (.or_ [.not_ (.call "is_guest" [.op .item [.var "row", .var "at"], .var "many"]), .op (.cmp .eq) [.op .item [.var "row", .var "at"], .var "guest"], .op (.cmp .in_) [.op .item [.var "row", .var "at"], .op (.slice false true) [.var "row", .var "at"]]])
      [.ret (.bool false)]
      []],
  .ret (.bool true)]⟩
noncomputable def f_need_wishes : Fn := ⟨["wishes"], [.ite (.or_ [.not_ (.op (.isinst ["list"]) [.var "wishes"]), .not_ (.chain (.int 1) .le (.op .len [.var "wishes"]) .le (.glob "MOST_GUESTS"))])
    [.raise "BadWishes" "one to six lists are wanted"]
    [],
  .forR "guest" [.op .len [.var "wishes"]]
    [.ite (.not_ (.call "is_row" [.op .item [.var "wishes", .var "guest"], .var "guest", .op .len [.var "wishes"]]))
      [.raise "BadWishes" "a list that a guest can't have"]
      []]]⟩
noncomputable def f__law_cell_at : Fn := ⟨["_law_script", "_law_k"], [.ite (.op (.cmp .lt) [.var "_law_k", .op .len [.var "_law_script"]])
    [.ret (.op .item [.var "_law_script", .var "_law_k"])]
    [],
  .ret (.int 0)]⟩
noncomputable def f__law_row_by : Fn := ⟨["_law_cell", "_law_guest", "_law_many", "_law_full"], [.assign "_law_left" (.compR (.var "_law_one") "_law_one" [.var "_law_many"] [.op (.cmp .ne) [.var "_law_one", .var "_law_guest"]]),
  .assign "_law_row" (.op .mkList []),
  .while_ (.op (.cmp .gt) [.op .len [.var "_law_left"], .int 0])
    [.expr (.mcall .append (.var "_law_row") [.mcall .pop (.var "_law_left") [.op (.bin .mod) [.var "_law_cell", .op .len [.var "_law_left"]]]]),
    .assign "_law_cell" (.op (.bin .fdiv) [.var "_law_cell", .op (.bin .add) [.op .len [.var "_law_left"], .int 1]])],
  .ite (.var "_law_full")
    [.ret (.var "_law_row")]
    [],
  .ret (.op (.slice false true) [.var "_law_row", .op (.bin .mod) [.var "_law_cell", .op (.bin .add) [.op .len [.var "_law_row"], .int 1]]])]⟩
noncomputable def f__law_wishes_by : Fn := ⟨["_law_script", "_law_many"], [.assign "_law_full" (.op (.cmp .gt) [.op (.bin .mod) [.call "_law_cell_at" [.var "_law_script", .int 1], .int 3], .int 0]),
  .ret (.compR (.call "_law_row_by" [.call "_law_cell_at" [.var "_law_script", .op (.bin .add) [.int 3, .var "_law_k"]], .var "_law_k", .var "_law_many", .var "_law_full"]) "_law_k" [.var "_law_many"] [])]⟩
noncomputable def f_shown : Fn := ⟨["wishes"], [.expr (.call "need_wishes" [.var "wishes"]),
  .assign "lines" (.op .mkList []),
  .forR "guest" [.op .len [.var "wishes"]]
    [.expr (.mcall .append (.var "lines") [.op (.bin .add) [.op (.bin .add) [.op .str [.var "guest"], .str ":"], .mcall .join (.str "") [.compS (.op (.bin .add) [.str " ", .op .str [.var "other"]]) (.one "other") (.op .item [.var "wishes", .var "guest"]) []]]])],
  .ret (.mcall .join (.str "\n") [.var "lines"])]⟩
noncomputable def f__law_whole : Fn := ⟨["_law_found"], [.ret (.and_ [.op (.isinst ["int"]) [.var "_law_found"], .not_ (.op (.isinst ["bool"]) [.var "_law_found"])])]⟩
noncomputable def f_row_of : Fn := ⟨["line", "guest"], [.assign "head" (.op (.bin .add) [.op .str [.var "guest"], .str ":"]),
  .ite (.op (.cmp .eq) [.var "line", .var "head"])
    [.ret (.op .mkList [])]
    [],
  .ite (.not_ (.mcall .startswith (.var "line") [.op (.bin .add) [.var "head", .str " "]]))
    [.raise "NoNote" "no row of that guest"]
    [],
  .assign "row" (.op .mkList []),
  .forS "word" (.mcall .split (.op (.slice true false) [.var "line", .op (.bin .add) [.op .len [.var "head"], .int 1]]) [.str " "])
    [.ite (.or_ [.op (.cmp .ne) [.op .len [.var "word"], .int 1], .op (.cmp .notIn) [.var "word", .glob "FIGURES"]])
      [.raise "NoNote" "no guest is written"]
      [],
    .expr (.mcall .append (.var "row") [.op .int [.var "word"]])],
  .ret (.var "row")]⟩
noncomputable def f_read : Fn := ⟨["text"], [.ite (.not_ (.op (.isinst ["str"]) [.var "text"]))
    [.raise "NoNote" "a text is wanted"]
    [],
  .assign "wishes" (.op .mkList []),
  .forS "line" (.mcall .split (.var "text") [.str "\n"])
    [.expr (.mcall .append (.var "wishes") [.call "row_of" [.var "line", .op .len [.var "wishes"]]])],
  .try_ [.expr (.call "need_wishes" [.var "wishes"])]
    [.mk "BadWishes" none [.raise "NoNote" "no wishes are written"]],
  .ret (.var "wishes")]⟩
noncomputable def f_law_11 : Fn := ⟨["_law_script"], [.assign "_law_many" (.op (.bin .add) [.int 1, .op (.bin .mod) [.call "_law_cell_at" [.var "_law_script", .int 0], .int 6]]),
  .assign "_law_wishes" (.call "_law_wishes_by" [.var "_law_script", .var "_law_many"]),
  .assign "_law_handed" (.compS (.op .list [.var "_law_row"]) (.one "_law_row") (.var "_law_wishes") []),
  .assign "_law_found" (.call "shown" [.var "_law_handed"]),
  .assign "_law_lines" (.op .mkList []),
  .forR "_law_guest" [.var "_law_many"]
    [.assign "_law_line" (.op (.bin .add) [.op .str [.var "_law_guest"], .str ":"]),
    .forS "_law_one" (.op .item [.var "_law_wishes", .var "_law_guest"])
      [.assign "_law_line" (.op (.bin .add) [.op (.bin .add) [.var "_law_line", .str " "], .op .str [.var "_law_one"]])],
    .expr (.mcall .append (.var "_law_lines") [.var "_law_line"])],
  .ite (.or_ [.op (.cmp .ne) [.var "_law_handed", .var "_law_wishes"], .not_ (.op (.isinst ["str"]) [.var "_law_found"]), .op (.cmp .ne) [.var "_law_found", .mcall .join (.str "\n") [.var "_law_lines"]]])
    [.ret (.bool false)]
    [],
  .assign "_law_again" (.call "read" [.var "_law_found"]),
  .ite (.not_ (.op (.isinst ["list"]) [.var "_law_again"]))
    [.ret (.bool false)]
    [],
  .forS "_law_row" (.var "_law_again")
    [.ite (.or_ [.not_ (.op (.isinst ["list"]) [.var "_law_row"]), .op (.cmp .gt) [.op .len [.compS (.var "_law_one") (.one "_law_one") (.var "_law_row") [.not_ (.call "_law_whole" [.var "_law_one"])]], .int 0]])
      [.ret (.bool false)]
      []],
  .ret (.op (.cmp .eq) [.var "_law_again", .var "_law_wishes"])]⟩
noncomputable def prog11 : Prog where
  fn := fun f => match f with
    | "is_guest" => some f_is_guest
    | "is_row" => some f_is_row
    | "need_wishes" => some f_need_wishes
    | "shown" => some f_shown
    | "row_of" => some f_row_of
    | "read" => some f_read
    | "_law_cell_at" => some f__law_cell_at
    | "_law_row_by" => some f__law_row_by
    | "_law_wishes_by" => some f__law_wishes_by
    | "_law_whole" => some f__law_whole
    | "law" => some f_law_11
    | _ => none
  glob := fun x => match x with
    | "MOST_GUESTS" => some (.int 6)
    | "FIGURES" => some (.str (Str.ofString "0123456789"))
    | _ => none

end Mine

namespace Mine
open PySem

theorem ofString_inj {a b : String} (h : Str.ofString a = Str.ofString b) : a = b := by
  rw [Str.ofString_eq_toList, Str.ofString_eq_toList] at h
  have h1 : a.toList.map Char.toNat = b.toList.map Char.toNat := by
    have := congrArg (fun s : Str => s.cps.toList) h
    simpa using this
  have h2 : a.toList = b.toList := by
    refine List.map_inj_right ?_ |>.mp h1
    intro x y e
    exact Char.ext (UInt32.toNat_inj.mp e)
  exact String.toList_inj.mp h2

theorem ofString_ne {a b : String} (h : a ≠ b) : Str.ofString a ≠ Str.ofString b := fun e => h (ofString_inj e)

inductive All2 {α β : Type} (R : α → β → Prop) : List α → List β → Prop where
  | nil : All2 R [] []
  | cons {a b as bs} : R a b → All2 R as bs → All2 R (a :: as) (b :: bs)

namespace All2
variable {α β : Type} {R S : α → β → Prop}
theorem length {as : List α} {bs : List β} (h : All2 R as bs) : as.length = bs.length := by
  induction h with
  | nil => rfl
  | cons _ _ ih => simp [ih]
theorem mono (hRS : ∀ a b, R a b → S a b) {as : List α} {bs : List β} (h : All2 R as bs) : All2 S as bs := by
  induction h with
  | nil => exact .nil
  | cons h _ ih => exact .cons (hRS _ _ h) ih
theorem append {as as' : List α} {bs bs' : List β} (h : All2 R as bs) (h' : All2 R as' bs') : All2 R (as ++ as') (bs ++ bs') := by
  induction h with
  | nil => exact h'
  | cons h _ ih => exact .cons h ih
theorem get {as : List α} {bs : List β} (h : All2 R as bs) {i : Nat} {a : α} (e : as[i]? = some a) : ∃ b, bs[i]? = some b ∧ R a b := by
  induction h generalizing i with
  | nil => simp at e
  | cons h _ ih =>
    cases i with
    | zero => simp at e; subst e; exact ⟨_, rfl, h⟩
    | succ i => simpa using ih (by simpa using e)
theorem get' {as : List α} {bs : List β} (h : All2 R as bs) {i : Nat} {b : β} (e : bs[i]? = some b) : ∃ a, as[i]? = some a ∧ R a b := by
  induction h generalizing i with
  | nil => simp at e
  | cons h _ ih =>
    cases i with
    | zero => simp at e; subst e; exact ⟨_, rfl, h⟩
    | succ i => simpa using ih (by simpa using e)
theorem set {as : List α} {bs : List β} (h : All2 R as bs) (i : Nat) {a : α} {b : β} (hab : R a b) : All2 R (as.set i a) (bs.set i b) := by
  induction h generalizing i with
  | nil => exact .nil
  | cons h t ih =>
    cases i with
    | zero => exact .cons hab t
    | succ i => exact .cons h (ih i)
theorem take {as : List α} {bs : List β} (h : All2 R as bs) (i : Nat) : All2 R (as.take i) (bs.take i) := by
  induction h generalizing i with
  | nil => simp; exact .nil
  | cons h t ih =>
    cases i with
    | zero => exact .nil
    | succ i => exact .cons h (ih i)
theorem drop {as : List α} {bs : List β} (h : All2 R as bs) (i : Nat) : All2 R (as.drop i) (bs.drop i) := by
  induction h generalizing i with
  | nil => simp; exact .nil
  | cons h t ih =>
    cases i with
    | zero => exact .cons h t
    | succ i => exact ih i
theorem eraseIdx {as : List α} {bs : List β} (h : All2 R as bs) (i : Nat) : All2 R (as.eraseIdx i) (bs.eraseIdx i) := by
  induction h generalizing i with
  | nil => exact .nil
  | cons h t ih =>
    cases i with
    | zero => exact t
    | succ i => exact .cons h (ih i)
theorem reverse {as : List α} {bs : List β} (h : All2 R as bs) : All2 R as.reverse bs.reverse := by
  induction h with
  | nil => exact .nil
  | cons h t ih => rw [List.reverse_cons, List.reverse_cons]; exact ih.append (.cons h .nil)
theorem replicate {a : α} {b : β} (h : R a b) (n : Nat) : All2 R (List.replicate n a) (List.replicate n b) := by
  induction n with
  | zero => exact .nil
  | succ n ih => exact .cons h ih
theorem mem' {as : List α} {bs : List β} (h : All2 R as bs) {b : β} (hb : b ∈ bs) : ∃ a ∈ as, R a b := by
  induction h with
  | nil => simp at hb
  | cons h t ih =>
    rcases List.mem_cons.mp hb with rfl | hb
    · exact ⟨_, List.mem_cons_self, h⟩
    · obtain ⟨a, ha, hr⟩ := ih hb; exact ⟨a, List.mem_cons_of_mem _ ha, hr⟩
end All2

inductive VR (β : List Addr) : V → Value → Prop where
  | none : VR β .none .none
  | bool (b : Bool) : VR β (.bool b) (.bool b)
  | int (i : Int) (t : Tok) : VR β (.int i) (.int i t)
  | str (s : Str) (t : Tok) : VR β (.str s) (.str s t)
  | ref {a : Nat} {r : Addr} : β[a]? = some r → VR β (.ref a) (.ref r)

abbrev VRs (β : List Addr) := All2 (VR β)

theorem VR.mono {β β' : List Addr} (hp : β <+: β') {v : V} {u : Value} (h : VR β v u) : VR β' v u := by
  cases h with
  | none => exact .none
  | bool b => exact .bool b
  | int i t => exact .int i t
  | str s t => exact .str s t
  | ref e =>
    obtain ⟨t, rfl⟩ := hp
    refine .ref ?_
    rw [List.getElem?_append_left (List.getElem?_eq_some_iff.mp e).1]; exact e
theorem VRs.mono {β β' : List Addr} (hp : β <+: β') {v : List V} {u : List Value} (h : VRs β v u) : VRs β' v u := All2.mono (fun _ _ => VR.mono hp) h

/-- an object of the mini heap and the model's object -/
inductive OR (β : List Addr) : O → Obj → Prop where
  | list {xs : List V} {us : List Value} {n : Nat} : VRs β xs us → xs.length ≤ lim → OR β (.list xs) { cls := .type "list", data := .seq us.toArray n }
  | tuple {xs : List V} {us : List Value} {n : Nat} : VRs β xs us → xs.length ≤ lim → OR β (.tuple xs) { cls := .type "tuple", data := .seq us.toArray n }

theorem OR.mono {β β' : List Addr} (hp : β <+: β') {o : O} {ob : Obj} (h : OR β o ob) : OR β' o ob := by
  cases h with
  | list h l => exact .list (VRs.mono hp h) l
  | tuple h l => exact .tuple (VRs.mono hp h) l

inductive Slot1 (h₀ h : Heap) (β : List Addr) : O → Addr → Prop where
  | frozen {xs : List V} {us : List Value} {r : Addr} {ob : Obj} {n : Nat} : h₀.get? r = some ob → ob.cls = .type "list" → ob.data = .seq us.toArray n → VRs β xs us → xs.length ≤ lim → Slot1 h₀ h β (.frozen xs) r
  | own {o : O} {r : Addr} {ob : Obj} : h₀.get? r = Option.none → h.get? r = some ob → OR β o ob → Slot1 h₀ h β o r

/-- a shared state bears a mini heap, above a base heap -/
structure SR (h₀ : Heap) (β : List Addr) (H : Hp) (h : Heap) : Prop where
  kept : ∀ b o, h₀.get? b = some o → h.get? b = some o
  nodup : β.Nodup
  objs : All2 (Slot1 h₀ h β) H β

structure Step (β : List Addr) (s : Shared) (β' : List Addr) (s' : Shared) : Prop where
  same : ∃ h tk, s' = { s with heap := h, toks := tk }
  grow : β <+: β'
  keep : ∀ b o, s.heap.get? b = some o → b ∉ β → s'.heap.get? b = some o
  fresh : ∀ b ∈ β', b ∈ β ∨ s.heap.get? b = Option.none

theorem Step.refl (β : List Addr) (s : Shared) : Step β s β s := ⟨⟨s.heap, s.toks, rfl⟩, List.prefix_refl _, fun _ _ e _ => e, fun _ hb => .inl hb⟩
theorem Step.toks (β : List Addr) (s : Shared) (t : Nat) : Step β s β { s with toks := t } := ⟨⟨s.heap, t, rfl⟩, List.prefix_refl _, fun _ _ e _ => e, fun _ hb => .inl hb⟩
theorem Step.trans {β₁ β₂ β₃ : List Addr} {s₁ s₂ s₃ : Shared} (x : Step β₁ s₁ β₂ s₂) (y : Step β₂ s₂ β₃ s₃) : Step β₁ s₁ β₃ s₃ := by
  obtain ⟨⟨h, t, rfl⟩, g, k, f⟩ := x
  obtain ⟨⟨h', t', rfl⟩, g', k', f'⟩ := y
  refine ⟨⟨h', t', rfl⟩, g.trans g', fun b o e hb => k' b o (k b o e hb) fun hm => ?_, fun b hb => ?_⟩
  · rcases f b hm with q | q
    · exact hb q
    · rw [e] at q; cases q
  · rcases f' b hb with q | q
    · exact f b q
    · by_cases hm : b ∈ β₁
      · exact .inl hm
      · refine .inr ?_
        cases e : s₁.heap.get? b with
        | none => rfl
        | some o => have := k b o e hm; rw [this] at q; cases q

/-- the heap only grew beside the objects of the mini heap -/
theorem SR.keeps {h₀ h h' : Heap} {β : List Addr} {H : Hp} (x : SR h₀ β H h) (hk : ∀ b o, h.get? b = some o → h'.get? b = some o) : SR h₀ β H h' :=
  ⟨fun b o e => hk _ _ (x.kept b o e), x.nodup, x.objs.mono fun o r hr => by
    cases hr with
    | frozen a b c d e => exact .frozen a b c d e
    | own a b c => exact .own a (hk _ _ b) c⟩

theorem SR.mem {h₀ h : Heap} {β : List Addr} {H : Hp} (x : SR h₀ β H h) {b : Addr} (hb : b ∈ β) : ∃ o, h.get? b = some o := by
  obtain ⟨o, _, hr⟩ := x.objs.mem' hb
  cases hr with
  | frozen a _ _ _ _ => exact ⟨_, x.kept _ _ a⟩
  | own _ b _ => exact ⟨_, b⟩

theorem Slot1.grow {h₀ h : Heap} {β β' : List Addr} (hp : β <+: β') {o : O} {r : Addr} (x : Slot1 h₀ h β o r) : Slot1 h₀ h β' o r := by
  cases x with
  | frozen a b c d e => exact .frozen a b c (VRs.mono hp d) e
  | own a b c => exact .own a b (c.mono hp)

/-- a new object -/
theorem SR.push {h₀ h h' : Heap} {β : List Addr} {H : Hp} (x : SR h₀ β H h) {r : Addr} {o : O} {ob : Obj} (hr : h.get? r = Option.none) (hk : ∀ b o, h.get? b = some o → h'.get? b = some o) (hg : h'.get? r = some ob)
    (ho : OR (β ++ [r]) o ob) : SR h₀ (β ++ [r]) (H ++ [o]) h' := by
  have hp : β <+: β ++ [r] := List.prefix_append _ _
  have y := x.keeps hk
  have hrb : r ∉ β := fun hm => by obtain ⟨o, e⟩ := x.mem hm; rw [hr] at e; cases e
  refine ⟨y.kept, ?_, (y.objs.mono fun _ _ => Slot1.grow hp).append (.cons (.own ?_ hg ho) .nil)⟩
  · rw [List.nodup_append]
    refine ⟨x.nodup, by simp, fun a ha b hb => ?_⟩
    simp at hb; subst hb; rintro rfl; exact hrb ha
  · cases e : h₀.get? r with
    | none => rfl
    | some o => rw [x.kept _ _ e] at hr; cases hr

theorem SR.len {h₀ h : Heap} {β : List Addr} {H : Hp} (x : SR h₀ β H h) : H.length = β.length := x.objs.length

/-- an own object changed -/
theorem SR.upd {h₀ h h' : Heap} {β : List Addr} {H : Hp} (x : SR h₀ β H h) {a : Nat} {r : Addr} {o o' : O} {ob : Obj} (ha : H[a]? = some o) (hr : β[a]? = some r) (hn : h₀.get? r = Option.none)
    (hk : ∀ b, b ≠ r → h'.get? b = h.get? b) (hg : h'.get? r = some ob) (ho : OR β o' ob) : SR h₀ β (H.set a o') h' := by
  refine ⟨fun b q e => ?_, x.nodup, ?_⟩
  · have : b ≠ r := by rintro rfl; rw [hn] at e; cases e
    rw [hk b this]; exact x.kept b q e
  · have key : ∀ (H : Hp) (γ : List Addr), All2 (Slot1 h₀ h β) H γ → γ.Nodup → ∀ a, γ[a]? = some r → All2 (Slot1 h₀ h' β) (H.set a o') γ := by
      intro H γ hA
      induction hA with
      | nil => intro _ a e; simp at e
      | @cons o1 r1 os rs h1 t ih =>
        intro hnd a e
        rw [List.nodup_cons] at hnd
        have other : ∀ {o : O} {b : Addr}, b ≠ r → Slot1 h₀ h β o b → Slot1 h₀ h' β o b := fun hb q => by
          cases q with
          | frozen a b c d e => exact .frozen a b c d e
          | own a b c => exact .own a ((hk _ hb).trans b) c
        cases a with
        | zero =>
          simp at e; subst e
          refine .cons (.own hn hg ho) ?_
          have : ∀ (os : Hp) (rs : List Addr), All2 (Slot1 h₀ h β) os rs → r1 ∉ rs → All2 (Slot1 h₀ h' β) os rs := by
            intro os rs q
            induction q with
            | nil => intro _; exact .nil
            | cons q1 _ ih => intro hm; simp at hm; exact .cons (other (Ne.symm hm.1) q1) (ih hm.2)
          exact this _ _ t hnd.1
        | succ a =>
          have e' : rs[a]? = some r := by simpa using e
          have : r1 ≠ r := by rintro rfl; exact hnd.1 (List.mem_of_getElem? e')
          exact .cons (other this h1) (ih hnd.2 a e')
    exact key H β x.objs x.nodup a hr

/-- the frame: what the names hold -/
structure ER (env : PySem.Env) (ρ : Env) (β : List Addr) (h : Heap) : Prop where
  kind : env.scope.kind = .function
  glob : env.globals = mainGlobals
  bltn : env.builtins = builtinsNs
  ns : ∃ m, h.Ns env.locals m ∧ ∀ x v, ρ x = some v → env.kindOf (Str.ofString x) = some .local → Str.ofString x ≠ (".0" : Str) → ∃ u, m (Str.ofString x) = some u ∧ VR β v u
  cell : ∀ x c, env.cells.lookup x = some c → ∃ u, h.IsCell c u
  held : ∀ x v, ρ x = some v → env.kindOf (Str.ofString x) = some .cell ∨ env.kindOf (Str.ofString x) = some .free → ∃ c u, env.cells.lookup (Str.ofString x) = some c ∧ h.IsCell c (some u) ∧ VR β v u
  has : ∀ x : Str, env.kindOf x = some .cell ∨ env.kindOf x = some .free → ∃ c, env.cells.lookup x = some c
  apart : ∀ x y c, env.cells.lookup x = some c → env.cells.lookup y = some c → x = y
  locs : env.locals ∉ β
  cells : ∀ x c, env.cells.lookup x = some c → c ∉ β ∧ c ≠ env.locals

theorem Heap_IsCell_at {h h' : Heap} {c : Addr} {v : Option Value} (x : h.IsCell c v) (hk : ∀ o, h.get? c = some o → h'.get? c = some o) : h'.IsCell c v :=
  let ⟨o, ho, hd⟩ := x; ⟨o, hk o ho, hd⟩
theorem Heap_Ns_at {h h' : Heap} {c : Addr} {m : Str → Option Value} (x : h.Ns c m) (hk : ∀ o, h.get? c = some o → h'.get? c = some o) : h'.Ns c m :=
  let ⟨o, es, ep, e, r⟩ := x; ⟨o, es, ep, hk _ e, r⟩

theorem ER.step {env : PySem.Env} {ρ : Env} {β β' : List Addr} {s s' : Shared} (x : ER env ρ β s.heap) (t : Step β s β' s') : ER env ρ β' s'.heap := by
  obtain ⟨m, hn, hm⟩ := x.ns
  have notin : ∀ b, b ∉ β → (∃ o, s.heap.get? b = some o) → b ∉ β' := fun b hb ⟨o, e⟩ hm => by
    rcases t.fresh b hm with q | q
    · exact hb q
    · rw [e] at q; cases q
  refine ⟨x.kind, x.glob, x.bltn, ⟨m, Heap_Ns_at hn fun o e => t.keep _ _ e x.locs, fun y v hv hk hd => ?_⟩, fun y c hc => ?_, fun y v hv hk => ?_, x.has, x.apart, ?_, fun y c hc => ⟨?_, (x.cells y c hc).2⟩⟩
  · obtain ⟨u, hu, hr⟩ := hm y v hv hk hd; exact ⟨u, hu, hr.mono t.grow⟩
  · obtain ⟨u, hu⟩ := x.cell y c hc; exact ⟨u, Heap_IsCell_at hu fun o e => t.keep _ _ e (x.cells y c hc).1⟩
  · obtain ⟨c, u, hc, hu, hr⟩ := x.held y v hv hk; exact ⟨c, u, hc, Heap_IsCell_at hu fun o e => t.keep _ _ e (x.cells _ c hc).1, hr.mono t.grow⟩
  · obtain ⟨o, _, _, e, _⟩ := hn; exact notin _ x.locs ⟨o, e⟩
  · obtain ⟨u, o, e, _⟩ := x.cell y c hc; exact notin _ (x.cells y c hc).1 ⟨o, e⟩

end Mine

namespace Mine
open PySem

section
variable {prog : Program} {w : World} {A : Around} {E : Value → Shared → Prop} {s : Shared} {h₀ : Heap} {β : List Addr} {H H' : Hp} {v : V} {Q : Value → Shared → Prop}

/-- what is known behind a word -/
noncomputable def Cont (h₀ : Heap) (β : List Addr) (s : Shared) (v : V) (H' : Hp) (Q : Value → Shared → Prop) : Prop :=
  ∀ u s' β', Step β s β' s' → SR h₀ β' H' s'.heap → VR β' v u → Q u s'

theorem Cont.same {u : Value} {t : Nat} (k : Cont h₀ β s v H Q) (sr : SR h₀ β H s.heap) (vr : VR β v u) : Q u { s with toks := t } :=
  k u _ β (Step.toks β s t) sr vr
theorem Cont.here {u : Value} (k : Cont h₀ β s v H Q) (sr : SR h₀ β H s.heap) (vr : VR β v u) : Q u s :=
  k u _ β (Step.refl β s) sr vr

/-- a new object -/
theorem Cont.new {o : O} {ob : Obj} {t : Nat} (k : Cont h₀ β s (.ref H.length) (H ++ [o]) Q) (sr : SR h₀ β H s.heap) (ho : OR β o ob) (hf : ob.isFreed = false) :
    Q (.ref s.heap.objs.size) { s with heap := s.heap.push ob, toks := t } := by
  have hn : s.heap.get? s.heap.objs.size = Option.none := by
    cases e : s.heap.get? s.heap.objs.size with
    | none => rfl
    | some o => exact absurd (Heap.lt_size e) (Nat.lt_irrefl _)
  have hp : β <+: β ++ [s.heap.objs.size] := List.prefix_append _ _
  refine k _ _ (β ++ [s.heap.objs.size]) ⟨⟨_, _, rfl⟩, hp, fun b o e _ => Heap.get?_push_of_some _ e, fun b hb => ?_⟩
    (sr.push hn (fun b o e => Heap.get?_push_of_some _ e) (Heap.get?_push_size _ hf) (ho.mono hp)) (.ref ?_)
  · rcases List.mem_append.mp hb with q | q
    · exact .inl q
    · simp at q; subst q; exact .inr hn
  · rw [sr.len]; simp

theorem Cont.new0 {o : O} {ob : Obj} (k : Cont h₀ β s (.ref H.length) (H ++ [o]) Q) (sr : SR h₀ β H s.heap) (ho : OR β o ob) (hf : ob.isFreed = false) :
    Q (.ref s.heap.objs.size) { s with heap := s.heap.push ob } := Cont.new (t := s.toks) k sr ho hf

/-- an object of the mini heap, in the model -/
theorem SR.at (x : SR h₀ β H s.heap) {a : Nat} {o : O} (ha : H[a]? = some o) : ∃ r, β[a]? = some r ∧ Slot1 h₀ s.heap β o r := x.objs.get ha

theorem SR.list (x : SR h₀ β H s.heap) {a : Nat} {r : Addr} {xs : List V} (ha : H[a]? = some (.list xs)) (hr : β[a]? = some r) :
    ∃ us n, h₀.get? r = Option.none ∧ s.heap.get? r = some { cls := .type "list", data := .seq us.toArray n } ∧ VRs β xs us ∧ xs.length ≤ lim := by
  obtain ⟨r', e, sl⟩ := x.at ha
  rw [hr] at e; cases e
  cases sl with
  | own a b c => cases c with | list p q => exact ⟨_, _, a, b, p, q⟩

theorem SR.seq (x : SR h₀ β H s.heap) {a : Nat} {r : Addr} {xs : List V} (ha : seqOf H a = some xs) (hr : β[a]? = some r) :
    ∃ us n ob, s.heap.get? r = some ob ∧ (ob.cls = .type "list" ∨ ob.cls = .type "tuple") ∧ ob.data = .seq us.toArray n ∧ VRs β xs us ∧ xs.length ≤ lim := by
  unfold seqOf at ha
  split at ha
  · rename_i ys e; cases ha
    obtain ⟨us, n, _, b, c, d⟩ := x.list e hr
    exact ⟨us, n, _, b, .inl rfl, rfl, c, d⟩
  · rename_i ys e; cases ha
    obtain ⟨r', e', sl⟩ := x.at e
    rw [hr] at e'; cases e'
    cases sl with
    | frozen a b c d l => exact ⟨_, _, _, x.kept _ _ a, .inl b, c, d, l⟩
    | own a b c => cases c
  · rename_i ys e; cases ha
    obtain ⟨r', e', sl⟩ := x.at e
    rw [hr] at e'; cases e'
    cases sl with
    | own a b c => cases c with | tuple p q => exact ⟨_, _, _, b, .inr rfl, rfl, p, q⟩
  · cases ha

theorem lim_lt (n : Nat) (h : n ≤ lim) : (n : Int) < 2 ^ 63 := by unfold lim at h; omega
theorem lim_line (n : Nat) (h : n ≤ lim) : n ≤ sizeLine := by unfold lim at h; unfold sizeLine; omega

theorem p_sub {a b : Int} {t u : Tok} (k : Cont h₀ β s (.int (a - b)) H Q) (sr : SR h₀ β H s.heap) : wpAny (model prog w) A (binaryOp .Sub (.int a t) (.int b u)) Q E s :=
  P.sub_int (k.same sr (.int _ _))
theorem p_neg {a : Int} {t : Tok} (k : Cont h₀ β s (.int (-a)) H Q) (sr : SR h₀ β H s.heap) : wpAny (model prog w) A (unaryOp .USub (.int a t)) Q E s :=
  P.neg_int (k.same sr (.int _ _))
theorem p_mod {a b : Int} {t u : Tok} (hb : b ≠ 0) (k : Cont h₀ β s (.int (a.fmod b)) H Q) (sr : SR h₀ β H s.heap) : wpAny (model prog w) A (binaryOp .Mod (.int a t) (.int b u)) Q E s :=
  PyProof.Rows.mod_int' hb (k.same sr (.int _ _))
theorem p_fdiv {a b : Int} {t u : Tok} (hb : b ≠ 0) (hs : b.natAbs < 2 ^ 30) (k : Cont h₀ β s (.int (a.fdiv b)) H Q) (sr : SR h₀ β H s.heap) : wpAny (model prog w) A (binaryOp .FloorDiv (.int a t) (.int b u)) Q E s :=
  PyProof.Rows.floordiv_int hb (k.same sr (.int _ _)) (.inl (PyProof.noPylong_small (by omega)))
theorem p_addI {a b : Int} {t u : Tok} (k : Cont h₀ β s (.int (a + b)) H Q) (sr : SR h₀ β H s.heap) : wpAny (model prog w) A (binaryOp .Add (.int a t) (.int b u)) Q E s :=
  P.add_int (k.same sr (.int _ _))


theorem p_mulI {a b : Int} {t u : Tok} (ha : a.natAbs < 2 ^ 30) (k : Cont h₀ β s (.int (a * b)) H Q) (sr : SR h₀ β H s.heap) : wpAny (model prog w) A (binaryOp .Mult (.int a t) (.int b u)) Q E s :=
  P.mul_int (k.same sr (.int _ _)) (.of_left (by
    unfold Builtin.Int.intBits
    split
    · omega
    · have : a.natAbs.log2 < 30 := by
        rcases Nat.eq_zero_or_pos a.natAbs with h | h
        · rw [h]; decide
        · exact (Nat.log2_lt (Nat.pos_iff_ne_zero.mp h)).mpr ha
      omega))

theorem p_addS {x y : Str} {t u : Tok} (hs : x.cps.size + y.cps.size ≤ lim) (k : Cont h₀ β s (.str (x ++ y)) H Q) (sr : SR h₀ β H s.heap) : wpAny (model prog w) A (binaryOp .Add (.str x t) (.str y u)) Q E s :=
  PyProof.Rows.add_str (fun _ _ => k.same sr (.str _ _)) (lim_line _ hs)

theorem p_addL {a b : Nat} {ra rb : Addr} {xs ys : List V} (ha : H[a]? = some (.list xs)) (hb : H[b]? = some (.list ys)) (hra : β[a]? = some ra) (hrb : β[b]? = some rb) (hs : xs.length + ys.length ≤ lim)
    (k : Cont h₀ β s (.ref H.length) (H ++ [.list (xs ++ ys)]) Q) (sr : SR h₀ β H s.heap) : wpAny (model prog w) A (binaryOp .Add (.ref ra) (.ref rb)) Q E s := by
  obtain ⟨us, n, _, ea, va, _⟩ := sr.list ha hra
  obtain ⟨ws, m, _, eb, vb, _⟩ := sr.list hb hrb
  refine P.add_list (items := us.toArray) (items2 := ws.toArray) ea eb ?_ (by rw [List.size_toArray, List.size_toArray, ← va.length, ← vb.length]; exact lim_line _ hs)
  exact k.new0 sr (by rw [List.append_toArray]; exact .list (va.append vb) (by rw [List.length_append]; exact hs)) rfl

theorem foldl_replicate (x : Value) : ∀ n : Nat, List.foldl (fun x1 x2 : Array Value => x1 ++ x2) #[] (List.replicate n #[x]) = (List.replicate n x).toArray := by
  have key : ∀ (n : Nat) (acc : Array Value), List.foldl (fun x1 x2 : Array Value => x1 ++ x2) acc (List.replicate n #[x]) = acc ++ (List.replicate n x).toArray := by
    intro n
    induction n with
    | zero => intro acc; simp
    | succ n ih =>
      intro acc
      rw [List.replicate_succ, List.foldl_cons, ih, Array.append_assoc]
      congr 1
      simp [List.replicate_succ]
  intro n
  rw [key]; simp

theorem p_mulL {a : Nat} {ra : Addr} {x : V} {n : Int} {t : Tok} (ha : H[a]? = some (.list [x])) (hra : β[a]? = some ra) (hs : n.natAbs ≤ lim)
    (k : Cont h₀ β s (.ref H.length) (H ++ [.list (List.replicate n.toNat x)]) Q) (sr : SR h₀ β H s.heap) : wpAny (model prog w) A (binaryOp .Mult (.ref ra) (.int n t)) Q E s := by
  obtain ⟨us, m, _, ea, va, _⟩ := sr.list ha hra
  cases va with
  | cons hx hr =>
    cases hr
    rename_i ux
    have hl : n.natAbs ≤ 100000 := hs
    refine wpAny_binaryOp_repeat_ref (T := "list") (U := "int") (by decide) ⟨_, ea, rfl⟩ (fun s' => typeIs_int s' n t) noFill_list_mul F.fills_int_mul F.slot_int_rmul repeat_list F.slot_int_index.lookup
      (call_meets F.slot_int_rmul (typeIs_int s n t) F.entry_int_rmul (F.args_int_rmul_2 _ _) (int___rmul___int_list n t ra #[ux] m)
        ⟨ea, rfl, ⟨_, ea, rfl⟩, call_meets F.slot_list_mul ⟨_, ea, rfl⟩ F.entry_list_mul (F.args_list_mul_2 _ _)
          (AutoListH.list___mul___list_int_3 ra #[ux] m n t (by simp [Builtin.List.listFitsIndex]; omega) (by simp; omega) (by simp [Builtin.List.listTooLong, sizeLine]; omega))
          ⟨ea, ?_⟩⟩)
    refine k.new0 sr ?_ rfl
    have : (if (#[ux] : Array Value).isEmpty = true then 0 else n.toNat) = n.toNat := by simp
    rw [this, foldl_replicate]
    exact .list (All2.replicate hx _) (by rw [List.length_replicate]; unfold lim; omega)

theorem p_lt {a b : Int} {t u : Tok} (k : Cont h₀ β s (.bool (decide (a < b))) H Q) (sr : SR h₀ β H s.heap) : wpAny (model prog w) A (compareOp .Lt (.int a t) (.int b u)) Q E s := P.lt_int (k.here sr (.bool _))
theorem p_le {a b : Int} {t u : Tok} (k : Cont h₀ β s (.bool (decide (a ≤ b))) H Q) (sr : SR h₀ β H s.heap) : wpAny (model prog w) A (compareOp .LtE (.int a t) (.int b u)) Q E s := P.le_int (k.here sr (.bool _))
theorem p_gt {a b : Int} {t u : Tok} (k : Cont h₀ β s (.bool (decide (b < a))) H Q) (sr : SR h₀ β H s.heap) : wpAny (model prog w) A (compareOp .Gt (.int a t) (.int b u)) Q E s := P.gt_int (k.here sr (.bool _))
theorem p_ge {a b : Int} {t u : Tok} (k : Cont h₀ β s (.bool (decide (b ≤ a))) H Q) (sr : SR h₀ β H s.heap) : wpAny (model prog w) A (compareOp .GtE (.int a t) (.int b u)) Q E s := P.ge_int (k.here sr (.bool _))

theorem p_lenS {x : Str} {t : Tok} (hs : x.cps.size ≤ lim) (k : Cont h₀ β s (.int x.cps.size) H Q) (sr : SR h₀ β H s.heap) : wpAny (model prog w) A (call (.builtin "len") [.str x t]) Q E s :=
  PyProof.Rows.len_str (by have := lim_lt _ hs; unfold Str.length; omega) (k.same sr (.int _ _))

theorem SR.isSeq (x : SR h₀ β H s.heap) {a : Nat} {r : Addr} {xs : List V} (ha : seqOf H a = some xs) (hr : β[a]? = some r) :
    ∃ us, (s.heap.IsList r us.toArray ∨ PyProof.Rows.IsTup s.heap r us.toArray) ∧ VRs β xs us ∧ xs.length ≤ lim := by
  obtain ⟨us, n, ob, e, hc, hd, vr, hl⟩ := x.seq ha hr
  exact ⟨us, hc.imp (fun c => ⟨ob, e, c, n, hd⟩) (fun c => ⟨ob, e, c, n, hd⟩), vr, hl⟩

theorem p_lenL {a : Nat} {r : Addr} {xs : List V} (ha : seqOf H a = some xs) (hr : β[a]? = some r) (k : Cont h₀ β s (.int xs.length) H Q) (sr : SR h₀ β H s.heap) :
    wpAny (model prog w) A (call (.builtin "len") [.ref r]) Q E s := by
  obtain ⟨us, hq, vr, hl⟩ := sr.isSeq ha hr
  have hlen := vr.length
  have hsz : (us.toArray.size : Int) = xs.length := by rw [List.size_toArray, hlen]
  have hfit := lim_lt _ hl
  rcases hq with hq | hq
  · exact Calls.call_len_list hq (by omega) (by rw [hsz]; exact k.same sr (.int _ _))
  · exact PyProof.Rows.len_tuple hq (by omega) (by rw [hsz]; exact k.same sr (.int _ _))

theorem normIdx_some {i : Int} {n k : Nat} (h : normIdx i n = some k) : (0 ≤ i ∧ i < n ∧ k = i.toNat) ∨ (i < 0 ∧ -(n : Int) ≤ i ∧ k = (i + n).toNat) := by
  unfold normIdx at h
  by_cases hi : i < 0
  · simp only [hi, if_true] at h
    split at h
    · have := Option.some.inj h; omega
    · cases h
  · simp only [hi, if_false] at h
    split at h
    · have := Option.some.inj h; omega
    · cases h

theorem seqIndex_norm {i : Int} {n k : Nat} (h : normIdx i n = some k) : seqIndex? i n = some k := by
  rcases normIdx_some h with ⟨h0, h1, rfl⟩ | ⟨h0, h1, rfl⟩
  · exact seqIndex_of h0 h1
  · exact seqIndex_neg h0 h1

theorem normIdx_lt {i : Int} {n k : Nat} (h : normIdx i n = some k) : k < n := by
  rcases normIdx_some h with ⟨h0, h1, rfl⟩ | ⟨h0, h1, rfl⟩ <;> omega

theorem p_itemL {a : Nat} {r : Addr} {xs : List V} {i : Int} {t : Tok} {kk : Nat} (ha : seqOf H a = some xs) (hr : β[a]? = some r) (hk : normIdx i xs.length = some kk) (hv : xs[kk]? = some v)
    (k : Cont h₀ β s v H Q) (sr : SR h₀ β H s.heap) : wpAny (model prog w) A (getItem (.ref r) (.int i t)) Q E s := by
  obtain ⟨us, hq, vr, hl⟩ := sr.isSeq ha hr
  obtain ⟨u, hu, hvu⟩ := vr.get hv
  have hlen := vr.length
  have hfit := lim_lt _ hl
  have hsz : us.toArray.size = xs.length := by rw [List.size_toArray, hlen]
  have hu' : us.toArray[kk]? = some u := by rw [List.getElem?_toArray]; exact hu
  rcases hq with hq | hq
  · rcases normIdx_some hk with ⟨h0, h1, rfl⟩ | ⟨h0, h1, rfl⟩
    · exact wpAny_getItem_list hq h0 (by omega) hu' (k.here sr hvu)
    · exact wpAny_getItem_list_neg hq h0 (by omega) (by omega) (by rw [hsz]; exact hu') (k.here sr hvu)
  · have := normIdx_some hk
    exact PyProof.Rows.getItem_tuple hq (by omega) (by omega) (by rw [hsz]; exact seqIndex_norm hk) hu' (k.here sr hvu)

theorem p_mkList {vs : List V} {us : List Value} (hv : VRs β vs us) (hl : vs.length ≤ lim) (k : Cont h₀ β s (.ref H.length) (H ++ [.list vs]) Q) (sr : SR h₀ β H s.heap) :
    Q (.ref s.heap.objs.size) { s with heap := s.heap.push { cls := .type "list", data := .seq us.toArray } } := k.new0 sr (.list hv hl) rfl
theorem p_mkTuple {vs : List V} {us : List Value} (hv : VRs β vs us) (hl : vs.length ≤ lim) (k : Cont h₀ β s (.ref H.length) (H ++ [.tuple vs]) Q) (sr : SR h₀ β H s.heap) :
    Q (.ref s.heap.objs.size) { s with heap := s.heap.push { cls := .type "tuple", data := .seq us.toArray } } := k.new0 sr (.tuple hv hl) rfl

/-- a change of one own object -/
theorem Cont.upd {a : Nat} {r : Addr} {o o' : O} {ob : Obj} {u : Value} {h' : Heap} (k : Cont h₀ β s v (H.set a o') Q) (sr : SR h₀ β H s.heap) (ha : H[a]? = some o) (hr : β[a]? = some r) (hn : h₀.get? r = Option.none)
    (hk : ∀ b, b ≠ r → h'.get? b = s.heap.get? b) (hg : h'.get? r = some ob) (ho : OR β o' ob) (vr : VR β v u) : Q u { s with heap := h' } := by
  refine k _ _ β ⟨⟨_, _, rfl⟩, List.prefix_refl _, fun b q e hb => ?_, fun b hb => .inl hb⟩ (sr.upd ha hr hn hk hg ho) vr
  have : b ≠ r := by rintro rfl; exact hb (List.mem_of_getElem? hr)
  exact (hk b this).trans e

theorem mapSeq_list (us : List Value) (n : Nat) (f : Array Value → Array Value) : ∃ m, Obj.mapSeq f { cls := .type "list", data := .seq us.toArray n } = { cls := .type "list", data := .seq (f us.toArray) m } := ⟨_, rfl⟩

set_option maxRecDepth 100000 in
theorem set_at {l : Addr} {o : Obj} {us : Array Value} {n : Nat} {k : Int} {t : Tok} {v : Value} {Q : Unit → Shared → Prop} (ho : s.heap.get? l = some o) (hc : o.cls = .type "list") (hd : o.data = .seq us n) (h0 : 0 ≤ k) (hk : k < us.size) (hl : k < 2 ^ 63)
    (hQ : Q () { s with heap := s.heap.update l (Obj.mapSeq (·.setIfInBounds k.toNat v)) }) : wpAny (model prog w) A (setItem (.ref l) (.int k t) v) Q E s := by
  have ty : s.heap.IsList l us := ⟨o, ho, hc, n, hd⟩
  have fits := fitsIndex_of h0 hl
  unfold setItem
  refine wpAny_holding (wpAny_bind (wpAny_sequenceKey ty.typeIs (by decide) (wpAny_bind (wpAny_callSpecial?_slot (name := Str.ofString "__setitem__") ty.typeIs slot_list_setitem (wpAny_call_entry slot_list_setitem ty.typeIs entry_list_setitem ?_ (args_list_setitem _ _ _))))))
  show wpAny _ _ (Builtin.List.listSubscript? (.int k t) >>= _) _ _ s
  refine wpAny_bind (wpAny_listSubscript_int fits ?_)
  clear fits hl
  match k, h0, hk, hQ with
  | .ofNat m, _, hk, hQ =>
    have hlt : m < us.size := by have : (m : Int) < us.size := hk; omega
    have hm : us[m]? = some us[m] := Array.getElem?_eq_getElem hlt
    show wpAny _ _ ((seqItemAt l m >>= _) >>= _) _ _ s
    refine wpAny_bind (wpAny_bind (wpAny_seqItemAt (i := m) ho hd (wpAny_pure ?_)))
    rw [hm]
    show wpAny _ _ (setSeqItemAt l m v >>= _) _ _ s
    refine wpAny_bind (wpAny_setSeqItemAt (i := m) (v := v) ho hd ?_)
    exact wpAny_pure ⟨.none, rfl, wpAny_pure hQ⟩

theorem p_setL {a : Nat} {r : Addr} {xs : List V} {i : Int} {t : Tok} {x : V} {u : Value} {Qu : Unit → Shared → Prop} (ha : H[a]? = some (.list xs)) (hr : β[a]? = some r) (h0 : 0 ≤ i) (hi : i < xs.length) (hu : VR β x u)
    (k : Cont h₀ β s .none (H.set a (.list (xs.set i.toNat x))) (fun _ s' => Qu () s')) (sr : SR h₀ β H s.heap) : wpAny (model prog w) A (setItem (.ref r) (.int i t) u) Qu E s := by
  obtain ⟨us, n, hn, e, vr, hl⟩ := sr.list ha hr
  have hfit := lim_lt _ hl
  have hlen := vr.length
  obtain ⟨m, rfl⟩ := Int.eq_ofNat_of_zero_le h0
  refine set_at e rfl rfl h0 (by rw [List.size_toArray, ← hlen]; omega) (by omega) ?_
  rw [Int.toNat_natCast] at k ⊢
  obtain ⟨q, hq⟩ := mapSeq_list us n fun xs => xs.setIfInBounds m u
  refine Cont.upd (u := .none) k sr ha hr hn (fun b hb => Heap.get?_update_other _ _ (Ne.symm hb)) (Heap.get?_update_self _ e (by rw [hq]; rfl)) ?_ .none
  rw [hq]
  have : us.toArray.setIfInBounds m u = (us.set m u).toArray := by simp
  rw [this]
  exact .list (vr.set m hu) (by rw [List.length_set]; exact hl)

theorem p_append {a : Nat} {r : Addr} {xs : List V} {x : V} {u : Value} (ha : H[a]? = some (.list xs)) (hr : β[a]? = some r) (hl : xs.length < lim) (hu : VR β x u)
    (k : Cont h₀ β s .none (H.set a (.list (xs ++ [x]))) Q) (sr : SR h₀ β H s.heap) : wpAny (model prog w) A (call (.builtin "list.append") [.ref r, u]) Q E s := by
  obtain ⟨us, n, hn, e, vr, hle⟩ := sr.list ha hr
  have hlen := vr.length
  refine call_meets F.slot_list_append ⟨_, e, rfl⟩ F.entry_list_append (F.args_list_append_2 _ _) (list_append r us.toArray n u (by rw [List.size_toArray, ← hlen]; exact lim_line _ hle)) ⟨e, ?_⟩
  obtain ⟨m, hm⟩ := mapSeq_list us n fun xs => xs.push u
  refine k.upd sr ha hr hn (fun b hb => Heap.get?_update_other _ _ (Ne.symm hb)) (Heap.get?_update_self _ e (by rw [hm]; rfl)) ?_ .none
  rw [hm, List.push_toArray]
  exact .list (vr.append (.cons hu .nil)) (by rw [List.length_append]; exact hl)

theorem p_pop {a : Nat} {r : Addr} {xs : List V} {i : Int} {t : Tok} {kk : Nat} (ha : H[a]? = some (.list xs)) (hr : β[a]? = some r) (hk : normIdx i xs.length = some kk) (hv : xs[kk]? = some v)
    (k : Cont h₀ β s v (H.set a (.list (xs.eraseIdx kk))) Q) (sr : SR h₀ β H s.heap) : wpAny (model prog w) A (call (.builtin "list.pop") [.ref r, .int i t]) Q E s := by
  obtain ⟨us, n, hn, e, vr, hle⟩ := sr.list ha hr
  have hlen := vr.length
  have hfit := lim_lt _ hle
  obtain ⟨u, hu, hvu⟩ := vr.get hv
  have hsz : us.toArray.size = xs.length := by rw [List.size_toArray, hlen]
  have hlt := normIdx_lt hk
  have hb := normIdx_some hk
  refine call_meets F.slot_list_pop ⟨_, e, rfl⟩ F.entry_list_pop (F.args_list_pop_2 _ _) (MeetsSeq.list_pop_at r us.toArray n i t kk u (by simp [Builtin.List.listFitsIndex]; omega) (by rw [hsz]; exact seqIndex_norm hk)
    (by rw [List.getElem?_toArray]; exact hu) (by rw [hsz]; exact lim_line _ hle)) ⟨e, ?_⟩
  obtain ⟨m, hm⟩ := mapSeq_list us n fun xs => xs.eraseIdxIfInBounds kk
  refine k.upd sr ha hr hn (fun b hb => Heap.get?_update_other _ _ (Ne.symm hb)) (Heap.get?_update_self _ e (by rw [hm]; rfl)) ?_ hvu
  rw [hm]
  have : us.toArray.eraseIdxIfInBounds kk = (us.eraseIdx kk).toArray := by
    rw [Array.eraseIdxIfInBounds, dif_pos (by rw [hsz]; exact hlt)]; simp
  rw [this]
  exact .list (vr.eraseIdx kk) (by have := List.length_eraseIdx_le xs kk; omega)

end
end Mine

namespace Mine
open PySem

section
variable {prog : Program} {w : World} {A : Around} {E : Value → Shared → Prop} {s : Shared} {h₀ : Heap} {β : List Addr} {H H' : Hp} {v : V} {Q : Value → Shared → Prop}

theorem mapM_cons_some {α γ : Type} {f : α → Option γ} {x : α} {xs : List α} {ys : List γ} (h : (x :: xs).mapM f = some ys) : ∃ y r, f x = some y ∧ xs.mapM f = some r ∧ ys = y :: r := by
  rw [List.mapM_cons] at h
  cases hx : f x with
  | none => rw [hx] at h; cases h
  | some y =>
    rw [hx] at h
    cases hr : xs.mapM f with
    | none => rw [hr] at h; cases h
    | some r => rw [hr] at h; cases h; exact ⟨y, r, rfl, rfl, rfl⟩
theorem mapM_nil_some {α γ : Type} {f : α → Option γ} {ys : List γ} (h : ([] : List α).mapM f = some ys) : ys = [] := by
  rw [List.mapM_nil] at h; cases h; rfl

theorem reads_all {n : Nat} (ih : ∀ v u d, readD n H v = some d → VR β v u → ∃ as, Reads s.heap u d as ∧ d.depth ≤ n) :
    ∀ {xs : List V} {us : List Value} {ds : List PyData}, VRs β xs us → xs.mapM (readD n H) = some ds → ∃ as, ReadsAll s.heap us ds as ∧ PyData.depthAll ds ≤ n := by
  intro xs us ds hv
  induction hv generalizing ds with
  | nil => intro h; rw [mapM_nil_some h]; exact ⟨_, .nil, Nat.zero_le _⟩
  | cons h _ ih2 =>
    intro hm
    obtain ⟨y, r, h1, h2, rfl⟩ := mapM_cons_some hm
    obtain ⟨as, ra, da⟩ := ih _ _ _ h1 h
    obtain ⟨bs, rb, db⟩ := ih2 h2
    exact ⟨_, .cons ra rb, by rw [PyData.depthAll]; omega⟩

theorem reads_of (sr : SR h₀ β H s.heap) : ∀ (n : Nat) (v : V) (u : Value) (d : PyData), readD n H v = some d → VR β v u → ∃ as, Reads s.heap u d as ∧ d.depth ≤ n := by
  intro n
  induction n with
  | zero =>
    intro v u d h hv
    cases hv <;> simp only [readD] at h <;> cases h
    · exact ⟨_, .none, Nat.le_refl _⟩
    · exact ⟨_, .bool _, Nat.le_refl _⟩
    · exact ⟨_, .int _ _, Nat.le_refl _⟩
    · exact ⟨_, .str _ _, Nat.le_refl _⟩
  | succ n ih =>
    intro v u d h hv
    cases hv with
    | none => simp only [readD] at h; cases h; exact ⟨_, .none, Nat.zero_le _⟩
    | bool b => simp only [readD] at h; cases h; exact ⟨_, .bool _, Nat.zero_le _⟩
    | int i t => simp only [readD] at h; cases h; exact ⟨_, .int _ _, Nat.zero_le _⟩
    | str x t => simp only [readD] at h; cases h; exact ⟨_, .str _ _, Nat.zero_le _⟩
    | @ref a r hr =>
      simp only [readD] at h
      split at h
      · rename_i xs e
        obtain ⟨ds, hds, rfl⟩ := Option.map_eq_some_iff.mp h
        obtain ⟨us, m, _, eo, vr, _⟩ := sr.list e hr
        obtain ⟨as, ra, da⟩ := reads_all ih vr hds
        exact ⟨_, .list eo rfl rfl (by simpa using ra), by rw [PyData.depth]; omega⟩
      · rename_i xs e
        obtain ⟨ds, hds, rfl⟩ := Option.map_eq_some_iff.mp h
        obtain ⟨r', e', sl⟩ := sr.at e
        rw [hr] at e'; cases e'
        cases sl with
        | frozen a b c d l =>
          obtain ⟨as, ra, da⟩ := reads_all ih d hds
          exact ⟨_, .list (sr.kept _ _ a) b c (by simpa using ra), by rw [PyData.depth]; omega⟩
        | own a b c => cases c
      · rename_i xs e
        obtain ⟨ds, hds, rfl⟩ := Option.map_eq_some_iff.mp h
        obtain ⟨r', e', sl⟩ := sr.at e
        rw [hr] at e'; cases e'
        cases sl with
        | own a b c =>
          cases c with
          | tuple vr l =>
            obtain ⟨as, ra, da⟩ := reads_all ih vr hds
            exact ⟨_, .tuple b rfl rfl (by simpa using ra), by rw [PyData.depth]; omega⟩
      · cases h

theorem eqD_some {a b : V} {r : Bool} (h : eqD H a b = some r) : ∃ x y, readD 8 H a = some x ∧ readD 8 H b = some y ∧ x.canLay0 = true ∧ y.canLay0 = true ∧ r = PyData.eqv x y := by
  unfold eqD at h
  split at h
  · rename_i x y ha hb
    split at h
    · rename_i hc
      rw [Bool.and_eq_true] at hc
      exact ⟨x, y, ha, hb, hc.1, hc.2, (Option.some.inj h).symm⟩
    · cases h
  · cases h

theorem shaped_of {d : PyData} (hc : d.canLay0 = true) (hd : d.depth ≤ 8) : SeqAt.shaped d = true := by
  unfold SeqAt.shaped; rw [hc]; simp; omega

theorem p_eq {a b : V} {ua ub : Value} {r : Bool} (ha : VR β a ua) (hb : VR β b ub) (h : eqD H a b = some r) (hu : A.units + 100 < cLine) (k : Cont h₀ β s (.bool r) H Q) (sr : SR h₀ β H s.heap) :
    wpAny (model prog w) A (compareOp .Eq ua ub) Q E s := by
  obtain ⟨x, y, rx, ry, cx, cy, rfl⟩ := eqD_some h
  obtain ⟨as, ra, da⟩ := reads_of sr _ _ _ _ rx ha
  obtain ⟨bs, rb, db⟩ := reads_of sr _ _ _ _ ry hb
  exact SeqAt.compareEq_shaped ra rb (shaped_of cx da) (shaped_of cy db) (by omega) (k.here sr (.bool _))

theorem p_ne {a b : V} {ua ub : Value} {r : Bool} (ha : VR β a ua) (hb : VR β b ub) (h : eqD H a b = some r) (hu : A.units + 100 < cLine) (k : Cont h₀ β s (.bool (!r)) H Q) (sr : SR h₀ β H s.heap) :
    wpAny (model prog w) A (compareOp .NotEq ua ub) Q E s := by
  obtain ⟨x, y, rx, ry, cx, cy, rfl⟩ := eqD_some h
  obtain ⟨as, ra, da⟩ := reads_of sr _ _ _ _ rx ha
  obtain ⟨bs, rb, db⟩ := reads_of sr _ _ _ _ ry hb
  exact SeqAt.compareNe_shaped ra rb (shaped_of cx da) (shaped_of cy db) (by omega) (k.here sr (.bool _))

theorem inD_some {x : V} {xs : List V} {r : Bool} (h : inD H x xs = some r) : ∃ d ds, readD 8 H x = some d ∧ xs.mapM (readD 8 H) = some ds ∧ d.canLay0 = true ∧ PyData.canLayAll0 ds = true ∧ r = ds.any fun y => PyData.eqv y d := by
  unfold inD at h
  split at h
  · rename_i d ds hd hds
    split at h
    · rename_i hc
      rw [Bool.and_eq_true] at hc
      exact ⟨d, ds, hd, hds, hc.1, hc.2, (Option.some.inj h).symm⟩
    · cases h
  · cases h

/-- a list or a tuple read as data -/
theorem readsSeq (sr : SR h₀ β H s.heap) {a : Nat} {r : Addr} {xs : List V} {ds : List PyData} (ha : seqOf H a = some xs) (hr : β[a]? = some r) (hds : xs.mapM (readD 8 H) = some ds) :
    ∃ as, (Reads s.heap (.ref r) (.list ds) as ∨ Reads s.heap (.ref r) (.tuple ds) as) ∧ PyData.depthAll ds ≤ 8 := by
  obtain ⟨us, n, ob, e, hc, hd, vr, _⟩ := sr.seq ha hr
  obtain ⟨as, ra, da⟩ := reads_all (reads_of sr 8) vr hds
  rcases hc with hc | hc
  · exact ⟨_, .inl (.list e hc hd (by simpa using ra)), da⟩
  · exact ⟨as, .inr (.tuple e hc hd (by simpa using ra)), da⟩

theorem p_in {x : V} {ux : Value} {a : Nat} {r : Addr} {xs : List V} {b : Bool} (hx : VR β x ux) (ha : seqOf H a = some xs) (hr : β[a]? = some r) (h : inD H x xs = some b) (hu : A.units + 100 < cLine)
    (k : Cont h₀ β s (.bool b) H Q) (sr : SR h₀ β H s.heap) : wpAny (model prog w) A (compareOp .In ux (.ref r)) Q E s := by
  obtain ⟨d, ds, hd, hds, c1, c2, rfl⟩ := inD_some h
  obtain ⟨bs, rx, dx⟩ := reads_of sr _ _ _ _ hd hx
  obtain ⟨as, rs, dd⟩ := readsSeq sr ha hr hds
  have hu' : A.units + 1 + min (PyData.depthAll ds) d.depth < cLine := by omega
  rcases rs with rs | rs
  · exact SeqAt.in_list_reads rs rx c2 c1 hu' (k.here sr (.bool _))
  · exact SeqAt.in_tuple_reads rs rx c2 c1 hu' (k.here sr (.bool _))
theorem p_notIn {x : V} {ux : Value} {a : Nat} {r : Addr} {xs : List V} {b : Bool} (hx : VR β x ux) (ha : seqOf H a = some xs) (hr : β[a]? = some r) (h : inD H x xs = some b) (hu : A.units + 100 < cLine)
    (k : Cont h₀ β s (.bool (!b)) H Q) (sr : SR h₀ β H s.heap) : wpAny (model prog w) A (compareOp .NotIn ux (.ref r)) Q E s := by
  obtain ⟨d, ds, hd, hds, c1, c2, rfl⟩ := inD_some h
  obtain ⟨bs, rx, dx⟩ := reads_of sr _ _ _ _ hd hx
  obtain ⟨as, rs, dd⟩ := readsSeq sr ha hr hds
  have hu' : A.units + 1 + min (PyData.depthAll ds) d.depth < cLine := by omega
  rcases rs with rs | rs
  · exact SeqAt.notIn_list_reads rs rx c2 c1 hu' (k.here sr (.bool _))
  · exact SeqAt.notIn_tuple_reads rs rx c2 c1 hu' (k.here sr (.bool _))

theorem p_isNone {v : V} {u : Value} (hv : VR β v u) (k : Cont h₀ β s (.bool (decide (v = .none))) H Q) (sr : SR h₀ β H s.heap) : wpAny (model prog w) A (compareOp .Is u .none) Q E s := by
  refine is_none ?_
  have : (u == Value.none) = decide (v = .none) := by cases hv <;> simp
  rw [this]; exact k.here sr (.bool _)
theorem p_isNotNone {v : V} {u : Value} (hv : VR β v u) (k : Cont h₀ β s (.bool (!decide (v = .none))) H Q) (sr : SR h₀ β H s.heap) : wpAny (model prog w) A (compareOp .IsNot u .none) Q E s := by
  refine isNot_none ?_
  have : (u == Value.none) = decide (v = .none) := by cases hv <;> simp
  rw [this]; exact k.here sr (.bool _)
theorem isSame_true {v : V} {u : Value} (hv : VR β v u) : PySem.isSame u (.bool true) = pure (u == .bool true) := by cases hv <;> rfl
theorem isSame_dec {v : V} {u : Value} (hv : VR β v u) : (u == Value.bool true) = decide (v = .bool true) := by
  cases hv with
  | bool b => cases b <;> rfl
  | _ => simp
theorem p_isTrue {v : V} {u : Value} (hv : VR β v u) (k : Cont h₀ β s (.bool (decide (v = .bool true))) H Q) (sr : SR h₀ β H s.heap) : wpAny (model prog w) A (compareOp .Is u (.bool true)) Q E s := by
  show wpAny (model prog w) A (do return .bool (← PySem.isSame u (.bool true))) Q E s
  rw [isSame_true hv, isSame_dec hv]; exact wpAny_bind (wpAny_pure (wpAny_pure (k.here sr (.bool _))))
theorem p_isNotTrue {v : V} {u : Value} (hv : VR β v u) (k : Cont h₀ β s (.bool (!decide (v = .bool true))) H Q) (sr : SR h₀ β H s.heap) : wpAny (model prog w) A (compareOp .IsNot u (.bool true)) Q E s := by
  show wpAny (model prog w) A (do return .bool (!(← PySem.isSame u (.bool true)))) Q E s
  rw [isSame_true hv, isSame_dec hv]; exact wpAny_bind (wpAny_pure (wpAny_pure (k.here sr (.bool _))))

/-- the built-in types that the texts name -/
noncomputable def plainTypes : List String := ["int", "bool", "list", "tuple", "str"]

theorem p_isinst {v : V} {u : Value} {t : String} (hv : VR β v u) (ht : t ∈ plainTypes) (k : Cont h₀ β s (.bool (isInst v [t] H)) H Q) (sr : SR h₀ β H s.heap) :
    wpAny (model prog w) A (call (.builtin "isinstance") [u, .type t]) Q E s := by
  have yes : isInst v [t] H = true → Q (.bool true) s := fun e => by have := k.here sr (.bool _); rw [e] at this; exact this
  have no : isInst v [t] H = false → Q (.bool false) { s with toks := s.toks + 1 } := fun e => by have := k.same (t := s.toks + 1) sr (.bool _); rw [e] at this; exact this
  simp only [plainTypes, List.mem_cons, List.not_mem_nil, or_false] at ht
  cases hv with
  | none =>
    rcases ht with rfl | rfl | rfl | rfl | rfl
    · exact IsiPair.NoneType_int (no rfl)
    · exact IsiPair.NoneType_bool (no rfl)
    · exact IsiPair.NoneType_list (no rfl)
    · exact IsiPair.NoneType_tuple (no rfl)
    · exact IsiPair.NoneType_str (no rfl)
  | bool b =>
    rcases ht with rfl | rfl | rfl | rfl | rfl
    · exact IsiPair.bool_int (yes rfl)
    · exact IsiPair.bool_bool (yes rfl)
    · exact IsiPair.bool_list (no rfl)
    · exact IsiPair.bool_tuple (no rfl)
    · exact IsiPair.bool_str (no rfl)
  | int i tk =>
    rcases ht with rfl | rfl | rfl | rfl | rfl
    · exact IsiPair.int_int (yes rfl)
    · exact IsiPair.int_bool (no rfl)
    · exact IsiPair.int_list (no rfl)
    · exact IsiPair.int_tuple (no rfl)
    · exact IsiPair.int_str (no rfl)
  | str x tk =>
    rcases ht with rfl | rfl | rfl | rfl | rfl
    · exact IsiPair.str_int (no rfl)
    · exact IsiPair.str_bool (no rfl)
    · exact IsiPair.str_list (no rfl)
    · exact IsiPair.str_tuple (no rfl)
    · exact IsiPair.str_str (yes rfl)
  | @ref a r hr =>
    have hlt : a < H.length := by rw [sr.len]; exact (List.getElem?_eq_some_iff.mp hr).1
    obtain ⟨o, ho⟩ : ∃ o, H[a]? = some o := ⟨_, List.getElem?_eq_getElem hlt⟩
    obtain ⟨r', e', sl⟩ := sr.at ho
    rw [hr] at e'; cases e'
    have isL : ∀ {ob : Obj}, s.heap.get? r = some ob → ob.cls = .type "list" → typesOf (.ref a) H = ["list"] → wpAny (model prog w) A (call (.builtin "isinstance") [.ref r, .type t]) Q E s := by
      intro ob e c ty
      have yes' : ["list"].contains t = true → Q (.bool true) s := fun e => yes (by simp [isInst, ty]; simpa using e)
      have no' : ["list"].contains t = false → Q (.bool false) { s with toks := s.toks + 1 } := fun e => no (by simp [isInst, ty]; simpa using e)
      rcases ht with rfl | rfl | rfl | rfl | rfl
      · exact IsiPair.list_int e c (no' rfl)
      · exact IsiPair.list_bool e c (no' rfl)
      · exact IsiPair.list_list e c (yes' rfl)
      · exact IsiPair.list_tuple e c (no' rfl)
      · exact IsiPair.list_str e c (no' rfl)
    cases sl with
    | frozen f0 b c d l => exact isL (sr.kept _ _ f0) b (by simp [typesOf, ho])
    | own f0 b c =>
      cases c with
      | list p q => exact isL b rfl (by simp [typesOf, ho])
      | tuple p q =>
        have ty : typesOf (.ref a) H = ["tuple"] := by simp only [typesOf, ho]
        have yes' : ["tuple"].contains t = true → Q (.bool true) s := fun e => yes (by simp [isInst, ty]; simpa using e)
        have no' : ["tuple"].contains t = false → Q (.bool false) { s with toks := s.toks + 1 } := fun e => no (by simp [isInst, ty]; simpa using e)
        rcases ht with rfl | rfl | rfl | rfl | rfl
        · exact IsiPair.tuple_int b rfl (no' rfl)
        · exact IsiPair.tuple_bool b rfl (no' rfl)
        · exact IsiPair.tuple_list b rfl (no' rfl)
        · exact IsiPair.tuple_tuple b rfl (yes' rfl)
        · exact IsiPair.tuple_str b rfl (no' rfl)

theorem Cont.newAt {o : O} {ob : Obj} {t : Nat} {h' : Heap} {r : Addr} (k : Cont h₀ β s (.ref H.length) (H ++ [o]) Q) (sr : SR h₀ β H s.heap) (hn : s.heap.get? r = Option.none) (hk : ∀ b o, s.heap.get? b = some o → h'.get? b = some o)
    (hg : h'.get? r = some ob) (ho : OR β o ob) : Q (.ref r) { s with heap := h', toks := t } := by
  have hp : β <+: β ++ [r] := List.prefix_append _ _
  refine k _ _ (β ++ [r]) ⟨⟨_, _, rfl⟩, hp, fun b o e _ => hk b o e, fun b hb => ?_⟩ (sr.push hn hk hg (ho.mono hp)) (.ref ?_)
  · rcases List.mem_append.mp hb with q | q
    · exact .inl q
    · simp at q; subst q; exact .inr hn
  · rw [sr.len]; simp

theorem get_none_of_le {h : Heap} {a : Addr} (ha : h.objs.size ≤ a) : h.get? a = Option.none := by
  cases e : h.get? a with
  | none => rfl
  | some o => exact absurd (Heap.lt_size e) (Nat.not_lt.mpr ha)

theorem p_list {a : Nat} {r : Addr} {xs : List V} (ha : seqOf H a = some xs) (hr : β[a]? = some r) (k : Cont h₀ β s (.ref H.length) (H ++ [.list xs]) Q) (sr : SR h₀ β H s.heap) :
    wpAny (model prog w) A (call (.type "list") [.ref r]) Q E s := by
  obtain ⟨us, n, ob, e, hc, hd, vr, hl⟩ := sr.seq ha hr
  have hlen := vr.length
  have fin : ∀ h' c', (∀ b o', s.heap.get? b = some o' → h'.get? b = some o') → h'.get? s.heap.objs.size = some { cls := .type "list", dict := none, data := .seq us.toArray c', slots := #[] } → Q (.ref s.heap.objs.size) { s with heap := h' } :=
    fun h' c' hk hg => Cont.newAt (t := s.toks) k sr (get_none_of_le (Nat.le_refl _)) hk hg (.list vr hl)
  have hsz : us.toArray.size ≤ sizeLine := by rw [List.size_toArray, ← hlen]; exact lim_line _ hl
  rcases hc with hc | hc
  · exact call_list_seq r (T := "list") (.inl rfl) e hc hd fin hsz
  · exact call_list_seq r (T := "tuple") (.inr rfl) e hc hd fin hsz

theorem p_index {a : Nat} {r : Addr} {xs : List V} {is : List Int} {i : Int} {t : Tok} (ha : H[a]? = some (.list xs)) (hr : β[a]? = some r) (hi : xs.mapM asInt = some is) (hm : i ∈ is)
    (k : Cont h₀ β s (.int (is.idxOf i : Nat)) H Q) (sr : SR h₀ β H s.heap) : wpAny (model prog w) A (call (.builtin "list.index") [.ref r, .int i t]) Q E s := by
  obtain ⟨us, n, hn, e, vr, hl⟩ := sr.list ha hr
  have hints : ∀ {xs : List V} {us : List Value} {is : List Int}, VRs β xs us → xs.mapM asInt = some is → All2 (fun i u => ∃ t, u = Value.int i t) is us := by
    intro xs us is hv
    induction hv generalizing is with
    | nil => intro h; rw [mapM_nil_some h]; exact .nil
    | cons h _ ih =>
      intro hm
      obtain ⟨y, q, h1, h2, rfl⟩ := mapM_cons_some hm
      cases h with
      | int j tk => simp [asInt] at h1; subst h1; exact .cons ⟨tk, rfl⟩ (ih h2)
      | _ => simp [asInt] at h1
  have hI := hints vr hi
  have hlen := vr.length
  have hlenI := hI.length
  have hidx : is.idxOf i < is.length := List.idxOf_lt_length_of_mem hm
  have hfit := lim_lt _ hl
  let eq : Value → Bool := fun y => match y with | .int j _ => j == i | _ => false
  have at_ : ∀ m (hm : m < us.toArray.size), ∃ tk, us.toArray[m] = .int (is[m]'(by rw [hlenI]; simpa using hm)) tk := by
    intro m hm
    have hm' : m < us.length := by simpa using hm
    obtain ⟨q, hq, tk, hu⟩ := hI.get' (List.getElem?_eq_getElem hm')
    have : is[m]'(by rw [hlenI]; exact hm') = q := by
      have := List.getElem?_eq_getElem (l := is) (i := m) (by rw [hlenI]; exact hm')
      rw [hq] at this; exact (Option.some.inj this).symm
    exact ⟨tk, by simp [this, hu]⟩
  refine call_meets F.slot_list_index ⟨_, e, rfl⟩ F.entry_list_index (F.args_list_index_2 _ _) (MeetsSeq.list_index r us.toArray n (.int i t) eq (fun y hy => ?_) (is.idxOf i) (by simp; omega) (by omega) ?_ ?_) ⟨e, k.same sr (.int _ _)⟩
  · obtain ⟨m, hm, rfl⟩ := Array.mem_iff_getElem.mp hy
    obtain ⟨tk, hu⟩ := at_ m hm
    rw [hu]; exact MeetsSeq.EqGives.int _ _ _ _
  · obtain ⟨tk, hu⟩ := at_ (is.idxOf i) (by simp; omega)
    rw [hu]; simp [eq]
  · intro m hm hlt
    obtain ⟨tk, hu⟩ := at_ m hm
    rw [hu]
    have : is[m]'(by rw [hlenI]; simpa using hm) ≠ i := fun q => by
      have := List.not_of_lt_findIdx (p := (· == i)) (xs := is) (i := m) hlt
      simp [q] at this
    simpa [eq] using this

end
end Mine

namespace Mine
open PySem

noncomputable def cmpOf : Cmp → CmpOp
  | .eq => .Eq | .ne => .NotEq | .lt => .Lt | .le => .LtE | .gt => .Gt | .ge => .GtE | .is_ => .Is | .isNot => .IsNot | .in_ => .In | .notIn => .NotIn
noncomputable def binOf : Bin → Operator
  | .add => .Add | .sub => .Sub | .mul => .Mult | .mod => .Mod | .fdiv => .FloorDiv

noncomputable def isVar (sc : Scope) (x : Str) : Bool := match sc.names.lookup x with
  | some .local | some .cell | some .free => x != (".0" : Str) && x != ("__debug__" : Str) && x != ("__classdict__" : Str)
  | _ => false
noncomputable def isGlb (sc : Scope) (x : Str) : Bool := match sc.names.lookup x with
  | some .globalImplicit => x != ("__debug__" : Str)
  | _ => false
noncomputable def methName : Prim → Option String
  | .append => some "append" | .pop => some "pop" | .index => some "index"
  | .join => some "join" | .split => some "split" | .startswith => some "startswith"
  | _ => none

noncomputable def isSlice : Expr → Bool
  | .Slice .. => true
  | _ => false

/-- the operands of a word of the text -/
inductive OpA (sc : Scope) : Prim → Expr → List Expr → Prop where
  | bin (o : Bin) {l r : Expr} {p : Pos} : OpA sc (.bin o) (.BinOp l (binOf o) r p) [l, r]
  | neg {x : Expr} {p : Pos} : OpA sc .neg (.UnaryOp .USub x p) [x]
  | cmp (o : Cmp) {l r : Expr} {p : Pos} : behindInMarks (cmpOf o) r = false → OpA sc (.cmp o) (.Compare l [cmpOf o] [r] p) [l, r]
  | len {xs : List Expr} {p pos : Pos} : isGlb sc (Str.ofString "len") = true → OpA sc .len (.Call (.Name (Str.ofString "len") p) xs [] pos) xs
  | list {xs : List Expr} {p pos : Pos} : isGlb sc (Str.ofString "list") = true → OpA sc .list (.Call (.Name (Str.ofString "list") p) xs [] pos) xs
  | isinst (t : String) {x : Expr} {p p' pos : Pos} : isGlb sc (Str.ofString "isinstance") = true → isGlb sc (Str.ofString t) = true → t ∈ plainTypes → OpA sc (.isinst [t]) (.Call (.Name (Str.ofString "isinstance") p) [x, .Name (Str.ofString t) p'] [] pos) [x]
  | item {v i : Expr} {p : Pos} : isSlice i = false → OpA sc .item (.Subscript v i p) [v, i]
  | sliceTo {v u : Expr} {p pos : Pos} : OpA sc (.slice false true) (.Subscript v (.Slice none (some u) none p) pos) [v, u]
  | sliceFrom {v u : Expr} {p pos : Pos} : OpA sc (.slice true false) (.Subscript v (.Slice (some u) none none p) pos) [v, u]
  | sliceBoth {v l u : Expr} {p pos : Pos} : OpA sc (.slice true true) (.Subscript v (.Slice (some l) (some u) none p) pos) [v, l, u]
  | mkList {xs : List Expr} {p : Pos} : OpA sc .mkList (.List xs p) xs
  | mkTuple {xs : List Expr} {b : Nat} {p : Pos} : OpA sc .mkTuple (.Tuple xs b p) xs
  | int {xs : List Expr} {p pos : Pos} : isGlb sc (Str.ofString "int") = true → OpA sc .int (.Call (.Name (Str.ofString "int") p) xs [] pos) xs
  | str {xs : List Expr} {p pos : Pos} : isGlb sc (Str.ofString "str") = true → OpA sc .str (.Call (.Name (Str.ofString "str") p) xs [] pos) xs

noncomputable def opA? (sc : Scope) (p : Prim) (x : Expr) : Option { xs : List Expr // OpA sc p x xs } := match p, x with
  | .bin o, .BinOp l op r _ => if h : op = binOf o then some ⟨[l, r], by subst h; exact .bin o⟩ else none
  | .neg, .UnaryOp .USub y _ => some ⟨[y], .neg⟩
  | .cmp o, .Compare l [op] [r] _ => if h : op = cmpOf o ∧ behindInMarks (cmpOf o) r = false then some ⟨[l, r], by obtain ⟨rfl, h⟩ := h; exact .cmp o h⟩ else none
  | .len, .Call (.Name id _) xs [] _ => if h : id = Str.ofString "len" ∧ isGlb sc (Str.ofString "len") = true then some ⟨xs, by obtain ⟨rfl, h⟩ := h; exact .len h⟩ else none
  | .list, .Call (.Name id _) xs [] _ => if h : id = Str.ofString "list" ∧ isGlb sc (Str.ofString "list") = true then some ⟨xs, by obtain ⟨rfl, h⟩ := h; exact .list h⟩ else none
  | .isinst [t], .Call (.Name id _) [y, .Name id' _] [] _ => if h : id = Str.ofString "isinstance" ∧ id' = Str.ofString t ∧ isGlb sc (Str.ofString "isinstance") = true ∧ isGlb sc (Str.ofString t) = true ∧ t ∈ plainTypes then some ⟨[y], by obtain ⟨rfl, rfl, h1, h2, h3⟩ := h; exact .isinst t h1 h2 h3⟩ else none
  | .item, .Subscript v i _ => if h : isSlice i = false then some ⟨[v, i], .item h⟩ else none
  | .slice false true, .Subscript v (.Slice none (some u) none _) _ => some ⟨[v, u], .sliceTo⟩
  | .slice true false, .Subscript v (.Slice (some u) none none _) _ => some ⟨[v, u], .sliceFrom⟩
  | .slice true true, .Subscript v (.Slice (some l) (some u) none _) _ => some ⟨[v, l, u], .sliceBoth⟩
  | .mkList, .List xs _ => some ⟨xs, .mkList⟩
  | .mkTuple, .Tuple xs _ _ => some ⟨xs, .mkTuple⟩
  | .int, .Call (.Name id _) xs [] _ => if h : id = Str.ofString "int" ∧ isGlb sc (Str.ofString "int") = true then some ⟨xs, by obtain ⟨rfl, h⟩ := h; exact .int h⟩ else none
  | .str, .Call (.Name id _) xs [] _ => if h : id = Str.ofString "str" ∧ isGlb sc (Str.ofString "str") = true then some ⟨xs, by obtain ⟨rfl, h⟩ := h; exact .str h⟩ else none
  | _, _ => none

/-- the scope of a comprehension over one name -/
noncomputable def compOk (sc scope : Scope) (x : Str) : Bool :=
  decide (scope.kind = .function) && scope.names.lookup x == some .local && x != (".0" : Str) &&
  scope.names.all fun nk => match nk.2 with
    | .local => (nk.1 == x || nk.1 == (".0" : Str)) && scope.names.lookup nk.1 == some .local
    | .free => (match sc.names.lookup nk.1 with | some .cell | some .free => true | _ => false)
    | .globalImplicit => true
    | _ => false

/-- no call without arguments: the receiver of a method is evaluated as it stands -/
noncomputable def plainBase : Expr → Bool
  | .Call (.Name _ _) [] [] _ => false
  | _ => true

mutual
/-- an expression of the text is a mini expression -/
inductive ME (fs : List String) : Scope → E → Expr → Prop where
  | none {sc : Scope} {k : Nat} {p : Pos} : ME fs sc .none (.Constant .none k p)
  | bool {sc : Scope} {b : Bool} {k : Nat} {p : Pos} : ME fs sc (.bool b) (.Constant (.bool b) k p)
  | int {sc : Scope} {i : Int} {k : Nat} {p : Pos} : ME fs sc (.int i) (.Constant (.int i) k p)
  | str {sc : Scope} {x : String} {k : Nat} {p : Pos} : ME fs sc (.str x) (.Constant (.str (Str.ofString x)) k p)
  | var {sc : Scope} {x : String} {p : Pos} : isVar sc (Str.ofString x) = true → ME fs sc (.var x) (.Name (Str.ofString x) p)
  | glob {sc : Scope} {x : String} {p : Pos} : isGlb sc (Str.ofString x) = true → ME fs sc (.glob x) (.Name (Str.ofString x) p)
  | op {sc : Scope} {p : Prim} {args : List E} {x : Expr} {xs : List Expr} : OpA sc p x xs → MEs fs sc args xs → ME fs sc (.op p args) x
  | mcall {sc : Scope} {p : Prim} {m : String} {o : E} {o' x1 : Expr} {args : List E} {apos pos : Pos} : methName p = some m → (apos.endLine == pos.line) = true → plainBase o' = true → ME fs sc o o' → MEs fs sc args [x1] →
      ME fs sc (.mcall p o args) (.Call (.Attribute o' (Str.ofString m) apos) [x1] [] pos)
  | and_ {sc : Scope} {es : List E} {x : Expr} {xs : List Expr} {p : Pos} : MEs fs sc es (x :: xs) → ME fs sc (.and_ es) (.BoolOp .And (x :: xs) p)
  | or_ {sc : Scope} {es : List E} {x : Expr} {xs : List Expr} {p : Pos} : MEs fs sc es (x :: xs) → ME fs sc (.or_ es) (.BoolOp .Or (x :: xs) p)
  | not_ {sc : Scope} {e : E} {x : Expr} {p : Pos} : ME fs sc e x → ME fs sc (.not_ e) (.UnaryOp .Not x p)
  | ife {sc : Scope} {c a b : E} {t x y : Expr} {p : Pos} : ME fs sc c t → ME fs sc a x → ME fs sc b y → ME fs sc (.ife c a b) (.IfExp t x y p)
  | chain {sc : Scope} {a b c : E} {o o' : Cmp} {l r r' : Expr} {p : Pos} : behindInMarks (cmpOf o) r = false → behindInMarks (cmpOf o') r' = false → ME fs sc a l → ME fs sc b r → ME fs sc c r' →
      ME fs sc (.chain a o b o' c) (.Compare l [cmpOf o, cmpOf o'] [r, r'] p)
  | call {sc : Scope} {f : String} {args : List E} {xs : List Expr} {p pos : Pos} : f ∈ fs → isGlb sc (Str.ofString f) = true → MEs fs sc args xs → ME fs sc (.call f args) (.Call (.Name (Str.ofString f) p) xs [] pos)
  | compR {sc scope : Scope} {elt : E} {x : String} {args conds : List E} {el : Expr} {xs ifs : List Expr} {tp gp cp pos : Pos} : isGlb sc (Str.ofString "range") = true → compOk sc scope (Str.ofString x) = true → ifs.length ≤ 1 →
      MEs fs sc args xs → ME fs scope elt el → MEs fs scope conds ifs → ME fs sc (.compR elt x args conds) (.ListComp el [⟨.Name (Str.ofString x) tp, .Call (.Name (Str.ofString "range") gp) xs [] cp, ifs, 0⟩] scope pos)
  | compS {sc scope : Scope} {elt src : E} {x : String} {conds : List E} {el it : Expr} {ifs : List Expr} {tp pos : Pos} : compOk sc scope (Str.ofString x) = true → ifs.length ≤ 1 →
      ME fs sc src it → ME fs scope elt el → MEs fs scope conds ifs → ME fs sc (.compS elt (.one x) src conds) (.ListComp el [⟨.Name (Str.ofString x) tp, it, ifs, 0⟩] scope pos)
inductive MEs (fs : List String) : Scope → List E → List Expr → Prop where
  | nil {sc : Scope} : MEs fs sc [] []
  | cons {sc : Scope} {e : E} {es : List E} {x : Expr} {xs : List Expr} : ME fs sc e x → MEs fs sc es xs → MEs fs sc (e :: es) (x :: xs)
end

abbrev Ok (p : Prop) := Option (PLift p)
noncomputable def o1 {p r : Prop} (a : Ok p) (f : p → r) : Ok r := a.map fun h => ⟨f h.down⟩
noncomputable def o2 {p q r : Prop} (a : Ok p) (b : Ok q) (f : p → q → r) : Ok r := a.bind fun h => b.map fun k => ⟨f h.down k.down⟩
noncomputable def o3 {p q t r : Prop} (a : Ok p) (b : Ok q) (c : Ok t) (f : p → q → t → r) : Ok r := a.bind fun h => b.bind fun k => c.map fun l => ⟨f h.down k.down l.down⟩
noncomputable def oif {r : Prop} (c : Prop) [Decidable c] (f : c → Ok r) : Ok r := if h : c then f h else none

mutual
noncomputable def chkE (fs : List String) (sc : Scope) : (e : E) → (x : Expr) → Ok (ME fs sc e x)
  | .none, .Constant .none _ _ => some ⟨.none⟩
  | .bool b, .Constant (.bool c) _ _ => oif (b = c) fun h => some ⟨by subst h; exact .bool⟩
  | .int b, .Constant (.int c) _ _ => oif (b = c) fun h => some ⟨by subst h; exact .int⟩
  | .str b, .Constant (.str c) _ _ => oif (c = Str.ofString b) fun h => some ⟨by subst h; exact .str⟩
  | .var x, .Name id _ => oif (id = Str.ofString x ∧ isVar sc (Str.ofString x) = true) fun h => some ⟨by obtain ⟨rfl, h⟩ := h; exact .var h⟩
  | .glob x, .Name id _ => oif (id = Str.ofString x ∧ isGlb sc (Str.ofString x) = true) fun h => some ⟨by obtain ⟨rfl, h⟩ := h; exact .glob h⟩
  | .op p args, x => (opA? sc p x).bind fun xs => o1 (chkEs fs sc args xs.1) fun h => .op xs.2 h
  | .mcall p o args, .Call (.Attribute o' name apos) [x1] [] pos => (match hm : methName p with
    | some m => oif (name = Str.ofString m ∧ (apos.endLine == pos.line) = true ∧ plainBase o' = true) fun h => o2 (chkE fs sc o o') (chkEs fs sc args [x1]) fun h1 h2 => by obtain ⟨rfl, a, b⟩ := h; exact .mcall hm a b h1 h2
    | none => none)
  | .and_ es, .BoolOp .And (x :: xs) _ => o1 (chkEs fs sc es (x :: xs)) .and_
  | .or_ es, .BoolOp .Or (x :: xs) _ => o1 (chkEs fs sc es (x :: xs)) .or_
  | .not_ e, .UnaryOp .Not x _ => o1 (chkE fs sc e x) .not_
  | .ife c a b, .IfExp t x y _ => o3 (chkE fs sc c t) (chkE fs sc a x) (chkE fs sc b y) .ife
  | .chain a o b o' c, .Compare l [p, p'] [r, r'] _ => oif ((p = cmpOf o ∧ p' = cmpOf o') ∧ behindInMarks (cmpOf o) r = false ∧ behindInMarks (cmpOf o') r' = false) fun h => o3 (chkE fs sc a l) (chkE fs sc b r) (chkE fs sc c r') fun h1 h2 h3 => by
      obtain ⟨⟨rfl, rfl⟩, h, h'⟩ := h; exact .chain h h' h1 h2 h3
  | .call f args, .Call (.Name id _) xs [] _ => oif ((id = Str.ofString f ∧ f ∈ fs) ∧ isGlb sc (Str.ofString f) = true) fun h => o1 (chkEs fs sc args xs) fun h1 => by obtain ⟨⟨rfl, h⟩, h'⟩ := h; exact .call h h' h1
  | .compR elt x args conds, .ListComp el [⟨.Name t _, .Call (.Name g _) xs [] _, ifs, 0⟩] scope _ => oif ((t = Str.ofString x ∧ g = Str.ofString "range") ∧ isGlb sc (Str.ofString "range") = true ∧ compOk sc scope (Str.ofString x) = true ∧ ifs.length ≤ 1) fun h =>
      o3 (chkEs fs sc args xs) (chkE fs scope elt el) (chkEs fs scope conds ifs) fun h1 h2 h3 => by obtain ⟨⟨rfl, rfl⟩, a, b, c⟩ := h; exact .compR a b c h1 h2 h3
  | .compS elt (.one x) src conds, .ListComp el [⟨.Name t _, it, ifs, 0⟩] scope _ => oif (t = Str.ofString x ∧ compOk sc scope (Str.ofString x) = true ∧ ifs.length ≤ 1) fun h =>
      o3 (chkE fs sc src it) (chkE fs scope elt el) (chkEs fs scope conds ifs) fun h1 h2 h3 => by obtain ⟨rfl, b, c⟩ := h; exact .compS b c h1 h2 h3
  | _, _ => none
noncomputable def chkEs (fs : List String) (sc : Scope) : (es : List E) → (xs : List Expr) → Ok (MEs fs sc es xs)
  | [], [] => some ⟨.nil⟩
  | e :: es, x :: xs => o2 (chkE fs sc e x) (chkEs fs sc es xs) .cons
  | _, _ => none
end

/-- a name's kind, as the mini programs see it -/
noncomputable def kcls : Option NameKind → Nat
  | some .local => 1
  | some .cell | some .free => 2
  | some .globalImplicit => 3
  | _ => 0

noncomputable def ScR (sc : Scope) (env : PySem.Env) : Prop := ∀ x : Str, kcls (env.kindOf x) = kcls (sc.names.lookup x)

structure Amb (n : Nat) (A : Around) : Prop where
  handled : A.handled = none
  depth : A.depth + n < 900
  units : A.units + 5 * n < 9000

/-- the names of the top, as the mini programs use them -/
noncomputable def bltn : String → Option Value
  | "len" => some (.builtin "len")
  | "isinstance" => some (.builtin "isinstance")
  | "list" => some (.type "list")
  | "tuple" => some (.type "tuple")
  | "range" => some (.type "range")
  | "int" => some (.type "int")
  | "bool" => some (.type "bool")
  | "str" => some (.type "str")
  | "min" => some (.builtin "min")
  | _ => none

structure Names (P : Prog) (fs : List String) (mg mb : Str → Option Value) (h : Heap) : Prop where
  g : h.Ns mainGlobals mg
  b : h.Ns builtinsNs mb
  nolimit : h.NoLimit
  blt : ∀ x v, bltn x = some v → mg (Str.ofString x) = none ∧ mb (Str.ofString x) = some v
  glob : ∀ x v, P.glob x = some v → ∃ u, mg (Str.ofString x) = some u ∧ VR [] v u
  fn : ∀ f ∈ fs, ∃ r ob fd, mg (Str.ofString f) = some (.ref r) ∧ h.get? r = some ob ∧ ob.data = .func fd

theorem Names.keeps {P : Prog} {fs : List String} {mg mb : Str → Option Value} {h h' : Heap} (x : Names P fs mg mb h) (hk : ∀ b o, h.get? b = some o → h'.get? b = some o) : Names P fs mg mb h' :=
  ⟨x.g.keeps hk, x.b.keeps hk, x.nolimit.keeps hk, x.blt, x.glob, fun f hf => let ⟨r, ob, fd, a, b, c⟩ := x.fn f hf; ⟨r, ob, fd, a, hk _ _ b, c⟩⟩

section
variable {prog : Program} {w : World} {A : Around} {E : Value → Shared → Prop} {s : Shared} {env : PySem.Env} {Q : Value → Shared → Prop}

noncomputable def wpList (prog : Program) (w : World) (A : Around) (env : PySem.Env) : List Expr → (List Value → Shared → Prop) → (Value → Shared → Prop) → Shared → Prop
  | [], Q, _, s => Q [] s
  | x :: xs, Q, E, s => wpAny (model prog w) A (eval x env) (fun u s1 => wpList prog w A env xs (fun us s2 => Q (u :: us) s2) E s1) E s

theorem wpList_mono {xs : List Expr} {Q Q' : List Value → Shared → Prop} {s : Shared} (h : wpList prog w A env xs Q E s) (hQ : ∀ us s, Q us s → Q' us s) : wpList prog w A env xs Q' E s := by
  induction xs generalizing Q Q' s with
  | nil => exact hQ _ _ h
  | cons x xs ih => exact wpAny_mono h (fun u s1 h1 => ih h1 fun us s2 h2 => hQ _ _ h2) fun _ _ e => e

/-- no star -/
noncomputable def plainE : Expr → Bool
  | .Starred .. => false
  | _ => true
theorem starEach_plain {e : Expr} {rest : List Expr} (h : plainE e = true) : starEach (e :: rest) env = (false, eval e env) :: starEach rest env := by
  cases e <;> first | rfl | cases h

theorem wpList_spliced {pos : Pos} {xs : List Expr} {Q : List Value → Shared → Prop} {s : Shared} (hp : xs.all plainE = true) (h : wpList prog w A env xs Q E s) : wpAny (model prog w) A (spliced (backTo pos (starEach xs env))) Q E s := by
  induction xs generalizing Q s with
  | nil => exact wpAny_items_nil h
  | cons x xs ih =>
    rw [List.all_cons, Bool.and_eq_true] at hp
    exact wpAny_items_cons (wpAny_mono h (fun u s1 h1 => ih hp.2 h1) fun _ _ e => e) (starEach_plain hp.1)

theorem backTo_any {pos : Pos} {xs : List Expr} (hp : xs.all plainE = true) : (backTo pos (starEach xs env)).any (·.1) = false := by
  induction xs with
  | nil => rfl
  | cons x xs ih =>
    rw [List.all_cons, Bool.and_eq_true] at hp
    rw [starEach_plain hp.1]
    show (false || (backTo pos (starEach xs env)).any (·.1)) = false
    rw [ih hp.2]; rfl

theorem wpList_args {f : Value} {pos : Pos} {xs : List Expr} {Q : Args → Shared → Prop} (hp : xs.all plainE = true) (h : wpList prog w A env xs (fun us s1 => Q ⟨us, []⟩ s1) E s) :
    wpAny (model prog w) A (evalArgs f true (backTo pos (starEach xs env)) []) Q E s := by
  cases xs with
  | nil => exact evalArgs_none h
  | cons x xs =>
    have hp' := hp
    rw [List.all_cons, Bool.and_eq_true] at hp
    have := wpList_spliced (pos := pos) hp' h
    rw [starEach_plain hp.1] at this ⊢
    exact Calls.evalArgs_plain this

theorem call_builtinE {id : String} {pos : Pos} {xs : List Expr} (hp : xs.all plainE = true) (h : wpList prog w A env xs (fun us s1 => wpAny (model prog w) A (call (.builtin id) us) Q E s1) E s) :
    wpAny (model prog w) A (callWith pos (.builtin id) [] (backTo pos (starEach xs env)) []) Q E s :=
  Calls.callWith_builtin (backTo_any hp) (wpList_args hp h)
theorem call_typeE {T : String} {pos : Pos} {xs : List Expr} (hp : xs.all plainE = true) (h : wpList prog w A env xs (fun us s1 => wpAny (model prog w) A (call (.type T) us) Q E s1) E s) :
    wpAny (model prog w) A (callWith pos (.type T) [] (backTo pos (starEach xs env)) []) Q E s :=
  callWith_type (backTo_any hp) (wpList_args hp h)

theorem name_global {id : Str} {pos : Pos} {mg : Str → Option Value} {u : Value} (hk : env.scope.kind = .function) (hg : env.globals = mainGlobals) (hn : s.heap.Ns mainGlobals mg) (hx : env.kindOf id = some .globalImplicit)
    (hd : (id == ("__debug__" : Str)) = false) (hv : mg id = some u) (h : Q u s) : wpAny (model prog w) A (eval (.Name id pos) env) Q E s :=
  Calls.Name_function_global hk hx (Calls.loadGlobal_global (hg ▸ hn) hv h) hd
theorem name_builtin {id : Str} {pos : Pos} {mg mb : Str → Option Value} {u : Value} (hk : env.scope.kind = .function) (hg : env.globals = mainGlobals) (hb : env.builtins = builtinsNs) (hn : s.heap.Ns mainGlobals mg) (hm : s.heap.Ns builtinsNs mb)
    (hx : env.kindOf id = some .globalImplicit) (hd : (id == ("__debug__" : Str)) = false) (h0 : mg id = none) (hv : mb id = some u) (h : Q u s) : wpAny (model prog w) A (eval (.Name id pos) env) Q E s :=
  Calls.Name_function_global hk hx (Calls.loadGlobal_builtin (hg ▸ hn) h0 (hb ▸ hm) hv h) hd
end
end Mine

namespace Mine
open PySem

section
variable {prog : Program} {w : World} {A : Around} {E : Value → Shared → Prop} {s : Shared} {env : PySem.Env} {Q : Value → Shared → Prop}

theorem isGlb_kind {sc : Scope} {id : Str} (h : isGlb sc id = true) (hs : ScR sc env) : env.kindOf id = some .globalImplicit ∧ (id == ("__debug__" : Str)) = false := by
  unfold isGlb at h
  split at h
  · rename_i e
    have := hs id
    rw [e] at this
    refine ⟨?_, by simpa using h⟩
    cases hk : env.kindOf id with
    | none => rw [hk] at this; cases this
    | some k => rw [hk] at this; cases k <;> first | rfl | cases this
  · cases h

structure Frm (P : Prog) (fs : List String) (mg mb : Str → Option Value) (sc : Scope) (env : PySem.Env) (h : Heap) : Prop where
  names : Names P fs mg mb h
  kind : env.scope.kind = .function
  glob : env.globals = mainGlobals
  bltn : env.builtins = builtinsNs
  sc : ScR sc env

variable {P : Prog} {fs : List String} {mg mb : Str → Option Value} {sc : Scope}

theorem Frm.keeps {h h' : Heap} (f : Frm P fs mg mb sc env h) (hk : ∀ b o, h.get? b = some o → h'.get? b = some o) : Frm P fs mg mb sc env h' := ⟨f.names.keeps hk, f.kind, f.glob, f.bltn, f.sc⟩

theorem Frm.builtin (f : Frm P fs mg mb sc env s.heap) {x : String} {v : Value} {pos : Pos} (hg : isGlb sc (Str.ofString x) = true) (hv : Mine.bltn x = some v) (h : Q v s) :
    wpAny (model prog w) A (eval (.Name (Str.ofString x) pos) env) Q E s := by
  obtain ⟨hk, hd⟩ := isGlb_kind hg f.sc
  obtain ⟨h0, h1⟩ := f.names.blt x v hv
  exact name_builtin f.kind f.glob f.bltn f.names.g f.names.b hk hd h0 h1 h

/-- a built-in function called by its name -/
theorem Frm.callB (f : Frm P fs mg mb sc env s.heap) {x id : String} {xs : List Expr} {p pos : Pos} (hg : isGlb sc (Str.ofString x) = true) (hv : Mine.bltn x = some (.builtin id)) (hp : xs.all plainE = true)
    (h : wpList prog w A env xs (fun us s1 => wpAny (model prog w) A (call (.builtin id) us) Q E s1) E s) : wpAny (model prog w) A (eval (.Call (.Name (Str.ofString x) p) xs [] pos) env) Q E s :=
  wpAny_Call_Name_kw (f.builtin hg hv (call_builtinE hp h))
theorem Frm.callT (f : Frm P fs mg mb sc env s.heap) {x T : String} {xs : List Expr} {p pos : Pos} (hg : isGlb sc (Str.ofString x) = true) (hv : Mine.bltn x = some (.type T)) (hp : xs.all plainE = true)
    (h : wpList prog w A env xs (fun us s1 => wpAny (model prog w) A (call (.type T) us) Q E s1) E s) : wpAny (model prog w) A (eval (.Call (.Name (Str.ofString x) p) xs [] pos) env) Q E s :=
  wpAny_Call_Name_kw (f.builtin hg hv (call_typeE hp h))

theorem sub_any {value slice : Expr} {pos : Pos} (hs : isSlice slice = false)
    (h : wpAny (model prog w) A (eval value env) (fun o s₁ => wpAny (model prog w) A (eval slice env) (fun i s₂ => SubscriptOn (model prog w) A o i Q E s₂) E s₁) E s) :
    wpAny (model prog w) A (eval (.Subscript value slice pos) env) Q E s := by
  rw [eval_Subscript]
  refine wpAny_bind (wpAny_mono h (fun o s₁ h₁ => wpAny_bind (wpAny_holding (wpAny_mono h₁ (fun i s₂ h₂ => wpAny_bind (wpAny_standAt ?_)) fun _ _ x => x))) fun _ _ x => x)
  obtain ⟨T, id, hl, hT, hg⟩ := h₂
  refine wpAny_bind ?_
  rw [getitemInPython_of_ne hT.not_modules]
  refine wpAny_bind (wpAny_specialOf hT hl ?_)
  have hsub : subscripted slice false o i = operate [o, i] (getItem o i) := by
    cases slice <;> first | rfl | cases hs
  refine wpAny_pure (wpAny_bind ?_)
  rw [hsub]
  exact wpAny_operating (wpAny_mono hg (fun r s₃ h₃ => wpAny_bind (wpAny_letTemporaryGo (wpAny_pure h₃))) fun _ _ x => x)

theorem sub_slice {value : Expr} {lower upper : Option Expr} {p pos : Pos}
    (h : wpAny (model prog w) A (eval value env) (fun o s₁ => wpAny (model prog w) A (eval (.Slice lower upper none p) env) (fun i s₂ => SubscriptOn (model prog w) A o i Q E s₂) E s₁) E s) :
    wpAny (model prog w) A (eval (.Subscript value (.Slice lower upper none p) pos) env) Q E s := by
  rw [eval_Subscript]
  refine wpAny_bind (wpAny_mono h (fun o s₁ h₁ => wpAny_bind (wpAny_holding (wpAny_mono h₁ (fun i s₂ h₂ => wpAny_bind (wpAny_standAt ?_)) fun _ _ x => x))) fun _ _ x => x)
  obtain ⟨T, id, hl, hT, hg⟩ := h₂
  refine wpAny_bind ?_
  rw [getitemInPython_of_ne hT.not_modules]
  refine wpAny_bind (wpAny_specialOf hT hl ?_)
  refine wpAny_pure (wpAny_bind ?_)
  show wpAny _ _ (operate [i, o] (getItem o i)) _ _ _
  exact wpAny_operating (wpAny_mono hg (fun r s₃ h₃ => wpAny_bind (wpAny_letTemporaryGo (wpAny_pure h₃))) fun _ _ x => x)

variable {h₀ : Heap} {β : List Addr} {H : Hp}

theorem slicePick_cut (us : List Value) (lo hi : Option Int) : slicePick us.toArray lo hi none = (cut us lo hi).toArray := by
  rw [slicePick_plain]
  simp only [cut, List.size_toArray]
  rfl

theorem All2.cut {α β : Type} {R : α → β → Prop} {as : List α} {bs : List β} (h : All2 R as bs) (lo hi : Option Int) : All2 R (Mine.cut as lo hi) (Mine.cut bs lo hi) := by
  unfold Mine.cut
  rw [h.length]
  exact (h.drop _).take _
theorem cut_length {α : Type} (xs : List α) (lo hi : Option Int) : (cut xs lo hi).length ≤ xs.length := by
  unfold cut
  rw [List.length_take, List.length_drop]; omega

theorem SR.listOf (x : SR h₀ β H s.heap) {a : Nat} {r : Addr} {xs : List V} (ha : H[a]? = some (.list xs) ∨ H[a]? = some (.frozen xs)) (hr : β[a]? = some r) :
    ∃ us, s.heap.IsList r us.toArray ∧ VRs β xs us ∧ xs.length ≤ lim := by
  rcases ha with ha | ha
  · obtain ⟨us, n, _, e, vr, hl⟩ := x.list ha hr
    exact ⟨us, ⟨_, e, rfl, n, rfl⟩, vr, hl⟩
  · obtain ⟨r', e', sl⟩ := x.at ha
    rw [hr] at e'; cases e'
    cases sl with
    | frozen a b c d l => exact ⟨_, ⟨_, x.kept _ _ a, b, _, c⟩, d, l⟩
    | own a b c => cases c

/-- a slice of a list: the slice object, then the list -/
theorem p_sliceL {a : Nat} {r : Addr} {xs : List V} {vl vu : Value} {lo hi : Option Int} (ha : H[a]? = some (.list xs) ∨ H[a]? = some (.frozen xs)) (hr : β[a]? = some r) (pl : IsPart vl lo) (pu : IsPart vu hi)
    (k : Cont h₀ β s (.ref H.length) (H ++ [.list (cut xs lo hi)]) Q) (sr : SR h₀ β H s.heap) :
    SubscriptOn (model prog w) A (.ref r) (.ref s.heap.objs.size) Q E { s with heap := s.heap.push { cls := .type "slice", data := .fields #[vl, vu, .none] } } := by
  obtain ⟨us, hl, vr, hle⟩ := sr.listOf ha hr
  have hlen := vr.length
  have hl' := hl.push { cls := .type "slice", data := .fields #[vl, vu, .none] }
  refine ⟨"list", "list.__getitem__", list_getitem_lookup, hl'.typeIs, ?_⟩
  refine wpAny_getItem_list_slice hl' (Heap.IsSliceOf.new _ _ _ _) pl pu .none (by simp) ?_ (by rw [List.size_toArray, ← hlen]; exact lim_line _ hle)
  rw [slicePick_cut]
  dsimp only
  refine Cont.newAt (t := s.toks) k sr (r := (s.heap.push _).objs.size) (get_none_of_le (by rw [Heap.size_push]; omega)) (fun b o e => Heap.get?_push_of_some _ (Heap.get?_push_of_some _ e)) (Heap.get?_push_size _ rfl)
    (.list (vr.cut lo hi) (by have := cut_length xs lo hi; omega))

theorem list_on {a : Nat} {r : Addr} {xs : List V} {i : Value} (sr : SR h₀ β H s.heap) (ha : seqOf H a = some xs) (hr : β[a]? = some r) (hg : wpAny (model prog w) A (getItem (.ref r) i) Q E s) : SubscriptOn (model prog w) A (.ref r) i Q E s := by
  obtain ⟨us, hq, _, _⟩ := sr.isSeq ha hr
  rcases hq with hq | hq
  · exact ⟨"list", "list.__getitem__", list_getitem_lookup, hq.typeIs, hg⟩
  · exact ⟨"tuple", "tuple.__getitem__", PyProof.Rows.slot_tuple_getitem.lookup, hq.typeIs, hg⟩

end
end Mine

namespace Mine
open PySem
open AutoSeq1 (wpAny_loadPart')
open MeetsSeq3 (plain_eq_loop entry_eq_loop)

section
variable {prog : Program} {w : World} {A : Around} {E : Value → Shared → Prop} {s : Shared} {h₀ : Heap} {β : List Addr} {H H' : Hp} {v : V} {Q : Value → Shared → Prop}

end
end Mine

namespace Mine
open PySem

section
variable {prog : Program} {w : World} {A : Around} {E : Value → Shared → Prop} {s : Shared} {env : PySem.Env} {h₀ : Heap} {β : List Addr} {H H' : Hp} {v : V} {Q : Value → Shared → Prop}

theorem rangeI_length (a b c : Int) : (rangeI a b c).length = (if a < b then (b - a - 1) / c + 1 else 0).toNat := by simp [rangeI]
theorem rangeSize_pos {a b c : Int} (hc : 0 < c) : Builtin.Range.rangeSize a b c = ((rangeI a b c).length : Int) := by
  rw [rangeI_length]
  unfold Builtin.Range.rangeSize
  rw [if_pos hc]
  split
  · have : 0 ≤ (b - a - 1) / c := Int.ediv_nonneg (by omega) (by omega)
    omega
  · rfl

theorem size_lim {a b c : Int} (ha : a.natAbs ≤ lim) (hb : b.natAbs ≤ lim) (hc0 : 0 < c) : Builtin.Range.rangeSize a b c ≤ 300000 ∧ 0 ≤ Builtin.Range.rangeSize a b c := by
  unfold lim at ha hb
  unfold Builtin.Range.rangeSize
  rw [if_pos hc0]
  split
  · have h1 : 0 ≤ (b - a - 1) / c := Int.ediv_nonneg (by omega) (by omega)
    have h2 : (b - a - 1) / c ≤ b - a - 1 := Int.ediv_le_self _ (by omega)
    omega
  · omega
theorem small_lim {a b c : Int} (ha : a.natAbs ≤ lim) (hb : b.natAbs ≤ lim) (hc : c.natAbs ≤ lim) (hc0 : 0 < c) : Builtin.Range.small a b c = true := by
  have h1 := size_lim ha hb hc0
  unfold lim at ha hb hc
  unfold Builtin.Range.small Builtin.Range.rangeFitsLong
  rw [if_pos hc0]
  simp only [Bool.and_eq_true, Bool.or_eq_true, decide_eq_true_eq]
  omega

/-- the heap has grown, and nothing else -/
theorem Cont.junk {u : Value} {t : Nat} {h' : Heap} (k : Cont h₀ β s v H Q) (sr : SR h₀ β H s.heap) (hk : ∀ b o, s.heap.get? b = some o → h'.get? b = some o) (vr : VR β v u) : Q u { s with heap := h', toks := t } :=
  k u _ β ⟨⟨_, _, rfl⟩, List.prefix_refl _, fun b o e _ => hk b o e, fun _ hb => .inl hb⟩ (sr.keeps hk) vr

theorem p_intB {b : Bool} (k : Cont h₀ β s (.int (if b then 1 else 0)) H Q) (sr : SR h₀ β H s.heap) : wpAny (model prog w) A (call (.type "int") [.bool b]) Q E s := by
  refine call_int_bool ?_
  cases b
  · exact k.same sr (.int _ _)
  · exact k.same sr (.int _ _)

theorem All2.rev {α γ : Type} {R : α → γ → Prop} {as : List α} {bs : List γ} (h : All2 R as bs) : All2 R as.reverse bs.reverse := by
  induction h with
  | nil => exact .nil
  | cons hr _ ih => rw [List.reverse_cons, List.reverse_cons]; exact ih.append (.cons hr .nil)

end
end Mine

namespace Mine
open PySem
set_option maxRecDepth 100000

theorem si_int : typeLookup (.type "str") "__int__" = pure none := by rw [typeLookup_type, builtinLookup_eq_fast]; kernel_rfl
theorem si_idx : typeLookup (.type "str") "__index__" = pure none := by rw [typeLookup_type, builtinLookup_eq_fast]; kernel_rfl
theorem si_trunc : typeLookup (.type "str") "__trunc__" = pure none := by rw [typeLookup_type, builtinLookup_eq_fast]; kernel_rfl

set_option maxHeartbeats 1000000 in
theorem gives_digit {x : Str} {u : Tok} {n : Int} (hl : x.length ≤ 10) (hn : PySem.intText? x = some n) : Gives (Builtin.«int.__new__» ⟨[.type "int", .str x u], []⟩) (.int n) := by
  have h640 : (numSeenOf x).length ≤ 640 := Nat.le_trans (seen_length x) (Nat.le_trans hl (by decide))
  rcases read0 x h640 with ⟨m, h1, h2, h3⟩ | ⟨h1, _⟩
  · rw [hn] at h1
    cases h1
    refine .of_wp fun M A E s Q h => ?_
    obtain ⟨hp, g, d, tk, os⟩ := s
    have f1 := F.conv_sub_int
    have f2 := F.madeHere_int
    have f3 := si_int
    have f4 := si_idx
    have f5 := si_trunc
    have f6 : typeOf (.str x u) = pure (.type "str") := rfl
    repeat (any_goals (first | assumption | wp_step))
    rw [if_pos h640]
    refine wpAny_bind (wpAny_pure ?_)
    dsimp only
    rw [h3]
    dsimp only
    rw [if_pos h2]
    repeat (any_goals (first | assumption | wp_step))
    all_goals exact ⟨_, rfl, h⟩
  · rw [hn] at h1; cases h1

theorem digit_text : ∀ d : Fin 10, PySem.intText? ⟨#[48 + d.val]⟩ = some (d.val : Int) := by decide +kernel

section
variable {prog : Program} {w : World} {A : Around} {E : Value → Shared → Prop} {s : Shared} {h₀ : Heap} {β : List Addr} {H H' : Hp} {v : V} {Q : Value → Shared → Prop}

theorem p_intS {x : Str} {t : Tok} {c : Nat} (hx : x.cps.toList = [c]) (h1 : 48 ≤ c) (h2 : c < 58) (k : Cont h₀ β s (.int ((c - 48 : Nat) : Int)) H Q) (sr : SR h₀ β H s.heap) : wpAny (model prog w) A (call (.type "int") [.str x t]) Q E s := by
  have e : x = ⟨#[48 + (c - 48)]⟩ := by
    obtain ⟨a⟩ := x
    have : a = #[c] := by rw [← Array.toList_inj]; exact hx
    rw [this, show 48 + (c - 48) = c by omega]
  subst e
  have := digit_text ⟨c - 48, by omega⟩
  exact call_int_1 (gives_digit (x := ⟨#[48 + (c - 48)]⟩) (show 1 ≤ 10 by decide) this).meets (show (Made.int _).post _ s from ⟨rfl, k.same sr (.int _ _)⟩)

theorem p_str {i : Int} {t : Tok} (hi : i.natAbs < 1000) (k : Cont h₀ β s (.str (Str.ofString (toString i))) H Q) (sr : SR h₀ β H s.heap) : wpAny (model prog w) A (call (.type "str") [.int i t]) Q E s := by
  refine P.str_of_int ?_ (k.same sr (.str _ _))
  by_cases h0 : i.natAbs = 0
  · rw [h0]; decide
  · exact Nat.lt_of_le_of_lt (Nat.log2_le_self _) (by omega)

theorem p_inS {x y : Str} {t u : Tok} (k : Cont h₀ β s (.bool (Txt.contains x y)) H Q) (sr : SR h₀ β H s.heap) : wpAny (model prog w) A (compareOp .In (.str y u) (.str x t)) Q E s := P.in_str (k.here sr (.bool _))
theorem p_notInS {x y : Str} {t u : Tok} (k : Cont h₀ β s (.bool (!Txt.contains x y)) H Q) (sr : SR h₀ β H s.heap) : wpAny (model prog w) A (compareOp .NotIn (.str y u) (.str x t)) Q E s := P.notIn_str (k.here sr (.bool _))

theorem p_starts {x y : Str} {t u : Tok} (k : Cont h₀ β s (.bool (Txt.startswith x y)) H Q) (sr : SR h₀ β H s.heap) : wpAny (model prog w) A (call (.builtin "str.startswith") [.str x t, .str y u]) Q E s := SC.startswith (k.here sr (.bool _))

theorem strs_of : ∀ {xs : List V} {us : List Value} {ws : List Str}, VRs β xs us → xs.mapM asStr = some ws → ∃ l : List (Str × Tok), us = strValues l ∧ l.map (·.1) = ws := by
  intro xs us ws hv
  induction hv generalizing ws with
  | nil => intro h; rw [mapM_nil_some h]; exact ⟨[], rfl, rfl⟩
  | cons h _ ih =>
    intro hm
    obtain ⟨y, r, h1, h2, rfl⟩ := mapM_cons_some hm
    obtain ⟨l, rfl, e⟩ := ih h2
    cases h <;> simp only [asStr] at h1 <;> cases h1
    exact ⟨(_, _) :: l, rfl, by rw [List.map_cons, e]⟩

theorem p_join {a : Nat} {r : Addr} {xs : List V} {x : Str} {t : Tok} {ws : List Str} (ha : H[a]? = some (.list xs)) (hr : β[a]? = some r) (hw : xs.mapM asStr = some ws) (hl : (ws.map (·.length)).sum + ws.length * x.length ≤ lim)
    (k : Cont h₀ β s (.str (Txt.join x ws)) H Q) (sr : SR h₀ β H s.heap) : wpAny (model prog w) A (call (.builtin "str.join") [.str x t, .ref r]) Q E s := by
  obtain ⟨us, n, _, e, vr, _⟩ := sr.list ha hr
  obtain ⟨l, rfl, rfl⟩ := strs_of vr hw
  refine SC.join ⟨_, e, rfl, n, rfl⟩ rfl ?_ fun t' k' => k.same sr (.str _ _)
  unfold JoinOk
  rw [StrLaws.joinTotal]
  have := lim_line _ hl
  simp only [Builtin.Str.tooLong, Bool.not_eq_true', decide_eq_false_iff_not]
  omega

theorem strs_vr : ∀ l : List (Str × Tok), VRs β ((l.map (·.1)).map V.str) (strValues l)
  | [] => .nil
  | (x, t) :: l => .cons (.str x t) (strs_vr l)

theorem p_split {x y : Str} {t u : Tok} (hy : y.length = 1) (hx : x.length + 2 ≤ lim) (k : Cont h₀ β s (.ref H.length) (H ++ [.list ((Txt.split x y).map .str)]) Q) (sr : SR h₀ β H s.heap) : wpAny (model prog w) A (call (.builtin "str.split") [.str x t, .str y u]) Q E s := by
  have hy0 : (y.length == 0) = false := by rw [hy]; rfl
  have hsz : x.length ≤ sizeLine := lim_line _ (by omega)
  have hle := PyProof.Rows.split_le x y
  have fin : ∀ (l : List (Str × Tok)) (tk : Nat), l.map (·.1) = Txt.split x y → Q (.ref s.heap.objs.size) { s with heap := s.heap.push { cls := .type "list", data := .seq (strValues l).toArray }, toks := tk } := fun l tk e => by
    refine Cont.new (t := tk) k sr (.list ?_ ?_) rfl
    · rw [← e]; exact strs_vr l
    · rw [List.length_map]
      exact Nat.le_trans hle hx
  cases h1 : (decide (x.length < y.length) || decide (Builtin.Str.strKind x < Builtin.Str.strKind y))
  · cases hf : (Builtin.Str.occurrences x y 0 x.length (x.length + 1)).isEmpty
    · have e : Txt.split x y = Builtin.Str.partsBetween x (Builtin.Str.occurrences x y 0 x.length (x.length + 1)) y.length := by
        unfold Txt.split; rw [h1, hf]; simp
      rw [e] at hle
      refine call_meets F.slot_str_split (typeIs_str _ _ _) F.entry_str_split (F.args_str_split_2 _ _) (meets_str_split_sep x y t u h1 hy0 hf hsz (Nat.le_trans hle (lim_line _ hx))) ?_
      show wants Q E _ { s with toks := _, heap := s.heap.push { cls := .type "list", data := .seq (strsFrom s.toks (Builtin.Str.partsBetween x (Builtin.Str.occurrences x y 0 x.length (x.length + 1)) y.length)).toArray } }
      rw [strsFrom_eq]
      exact fin _ _ ((numbered_texts _ _).trans e.symm)
    · have e : Txt.split x y = [x] := by unfold Txt.split; rw [h1, hf]; simp
      exact call_meets F.slot_str_split (typeIs_str _ _ _) F.entry_str_split (F.args_str_split_2 _ _) (meets_str_split_not_found x y t u h1 hy0 hf) (fin [(x, t)] s.toks e.symm)
  · have e : Txt.split x y = [x] := by unfold Txt.split; rw [h1]; simp
    exact call_meets F.slot_str_split (typeIs_str _ _ _) F.entry_str_split (F.args_str_split_2 _ _) (meets_str_split_cannot_occur x y t u h1) (fin [(x, t)] s.toks e.symm)

theorem p_sliceS {x : Str} {t : Tok} {vl vu : Value} {lo hi : Option Int} (hl : x.length ≤ lim) (pl : IsPart vl lo) (pu : IsPart vu hi) (k : Cont h₀ β s (.str (Txt.slice x lo hi)) H Q) (sr : SR h₀ β H s.heap) :
    SubscriptOn (model prog w) A (.str x t) (.ref s.heap.objs.size) Q E { s with heap := s.heap.push { cls := .type "slice", data := .fields #[vl, vu, .none] } } := by
  have hsz : x.length ≤ sizeLine := lim_line _ hl
  have keep : ∀ b o, s.heap.get? b = some o → (s.heap.push { cls := .type "slice", data := .fields #[vl, vu, .none] }).get? b = some o := fun b o e => Heap.get?_push_of_some _ e
  have fin : ∀ t' tk, Q (.str (Txt.slice x lo hi) t') { s with heap := s.heap.push { cls := .type "slice", data := .fields #[vl, vu, .none] }, toks := tk } := fun t' tk => k.junk sr keep (.str _ _)
  refine ⟨"str", _, F.slot_str_getitem.lookup, typeIs_str _ _ _, ?_⟩
  cases pl with
  | none =>
    cases pu with
    | none => exact wpAny_getItem_str_slice (l := none) (u := none) (st := none) ⟨_, Heap.get?_push_size _ rfl, rfl, rfl⟩ rfl (post_val_or_str ⟨Nat.le_trans (Txt.slice_le x _ _) hsz, fun t' k => fin t' k⟩)
    | int j uj => exact wpAny_getItem_str_slice (l := none) (u := some (j, uj)) (st := none) ⟨_, Heap.get?_push_size _ rfl, rfl, rfl⟩ rfl (post_val_or_str ⟨Nat.le_trans (Txt.slice_le x _ _) hsz, fun t' k => fin t' k⟩)
  | int i ui =>
    cases pu with
    | none => exact wpAny_getItem_str_slice (l := some (i, ui)) (u := none) (st := none) ⟨_, Heap.get?_push_size _ rfl, rfl, rfl⟩ rfl (post_val_or_str ⟨Nat.le_trans (Txt.slice_le x _ _) hsz, fun t' k => fin t' k⟩)
    | int j uj => exact wpAny_getItem_str_slice (l := some (i, ui)) (u := some (j, uj)) (st := none) ⟨_, Heap.get?_push_size _ rfl, rfl, rfl⟩ rfl (post_val_or_str ⟨Nat.le_trans (Txt.slice_le x _ _) hsz, fun t' k => fin t' k⟩)
end
end Mine

namespace Mine
open PySem

section
variable {prog : Program} {w : World} {A : Around} {E : Value → Shared → Prop} {s : Shared} {env : PySem.Env} {Q : Value → Shared → Prop} {P : Prog} {fs : List String} {mg mb : Str → Option Value} {sc : Scope} {h₀ : Heap} {β : List Addr} {H : Hp} {n : Nat}

theorem vrs1 {vs : List V} {u : Value} (h : VRs β vs [u]) : ∃ v, vs = [v] ∧ VR β v u := by
  cases h with | cons a b => cases b; exact ⟨_, rfl, a⟩
theorem vrs2 {vs : List V} {u u' : Value} (h : VRs β vs [u, u']) : ∃ v v', vs = [v, v'] ∧ VR β v u ∧ VR β v' u' := by
  cases h with | cons a b => cases b with | cons b c => cases c; exact ⟨_, _, rfl, a, b⟩
theorem vrs3 {vs : List V} {u u' u'' : Value} (h : VRs β vs [u, u', u'']) : ∃ v v' v'', vs = [v, v', v''] ∧ VR β v u ∧ VR β v' u' ∧ VR β v'' u'' := by
  cases h with | cons a b => cases b with | cons b c => cases c with | cons c d => cases d; exact ⟨_, _, _, rfl, a, b, c⟩

theorem add_sound {a b : V} {ua ub : Value} {v : V} {H' : Hp} (h : addV a b H = some (v, H')) (ha : VR β a ua) (hb : VR β b ub) (k : Cont h₀ β s v H' Q) (sr : SR h₀ β H s.heap) :
    wpAny (model prog w) A (binaryOp .Add ua ub) Q E s := by
  cases ha with
  | int i t =>
    cases hb with
    | int j u => simp only [addV] at h; cases h; exact p_addI k sr
    | _ => simp [addV] at h
  | str x t =>
    cases hb with
    | str y u =>
      simp only [addV] at h
      split at h
      · rename_i hl; cases h; exact p_addS hl k sr
      · cases h
    | _ => simp [addV] at h
  | ref ea =>
    cases hb with
    | ref eb =>
      simp only [addV] at h
      split at h
      · rename_i xs ys e1 e2
        split at h
        · rename_i hl
          simp only [putNew] at h; cases h
          exact p_addL e1 e2 ea eb hl k sr
        · cases h
      · cases h
    | _ => simp [addV] at h
  | _ => simp [addV] at h

theorem mul_sound {a b : V} {ua ub : Value} {v : V} {H' : Hp} (h : mulV a b H = some (v, H')) (ha : VR β a ua) (hb : VR β b ub) (k : Cont h₀ β s v H' Q) (sr : SR h₀ β H s.heap) :
    wpAny (model prog w) A (binaryOp .Mult ua ub) Q E s := by
  cases ha with
  | int i t =>
    cases hb with
    | int j u =>
      simp only [mulV] at h
      split at h
      · rename_i hl; cases h
        simp only [Bool.and_eq_true, decide_eq_true_eq] at hl
        exact p_mulI hl.1 k sr
      · cases h
    | _ => simp [mulV] at h
  | ref ea =>
    cases hb with
    | int j u =>
      simp only [mulV] at h
      split at h
      · rename_i e1
        split at h
        · rename_i hl
          simp only [putNew] at h; cases h
          exact p_mulL e1 ea hl k sr
        · cases h
      · cases h
    | _ => simp [mulV] at h
  | _ => simp [mulV] at h

theorem bin_sound {o : Bin} {a b : V} {ua ub : Value} {v : V} {H' : Hp} (h : binV o a b H = some (v, H')) (ha : VR β a ua) (hb : VR β b ub) (k : Cont h₀ β s v H' Q) (sr : SR h₀ β H s.heap) :
    wpAny (model prog w) A (binaryOp (binOf o) ua ub) Q E s := by
  cases o with
  | add => exact add_sound h ha hb k sr
  | mul => exact mul_sound h ha hb k sr
  | sub =>
    cases ha with
    | int i t =>
      cases hb with
      | int j u => simp only [binV] at h; cases h; exact p_sub k sr
      | _ => simp [binV] at h
    | _ => simp [binV] at h
  | mod =>
    cases ha with
    | int i t =>
      cases hb with
      | int j u =>
        simp only [binV] at h
        split at h
        · cases h
        · rename_i hj; cases h; exact p_mod hj k sr
      | _ => simp [binV] at h
    | _ => simp [binV] at h
  | fdiv =>
    cases ha with
    | int i t =>
      cases hb with
      | int j u =>
        simp only [binV] at h
        split at h
        · cases h
        · rename_i hj; cases h; exact p_fdiv (by omega) (by omega) k sr
      | _ => simp [binV] at h
    | _ => simp [binV] at h

theorem mem_sound {x c : V} {ux uc : Value} {b : Bool} (h : mem H x c = some b) (hx : VR β x ux) (hc : VR β c uc) (hu : A.units + 100 < cLine) (sr : SR h₀ β H s.heap) :
    (∀ k : Cont h₀ β s (.bool b) H Q, wpAny (model prog w) A (compareOp .In ux uc) Q E s) ∧ (∀ k : Cont h₀ β s (.bool (!b)) H Q, wpAny (model prog w) A (compareOp .NotIn ux uc) Q E s) := by
  cases hc with
  | str y t =>
    cases hx with
    | str x u => simp only [mem] at h; cases h; exact ⟨fun k => p_inS k sr, fun k => p_notInS k sr⟩
    | _ => simp [mem] at h
  | @ref a r hr =>
    simp only [mem] at h
    have key : ∀ xs, seqOf H a = some xs → inD H x xs = some b → (∀ k : Cont h₀ β s (.bool b) H Q, wpAny (model prog w) A (compareOp .In ux (.ref r)) Q E s) ∧ (∀ k : Cont h₀ β s (.bool (!b)) H Q, wpAny (model prog w) A (compareOp .NotIn ux (.ref r)) Q E s) :=
      fun xs e h => ⟨fun k => p_in hx e hr h hu k sr, fun k => p_notIn hx e hr h hu k sr⟩
    split at h
    · rename_i xs e; exact key xs (by simp [seqOf, e]) h
    · rename_i xs e; exact key xs (by simp [seqOf, e]) h
    · rename_i xs e; exact key xs (by simp [seqOf, e]) h
    · rename_i es e
      obtain ⟨r', e', sl⟩ := sr.at e
      rw [hr] at e'; cases e'
      cases sl with | own a b c => cases c
    · cases h
  | _ => simp [mem] at h

theorem cmp_sound {o : Cmp} {a b : V} {ua ub : Value} {r : Bool} (h : cmpV o a b H = some r) (ha : VR β a ua) (hb : VR β b ub) (hu : A.units + 100 < cLine) (k : Cont h₀ β s (.bool r) H Q) (sr : SR h₀ β H s.heap) :
    wpAny (model prog w) A (compareOp (cmpOf o) ua ub) Q E s := by
  cases o with
  | eq => exact p_eq ha hb h hu k sr
  | ne =>
    simp only [cmpV] at h
    obtain ⟨r', e, rfl⟩ := Option.map_eq_some_iff.mp h
    exact p_ne ha hb e hu k sr
  | lt =>
    cases ha with
    | int i t =>
      cases hb with
      | int j u => simp only [cmpV, lessV] at h; cases h; exact p_lt k sr
      | _ => simp [cmpV, lessV] at h
    | _ => simp [cmpV, lessV] at h
  | le =>
    cases ha with
    | int i t =>
      cases hb with
      | int j u => simp only [cmpV] at h; cases h; exact p_le k sr
      | _ => simp [cmpV] at h
    | _ => simp [cmpV] at h
  | gt =>
    cases ha with
    | int i t =>
      cases hb with
      | int j u => simp only [cmpV] at h; cases h; exact p_gt k sr
      | _ => simp [cmpV] at h
    | _ => simp [cmpV] at h
  | ge =>
    cases ha with
    | int i t =>
      cases hb with
      | int j u => simp only [cmpV] at h; cases h; exact p_ge k sr
      | _ => simp [cmpV] at h
    | _ => simp [cmpV] at h
  | is_ =>
    simp only [cmpV, Mine.isSame] at h
    cases hb with
    | none => cases h; exact p_isNone ha k sr
    | bool c =>
      cases c with
      | true => cases h; exact p_isTrue ha k sr
      | false => simp at h
    | _ => simp at h
  | isNot =>
    simp only [cmpV, Mine.isSame] at h
    cases hb with
    | none => cases h; exact p_isNotNone ha k sr
    | bool c =>
      cases c with
      | true => cases h; exact p_isNotTrue ha k sr
      | false => simp at h
    | _ => simp at h
  | in_ => exact (mem_sound h ha hb hu sr).1 k
  | notIn =>
    simp only [cmpV] at h
    obtain ⟨r', e, rfl⟩ := Option.map_eq_some_iff.mp h
    exact (mem_sound e ha hb hu sr).2 k

/-- the state behind the operands -/
noncomputable def Ready (h₀ : Heap) (p : Prim) (Q : Value → Shared → Prop) (us : List Value) (s1 : Shared) : Prop :=
  ∃ β1 vs H1 v H2, prim p vs H1 = some (v, H2) ∧ VRs β1 vs us ∧ SR h₀ β1 H1 s1.heap ∧ Cont h₀ β1 s1 v H2 Q

theorem Amb.room (a : Amb n A) : A.units + 100 < cLine := by have := a.units; unfold cLine; omega

theorem slice_sound {β1 : List Addr} {H1 H2 : Hp} {s : Shared} {v1 v : V} {ua vl vu : Value} {lo hi : Option Int} (hpr : sliceV v1 lo hi H1 = some (v, H2)) (va : VR β1 v1 ua) (pl : IsPart vl lo) (pu : IsPart vu hi) (k : Cont h₀ β1 s v H2 Q) (sr : SR h₀ β1 H1 s.heap) :
    SubscriptOn (model prog w) A ua (.ref s.heap.objs.size) Q E { s with heap := s.heap.push { cls := .type "slice", data := .fields #[vl, vu, .none] } } := by
  cases va with
  | ref ea =>
    simp only [sliceV] at hpr
    split at hpr
    · rename_i ys e; cases hpr; exact p_sliceL (.inl e) ea pl pu k sr
    · rename_i ys e; cases hpr; exact p_sliceL (.inr e) ea pl pu k sr
    · cases hpr
  | str x t =>
    simp only [sliceV] at hpr
    split at hpr
    · rename_i hl; cases hpr; exact p_sliceS hl pl pu k sr
    · cases hpr
  | _ => cases hpr

theorem op_sound {p : Prim} {x : Expr} {xs : List Expr} (ho : OpA sc p x xs) (hp : xs.all plainE = true) (f₀ : Frm P fs mg mb sc env h₀) (hk₀ : ∀ b o, h₀.get? b = some o → s.heap.get? b = some o) (am : Amb n A)
    (h : wpList prog w A env xs (Ready h₀ p Q) E s) : wpAny (model prog w) A (eval x env) Q E s := by
  have f := f₀.keeps hk₀
  cases ho with
  | bin o =>
    refine wpAny_BinOp (wpAny_mono h (fun a s1 h1 => wpAny_mono h1 (fun b s2 h2 => ?_) fun _ _ e => e) fun _ _ e => e)
    obtain ⟨β1, vs, H1, v, H2, hpr, vr, sr, k⟩ := h2
    obtain ⟨v1, v2, rfl, va, vb⟩ := vrs2 vr
    exact bin_sound hpr va vb k sr
  | neg =>
    refine wpAny_UnaryOp (wpAny_mono h (fun a s1 h1 => ?_) fun _ _ e => e)
    obtain ⟨β1, vs, H1, v, H2, hpr, vr, sr, k⟩ := h1
    obtain ⟨v1, rfl, va⟩ := vrs1 vr
    cases va with
    | int i t => cases hpr; exact p_neg k sr
    | _ => cases hpr
  | cmp o hm =>
    refine wpAny_Compare1 (wpAny_mono h (fun a s1 h1 => wpAny_mono h1 (fun b s2 h2 => ?_) fun _ _ e => e) fun _ _ e => e) hm
    obtain ⟨β1, vs, H1, v, H2, hpr, vr, sr, k⟩ := h2
    obtain ⟨v1, v2, rfl, va, vb⟩ := vrs2 vr
    obtain ⟨r, hr, e⟩ := Option.map_eq_some_iff.mp hpr
    cases e
    exact cmp_sound hr va vb am.room k sr
  | len hg =>
    refine f.callB hg rfl hp (wpList_mono h fun us s1 h1 => ?_)
    obtain ⟨β1, vs, H1, v, H2, hpr, vr, sr, k⟩ := h1
    cases vr with
    | nil => cases hpr
    | cons va vr =>
      cases vr with
      | cons _ _ => cases hpr
      | nil =>
        obtain ⟨m, hm, e⟩ := Option.map_eq_some_iff.mp hpr
        cases e
        cases va with
        | str x t =>
          simp only [lenV] at hm
          split at hm
          · rename_i hl; cases hm; exact p_lenS hl k sr
          · cases hm
        | ref e =>
          obtain ⟨ys, hy, rfl⟩ := Option.map_eq_some_iff.mp hm
          exact p_lenL hy e k sr
        | _ => cases hm
  | isinst t hg hT ht =>
    rename_i x _ _ _
    have hpx : plainE x = true := by simpa using hp
    refine f.callB hg rfl (by simp [hpx]; rfl) ?_
    refine wpAny_mono h (fun u s1 h1 => ?_) fun _ _ e => e
    obtain ⟨β1, vs, H1, v, H2, hpr, vr, sr, k⟩ := h1
    have f1 : Frm P fs mg mb sc env s1.heap := f₀.keeps sr.kept
    have hb : bltn t = some (.type t) := by
      simp only [plainTypes, List.mem_cons, List.not_mem_nil, or_false] at ht
      rcases ht with rfl | rfl | rfl | rfl | rfl <;> rfl
    refine f1.builtin hT hb ?_
    obtain ⟨v1, rfl, va⟩ := vrs1 vr
    cases hpr
    exact p_isinst va ht k sr
  | list hg =>
    refine f.callT hg rfl hp (wpList_mono h fun us s1 h1 => ?_)
    obtain ⟨β1, vs, H1, v, H2, hpr, vr, sr, k⟩ := h1
    cases vr with
    | nil => cases hpr
    | cons va vr =>
      cases vr with
      | cons _ _ => cases va <;> cases hpr
      | nil =>
        cases va with
        | ref e =>
          obtain ⟨ys, hy, hz⟩ := Option.bind_eq_some_iff.mp hpr
          cases hz
          exact p_list hy e k sr
        | _ => cases hpr
  | item hs =>
    refine sub_any hs (wpAny_mono h (fun a s1 h1 => wpAny_mono h1 (fun b s2 h2 => ?_) fun _ _ e => e) fun _ _ e => e)
    obtain ⟨β1, vs, H1, v, H2, hpr, vr, sr, k⟩ := h2
    obtain ⟨v1, v2, rfl, va, vb⟩ := vrs2 vr
    obtain ⟨y, hy, e⟩ := Option.map_eq_some_iff.mp hpr
    cases e
    cases vb with
    | int i t =>
      cases va with
      | ref ea =>
        obtain ⟨ys, h1, h2⟩ := Option.bind_eq_some_iff.mp hy
        obtain ⟨kk, h3, h4⟩ := Option.bind_eq_some_iff.mp h2
        exact list_on sr h1 ea (p_itemL h1 ea h3 h4 k sr)
      | _ => cases hy
    | _ => cases hy
  | int hg =>
    refine f.callT hg rfl hp (wpList_mono h fun us s1 h1 => ?_)
    obtain ⟨β1, vs, H1, v, H2, hpr, vr, sr, k⟩ := h1
    cases vr with
    | nil => cases hpr
    | cons va vr =>
      cases vr with
      | cons _ _ => cases hpr
      | nil =>
        cases va with
        | bool c => cases hpr; exact p_intB k sr
        | str x t =>
          simp only [prim, intV] at hpr
          obtain ⟨y, hy, e⟩ := Option.map_eq_some_iff.mp hpr
          cases e
          split at hy
          · rename_i c hc
            split at hy
            · rename_i hd; cases hy; exact p_intS hc hd.1 hd.2 k sr
            · cases hy
          · cases hy
        | _ => cases hpr
  | str hg =>
    refine f.callT hg rfl hp (wpList_mono h fun us s1 h1 => ?_)
    obtain ⟨β1, vs, H1, v, H2, hpr, vr, sr, k⟩ := h1
    cases vr with
    | nil => cases hpr
    | cons va vr =>
      cases vr with
      | cons _ _ => cases hpr
      | nil =>
        cases va with
        | int i t =>
          simp only [prim, strV] at hpr
          obtain ⟨y, hy, e⟩ := Option.map_eq_some_iff.mp hpr
          cases e
          split at hy
          · rename_i hl; cases hy; exact p_str hl k sr
          · cases hy
        | _ => cases hpr
  | sliceTo =>
    refine sub_slice (wpAny_mono h (fun a s1 h1 => wpAny_Slice (wpAny_pure (wpAny_mono h1 (fun b s2 h2 => wpAny_pure ?_) fun _ _ e => e))) fun _ _ e => e)
    obtain ⟨β1, vs, H1, v, H2, hpr, vr, sr, k⟩ := h2
    obtain ⟨v1, v2, rfl, va, vb⟩ := vrs2 vr
    cases vb with
    | int j tk => exact slice_sound hpr va .none (.int _ _) k sr
    | _ => cases hpr
  | sliceFrom =>
    refine sub_slice (wpAny_mono h (fun a s1 h1 => wpAny_Slice (wpAny_mono h1 (fun b s2 h2 => wpAny_pure (wpAny_pure ?_)) fun _ _ e => e)) fun _ _ e => e)
    obtain ⟨β1, vs, H1, v, H2, hpr, vr, sr, k⟩ := h2
    obtain ⟨v1, v2, rfl, va, vb⟩ := vrs2 vr
    cases vb with
    | int j tk => exact slice_sound hpr va (.int _ _) .none k sr
    | _ => cases hpr
  | sliceBoth =>
    refine sub_slice (wpAny_mono h (fun a s1 h1 => wpAny_Slice (wpAny_mono h1 (fun b s2 h2 => wpAny_mono h2 (fun c s3 h3 => wpAny_pure ?_) fun _ _ e => e) fun _ _ e => e)) fun _ _ e => e)
    obtain ⟨β1, vs, H1, v, H2, hpr, vr, sr, k⟩ := h3
    obtain ⟨v1, v2, v3, rfl, va, vb, vc⟩ := vrs3 vr
    cases vb with
    | int j tk =>
      cases vc with
      | int j' tk' => exact slice_sound hpr va (.int _ _) (.int _ _) k sr
      | _ => cases hpr
    | _ => cases hpr
  | mkList =>
    refine wpAny_List (wpList_spliced hp (wpList_mono h fun us s1 h1 => ?_))
    obtain ⟨β1, vs, H1, v, H2, hpr, vr, sr, k⟩ := h1
    simp only [prim] at hpr
    split at hpr
    · rename_i hl
      cases hpr
      exact ⟨by rw [← vr.length]; exact lim_line _ hl, p_mkList vr hl k sr⟩
    · cases hpr
  | mkTuple =>
    refine wpAny_Tuple (wpList_spliced hp (wpList_mono h fun us s1 h1 => ?_))
    obtain ⟨β1, vs, H1, v, H2, hpr, vr, sr, k⟩ := h1
    simp only [prim] at hpr
    split at hpr
    · rename_i hl
      cases hpr
      exact ⟨by rw [← vr.length]; exact lim_line _ hl, p_mkTuple vr hl k sr⟩
    · cases hpr

end
end Mine

namespace Mine
open PySem

noncomputable def PE (h₀ : Heap) (β : List Addr) (s : Shared) (Q : Post) (u : Value) (s' : Shared) : Prop := ∃ β' v H', Q v H' ∧ Step β s β' s' ∧ SR h₀ β' H' s'.heap ∧ VR β' v u
noncomputable def PEs (h₀ : Heap) (β : List Addr) (s : Shared) (Q : List V → Hp → Prop) (us : List Value) (s' : Shared) : Prop := ∃ β' vs H', Q vs H' ∧ Step β s β' s' ∧ SR h₀ β' H' s'.heap ∧ VRs β' vs us
noncomputable def PB (h₀ : Heap) (β : List Addr) (s : Shared) (k : Bool → Hp → Prop) (b : Bool) (s' : Shared) : Prop := ∃ β' H', k b H' ∧ Step β s β' s' ∧ SR h₀ β' H' s'.heap

theorem PE.after {h₀ : Heap} {β β' : List Addr} {s s' s'' : Shared} {Q : Post} {u : Value} (t : Step β s β' s') (h : PE h₀ β' s' Q u s'') : PE h₀ β s Q u s'' :=
  let ⟨b, v, H, a, c, d, e⟩ := h; ⟨b, v, H, a, t.trans c, d, e⟩
theorem PB.after {h₀ : Heap} {β β' : List Addr} {s s' s'' : Shared} {k : Bool → Hp → Prop} {u : Bool} (t : Step β s β' s') (h : PB h₀ β' s' k u s'') : PB h₀ β s k u s'' :=
  let ⟨b, H, a, c, d⟩ := h; ⟨b, H, a, t.trans c, d⟩
theorem PEs.after {h₀ : Heap} {β β' : List Addr} {s s' s'' : Shared} {Q : List V → Hp → Prop} {u : List Value} (t : Step β s β' s') (h : PEs h₀ β' s' Q u s'') : PEs h₀ β s Q u s'' :=
  let ⟨b, v, H, a, c, d, e⟩ := h; ⟨b, v, H, a, t.trans c, d, e⟩

/-- the calls of the text's own defs -/
noncomputable def CallOK (prog : Program) (w : World) (h₀ : Heap) (fs : List String) (mg : Str → Option Value) (n : Nat) (call : String → List V → Hp → Post → XP → Prop) : Prop :=
  ∀ f ∈ fs, ∀ r, mg (Str.ofString f) = some (.ref r) → ∀ vs H Q X, call f vs H Q X → ∀ A β s E us, Amb n A → SR h₀ β H s.heap → VRs β vs us →
    wpAny (model prog w) A (PySem.call (.ref r) us) (PE h₀ β s Q) E s

section
variable {prog : Program} {w : World} {h₀ : Heap} {P : Prog} {fs : List String} {mg mb : Str → Option Value} {n : Nat} {C : Ctx}

/-- everything about one evaluation's start -/
structure At (P : Prog) (fs : List String) (mg mb : Str → Option Value) (h₀ : Heap) (n : Nat) (sc : Scope) (env : PySem.Env) (ρ : Env) (β : List Addr) (H : Hp) (s : Shared) (A : Around) : Prop where
  names : Names P fs mg mb h₀
  amb : Amb n A
  sr : SR h₀ β H s.heap
  er : ER env ρ β s.heap
  sc : ScR sc env

theorem At.frm {sc env ρ β H s A} (x : At P fs mg mb h₀ n sc env ρ β H s A) : Frm P fs mg mb sc env h₀ := ⟨x.names, x.er.kind, x.er.glob, x.er.bltn, x.sc⟩
theorem At.step {sc env ρ β H s A β' H' s'} (x : At P fs mg mb h₀ n sc env ρ β H s A) (t : Step β s β' s') (sr : SR h₀ β' H' s'.heap) : At P fs mg mb h₀ n sc env ρ β' H' s' A :=
  ⟨x.names, x.amb, sr, x.er.step t, x.sc⟩

noncomputable def SoundE (prog : Program) (w : World) (h₀ : Heap) (P : Prog) (fs : List String) (mg mb : Str → Option Value) (n : Nat) (C : Ctx) (e : E) (x : Expr) (sc : Scope) : Prop :=
  ∀ env ρ β H s A Q X E', At P fs mg mb h₀ n sc env ρ β H s A → wE C e ρ H Q X → wpAny (model prog w) A (eval x env) (PE h₀ β s Q) E' s
noncomputable def SoundT (prog : Program) (w : World) (h₀ : Heap) (P : Prog) (fs : List String) (mg mb : Str → Option Value) (n : Nat) (C : Ctx) (e : E) (x : Expr) (sc : Scope) : Prop :=
  ∀ env ρ β H s A k X E', At P fs mg mb h₀ n sc env ρ β H s A → wE C e ρ H (fun v H1 => wB v fun b => k b H1) X → wpAny (model prog w) A (isTrue x env (eval x env)) (PB h₀ β s k) E' s

theorem truthy_of {A : Around} {β β' : List Addr} {s s' : Shared} {v : V} {H : Hp} {u : Value} {k : Bool → Hp → Prop} {E : Value → Shared → Prop} (h : wB v fun b => k b H) (t : Step β s β' s') (sr : SR h₀ β' H s'.heap) (vr : VR β' v u) :
    wpAny (model prog w) A (truthy u) (PB h₀ β s k) E s' := by
  cases vr with
  | bool b => exact wpAny_truthy_bool ⟨β', H, h, t, sr⟩
  | _ => exact h.elim

theorem SoundE.toT {e : E} {x : Expr} {sc : Scope} (h : SoundE prog w h₀ P fs mg mb n C e x sc) (hx : ∀ env, isTrue x env (eval x env) = (do let v ← eval x env; standAt x.pos; holding [v] (truthy v))) :
    SoundT prog w h₀ P fs mg mb n C e x sc := fun env ρ β H s A k X E' a hw =>
  wpAny_isTrue_value (wpAny_mono (h env ρ β H s A _ X E' a hw) (fun u s' h' => by obtain ⟨β', v, H', hb, t, sr, vr⟩ := h'; exact truthy_of hb t sr vr) fun _ _ e => e) (hx env)

theorem ME.plain {sc : Scope} {e : E} {x : Expr} (h : ME fs sc e x) : plainE x = true := by
  cases h with
  | op ho _ => cases ho <;> rfl
  | _ => rfl
theorem MEs.plain {sc : Scope} {es : List E} {xs : List Expr} (h : MEs fs sc es xs) : xs.all plainE = true := by
  induction xs generalizing es with
  | nil => rfl
  | cons x xs ih =>
    cases h with
    | cons h1 h2 => rw [List.all_cons, h1.plain, ih h2]; rfl

theorem isVar_kind {sc : Scope} {env : PySem.Env} {id : Str} (h : isVar sc id = true) (hs : ScR sc env) :
    (env.kindOf id = some .local ∨ env.kindOf id = some .cell ∨ env.kindOf id = some .free) ∧ id ≠ (".0" : Str) ∧ (id == ("__debug__" : Str)) = false ∧ (id == ("__classdict__" : Str)) = false := by
  unfold isVar at h
  have := hs id
  have key : kcls (sc.names.lookup id) = 1 ∨ kcls (sc.names.lookup id) = 2 → (env.kindOf id = some .local ∨ env.kindOf id = some .cell ∨ env.kindOf id = some .free) := by
    intro q
    rw [← this] at q
    cases hk : env.kindOf id with
    | none => rw [hk] at q; simp [kcls] at q
    | some k => rw [hk] at q; cases k <;> simp [kcls] at q ⊢
  split at h
  · rename_i e; simp only [Bool.and_eq_true, bne_iff_ne] at h; exact ⟨key (by rw [e]; simp [kcls]), h.1.1, by simpa using h.1.2, by simpa using h.2⟩
  · rename_i e; simp only [Bool.and_eq_true, bne_iff_ne] at h; exact ⟨key (by rw [e]; simp [kcls]), h.1.1, by simpa using h.1.2, by simpa using h.2⟩
  · rename_i e; simp only [Bool.and_eq_true, bne_iff_ne] at h; exact ⟨key (by rw [e]; simp [kcls]), h.1.1, by simpa using h.1.2, by simpa using h.2⟩
  · cases h

theorem sound_var {sc : Scope} {env : PySem.Env} {ρ : Env} {β : List Addr} {H : Hp} {s : Shared} {A : Around} {x : String} {pos : Pos} {v : V} {Q : Value → Shared → Prop} {E : Value → Shared → Prop} (a : At P fs mg mb h₀ n sc env ρ β H s A) (hv : isVar sc (Str.ofString x) = true) (hx : ρ x = some v)
    (h : ∀ u, VR β v u → Q u s) : wpAny (model prog w) A (eval (.Name (Str.ofString x) pos) env) Q E s := by
  obtain ⟨hk, h0, hd, hc⟩ := isVar_kind hv a.sc
  refine wpAny_Name ?_ hd
  rcases hk with hk | hk | hk
  · obtain ⟨m, hn, hm⟩ := a.er.ns
    obtain ⟨u, hu, hr⟩ := hm x v hx hk h0
    exact wpAny_loadName_local a.er.kind hk hn hu (h u hr)
  · obtain ⟨c, u, hcl, hic, hr⟩ := a.er.held x v hx (.inl hk)
    exact wpAny_loadName_cell a.er.kind hk hcl hic (h u hr)
  · obtain ⟨c, u, hcl, hic, hr⟩ := a.er.held x v hx (.inr hk)
    exact wpAny_loadName_free a.er.kind hk hcl hic (h u hr) hc

theorem VR.nil_any {v : V} {u : Value} {β : List Addr} (h : VR [] v u) : VR β v u := h.mono (List.nil_prefix)

theorem plainBase_eq {o : Expr} {name : Str} {env : PySem.Env} (h : plainBase o = true) : attributeBase o name env (eval o env) = eval o env := by
  cases o with
  | Call f args kws pos =>
    cases f with
    | Name id p =>
      cases args with
      | nil => cases kws with
        | nil => cases h
        | cons _ _ => rfl
      | cons _ _ => rfl
    | _ => rfl
  | _ => rfl

theorem recv_list {β1 : List Addr} {v : V} {H1 : Hp} {ov : Value} {s₁ : Shared} (vr : VR β1 v ov) (sr : SR h₀ β1 H1 s₁.heap) (hr : recvOk .append v H1 = true) :
    s₁.TypeIs ov "list" ∧ (∀ a, ov = .ref a → ∃ ob, s₁.heap.get? a = some ob ∧ ob.dict = none) := by
  cases vr with
  | ref e =>
    simp only [recvOk] at hr
    split at hr
    · rename_i xs ha
      obtain ⟨us, m, _, eo, _, _⟩ := sr.list ha e
      exact ⟨⟨_, eo, rfl⟩, fun a ea => by cases ea; exact ⟨_, eo, rfl⟩⟩
    · cases hr
  | _ => cases hr

theorem recv_str {β1 : List Addr} {v : V} {H1 : Hp} {ov : Value} (vr : VR β1 v ov) (hr : recvOk .join v H1 = true) : ∃ x t, ov = .str x t := by
  cases vr with
  | str x t => exact ⟨x, t, rfl⟩
  | _ => cases hr
/-- the receiver of a built-in method -/
theorem meth_sound {env : PySem.Env} {s : Shared} {A : Around} {p : Prim} {m : String} {o x : Expr} {apos pos : Pos} {Q : Value → Shared → Prop} {E : Value → Shared → Prop} (hm : methName p = some m) (hl : (apos.endLine == pos.line) = true) (hpl : plainE x = true)
    (hbase : plainBase o = true)
    (h : wpAny (model prog w) A (eval o env) (fun ov s₁ => (∃ β1 v H1, recvOk p v H1 = true ∧ VR β1 v ov ∧ SR h₀ β1 H1 s₁.heap) ∧
      wpAny (model prog w) A (eval x env) (fun u s2 => Ready h₀ p Q [ov, u] s2) E s₁) E s) :
    wpAny (model prog w) A (eval (.Call (.Attribute o (Str.ofString m) apos) [x] [] pos) env) Q E s := by
  have hstar : starEach [x] env = [(false, eval x env)] := starEach_plain hpl
  have hfew : ((backTo pos (starEach [x] env)).all (fun x => !x.1) && (backToKw pos (keywordEach [] env)).all (fun x => x.1.isSome) && decide ([x].length + ([] : List Keyword).length + (if ([] : List Keyword).isEmpty then 0 else 1) < 30)) = true := by
    rw [hstar]; rfl
  have tail : ∀ {id : String} {ov : Value} {s₁ : Shared}, (∀ u s2, Ready h₀ p Q [ov, u] s2 → wpAny (model prog w) A (call (.builtin id) [ov, u]) Q E s2) → wpAny (model prog w) A (eval x env) (fun u s2 => Ready h₀ p Q [ov, u] s2) E s₁ →
      wpAny (model prog w) A (callWith pos (.builtin id) [ov] (backTo pos (starEach [x] env)) []) Q E s₁ := fun hc hx => by
    refine Calls.callWith_builtin (backTo_any (by simp [hpl])) ?_
    rw [hstar]
    exact Calls.evalArgs_plain (Calls.spliced_cons (wpAny_mono hx (fun u s2 h2 => Calls.spliced_nil (hc u s2 h2)) fun _ _ e => e))
  cases p <;> simp only [methName] at hm <;> (try cases hm)
  · -- append
    refine wpAny_Call_method (T := "list") (id := "list.append") (plainBase_eq hbase) hfew hl F.plainAttrs_list F.slot_list_append F.type_list_append (wpAny_mono h (fun ov s₁ h₁ => ?_) fun _ _ e => e)
    obtain ⟨⟨β1, v, H1, hr, vr, sr⟩, hx⟩ := h₁
    obtain ⟨hT, hd⟩ := recv_list vr sr hr
    refine ⟨hT, hd, tail (fun u s2 h2 => ?_) hx⟩
    obtain ⟨β1, vs, H1, v, H2, hpr, vr, sr, k⟩ := h2
    obtain ⟨v1, v2, rfl, va, vb⟩ := vrs2 vr
    cases va with
    | ref ea =>
      simp only [prim, methV, appendV] at hpr
      split at hpr
      · rename_i xs e
        split at hpr
        · rename_i hlim; cases hpr; exact p_append e ea hlim vb k sr
        · cases hpr
      · cases hpr
    | _ => cases hpr
  · -- pop
    refine wpAny_Call_method (T := "list") (id := "list.pop") (plainBase_eq hbase) hfew hl F.plainAttrs_list F.slot_list_pop F.type_list_pop (wpAny_mono h (fun ov s₁ h₁ => ?_) fun _ _ e => e)
    obtain ⟨⟨β1, v, H1, hr, vr, sr⟩, hx⟩ := h₁
    obtain ⟨hT, hd⟩ := recv_list vr sr hr
    refine ⟨hT, hd, tail (fun u s2 h2 => ?_) hx⟩
    obtain ⟨β1, vs, H1, v, H2, hpr, vr, sr, k⟩ := h2
    obtain ⟨v1, v2, rfl, va, vb⟩ := vrs2 vr
    cases va with
    | ref ea =>
      cases vb with
      | int i t =>
        simp only [prim, methV, popV] at hpr
        split at hpr
        · rename_i xs e
          obtain ⟨kk, h1, h2⟩ := Option.bind_eq_some_iff.mp hpr
          obtain ⟨y, h3, h4⟩ := Option.map_eq_some_iff.mp h2
          cases h4
          exact p_pop e ea h1 h3 k sr
        · cases hpr
      | _ => cases hpr
    | _ => cases hpr
  · -- index
    refine wpAny_Call_method (T := "list") (id := "list.index") (plainBase_eq hbase) hfew hl F.plainAttrs_list F.slot_list_index F.type_list_index (wpAny_mono h (fun ov s₁ h₁ => ?_) fun _ _ e => e)
    obtain ⟨⟨β1, v, H1, hr, vr, sr⟩, hx⟩ := h₁
    obtain ⟨hT, hd⟩ := recv_list vr sr hr
    refine ⟨hT, hd, tail (fun u s2 h2 => ?_) hx⟩
    obtain ⟨β1, vs, H1, v, H2, hpr, vr, sr, k⟩ := h2
    obtain ⟨v1, v2, rfl, va, vb⟩ := vrs2 vr
    cases va with
    | ref ea =>
      cases vb with
      | int i t =>
        simp only [prim, methV, indexV] at hpr
        split at hpr
        · rename_i xs e
          obtain ⟨is, h1, h2⟩ := Option.bind_eq_some_iff.mp hpr
          split at h2
          · rename_i hmem; cases h2; exact p_index e ea h1 hmem k sr
          · cases h2
        · cases hpr
      | _ => cases hpr
    | _ => cases hpr
  · -- join
    refine wpAny_Call_method (T := "str") (id := "str.join") (plainBase_eq hbase) hfew hl F.plainAttrs_str F.slot_str_join F.type_str_join (wpAny_mono h (fun ov s₁ h₁ => ?_) fun _ _ e => e)
    obtain ⟨⟨β1, v, H1, hr, vr, sr⟩, hx⟩ := h₁
    obtain ⟨y, t, rfl⟩ := recv_str (H1 := H1) vr hr
    refine ⟨typeIs_str _ _ _, (fun _ e => nomatch e), tail (fun u s2 h2 => ?_) hx⟩
    obtain ⟨β1, vs, H1, v, H2, hpr, vr, sr, k⟩ := h2
    obtain ⟨v1, v2, rfl, va, vb⟩ := vrs2 vr
    cases va
    cases vb with
    | ref e =>
      simp only [prim, methV, joinV] at hpr
      split at hpr
      · rename_i xs hxs
        obtain ⟨ws, h1, h2⟩ := Option.bind_eq_some_iff.mp hpr
        split at h2
        · rename_i hlen; cases h2; exact p_join hxs e h1 hlen k sr
        · cases h2
      · cases hpr
    | _ => cases hpr
  · -- split
    refine wpAny_Call_method (T := "str") (id := "str.split") (plainBase_eq hbase) hfew hl F.plainAttrs_str F.slot_str_split F.type_str_split (wpAny_mono h (fun ov s₁ h₁ => ?_) fun _ _ e => e)
    obtain ⟨⟨β1, v, H1, hr, vr, sr⟩, hx⟩ := h₁
    obtain ⟨y, t, rfl⟩ := recv_str (H1 := H1) vr hr
    refine ⟨typeIs_str _ _ _, (fun _ e => nomatch e), tail (fun u s2 h2 => ?_) hx⟩
    obtain ⟨β1, vs, H1, v, H2, hpr, vr, sr, k⟩ := h2
    obtain ⟨v1, v2, rfl, va, vb⟩ := vrs2 vr
    cases va
    cases vb with
    | str z t' =>
      simp only [prim, methV, splitV] at hpr
      split at hpr
      · rename_i hlen; cases hpr; exact p_split hlen.1 hlen.2 k sr
      · cases hpr
    | _ => cases hpr
  · -- startswith
    refine wpAny_Call_method (T := "str") (id := "str.startswith") (plainBase_eq hbase) hfew hl F.plainAttrs_str F.slot_str_startswith F.type_str_startswith (wpAny_mono h (fun ov s₁ h₁ => ?_) fun _ _ e => e)
    obtain ⟨⟨β1, v, H1, hr, vr, sr⟩, hx⟩ := h₁
    obtain ⟨y, t, rfl⟩ := recv_str (H1 := H1) vr hr
    refine ⟨typeIs_str _ _ _, (fun _ e => nomatch e), tail (fun u s2 h2 => ?_) hx⟩
    obtain ⟨β1, vs, H1, v, H2, hpr, vr, sr, k⟩ := h2
    obtain ⟨v1, v2, rfl, va, vb⟩ := vrs2 vr
    cases va
    cases vb with
    | str z t' => cases hpr; exact p_starts k sr
    | _ => cases hpr

end
end Mine

namespace Mine
open PySem

structure Itr (prog : Program) (w : World) (A : Around) (h₀ : Heap) (β₀ : List Addr) (I : Addr) (G : Hp → Prop) (items : List V) (St : Nat → Heap → Prop) : Prop where
  frame : ∀ i h h', St i h → (∀ o, h.get? I = some o → h'.get? I = some o) → St i h'
  live : ∀ i h, St i h → ∃ o, h.get? I = some o
  item : ∀ i v β H (s : Shared) (Q : Option Value → Shared → Prop) E, items[i]? = some v → St i s.heap → β₀ <+: β → SR h₀ β H s.heap → G H → I ∉ β →
    (∀ u h' tk, VR β v u → St (i + 1) h' → (∀ b o, b ≠ I → s.heap.get? b = some o → h'.get? b = some o) → Q (some u) { s with heap := h', toks := tk }) → wpAny (model prog w) A (pyNext (.ref I)) Q E s
  done : ∀ β H (s : Shared) (Q : Option Value → Shared → Prop) E, St items.length s.heap → β₀ <+: β → SR h₀ β H s.heap → G H → I ∉ β →
    (∀ h' tk, (∀ b o, b ≠ I → s.heap.get? b = some o → h'.get? b = some o) → Q none { s with heap := h', toks := tk }) → wpAny (model prog w) A (pyNext (.ref I)) Q E s
  self : ∀ i (s : Shared) (Q : Value → Shared → Prop) E, St i s.heap → Q (.ref I) s → wpAny (model prog w) A (pyIter (.ref I)) Q E s

section
variable {prog : Program} {w : World} {A : Around} {h₀ : Heap} {β₀ : List Addr} {I : Addr}

theorem prefix_get {β β' : List Addr} (h : β <+: β') {a : Nat} {r : Addr} (e : β[a]? = some r) : β'[a]? = some r := by
  obtain ⟨t, rfl⟩ := h
  rw [List.getElem?_append_left (List.getElem?_eq_some_iff.mp e).1]; exact e

theorem itr_list (hh : A.handled = none) {a : Nat} {r : Addr} {items : List V} {o : O} (hr : β₀[a]? = some r) (ho : o = .list items ∨ o = .frozen items) :
    Itr prog w A h₀ β₀ I (fun H => H[a]? = some o) items (fun i h => h.IsListIter I r i) where
  frame := fun _ _ _ st hk => let ⟨o, e, x⟩ := st; ⟨o, hk _ e, x⟩
  live := fun _ _ st => let ⟨o, e, _⟩ := st; ⟨o, e⟩
  item := fun i v β H s Q E hv st hp sr hG hI hQ => by
    have hr' := prefix_get hp hr
    obtain ⟨us, hl, vr, _⟩ := sr.listOf (ho.imp (fun e => e ▸ hG) (fun e => e ▸ hG)) hr'
    obtain ⟨u, hu, hvu⟩ := vr.get hv
    exact wpAny_pyNext_list_item st hl (by rw [List.getElem?_toArray]; exact hu) fun h' st' hs' => hQ u h' s.toks hvu st' fun b o hb e => hs'.extBut b o hb e
  done := fun β H s Q E st hp sr hG hI hQ => by
    have hr' := prefix_get hp hr
    obtain ⟨us, hl, vr, _⟩ := sr.listOf (ho.imp (fun e => e ▸ hG) (fun e => e ▸ hG)) hr'
    exact wpAny_pyNext_list_end hh st hl (by rw [List.getElem?_toArray, ← Option.not_isSome_iff_eq_none]; simp [vr.length]) fun h' he => hQ h' s.toks fun b o hb e => he b o hb e
  self := fun i s Q E st hQ => wpAny_pyIter_listiter st hQ

theorem SR.tupleOf {s : Shared} {β : List Addr} {H : Hp} (x : SR h₀ β H s.heap) {a : Nat} {r : Addr} {xs : List V} (ha : H[a]? = some (.tuple xs)) (hr : β[a]? = some r) :
    ∃ us, s.heap.IsTuple r us.toArray ∧ VRs β xs us ∧ xs.length ≤ lim := by
  obtain ⟨r', e', sl⟩ := x.at ha
  rw [hr] at e'; cases e'
  cases sl with
  | own a b c => cases c with | tuple p q => exact ⟨_, ⟨_, b, rfl, _, rfl⟩, p, q⟩

theorem itr_tuple (hh : A.handled = none) {a : Nat} {r : Addr} {items : List V} (hr : β₀[a]? = some r) :
    Itr prog w A h₀ β₀ I (fun H => H[a]? = some (.tuple items)) items (fun i h => h.IsTupleIter I r i) where
  frame := fun _ _ _ st hk => let ⟨o, e, x⟩ := st; ⟨o, hk _ e, x⟩
  live := fun _ _ st => let ⟨o, e, _⟩ := st; ⟨o, e⟩
  item := fun i v β H s Q E hv st hp sr hG hI hQ => by
    obtain ⟨us, hl, vr, _⟩ := sr.tupleOf hG (prefix_get hp hr)
    obtain ⟨u, hu, hvu⟩ := vr.get hv
    exact wpAny_pyNext_tuple_item st hl (by rw [List.getElem?_toArray]; exact hu) fun h' st' hs' => hQ u h' s.toks hvu st' fun b o hb e => hs'.extBut b o hb e
  done := fun β H s Q E st hp sr hG hI hQ => by
    obtain ⟨us, hl, vr, _⟩ := sr.tupleOf hG (prefix_get hp hr)
    exact wpAny_pyNext_tuple_end hh st hl (by rw [List.getElem?_toArray, ← Option.not_isSome_iff_eq_none]; simp [vr.length]) fun h' he => hQ h' s.toks fun b o hb e => he b o hb e
  self := fun i s Q E st hQ => wpAny_pyIter_tupleiter st hQ

theorem rangeI_get {a b c : Int} {i : Nat} {v : V} (h : ((rangeI a b c).map V.int)[i]? = some v) : v = .int (a + i * c) ∧ i < (rangeI a b c).length := by
  rw [List.getElem?_map] at h
  obtain ⟨x, hx, rfl⟩ := Option.map_eq_some_iff.mp h
  have hlt := (List.getElem?_eq_some_iff.mp hx).1
  simp only [rangeI, List.getElem?_map] at hx
  obtain ⟨y, hy, rfl⟩ := Option.map_eq_some_iff.mp hx
  rw [List.getElem?_range (by simpa [rangeI] using hlt)] at hy
  cases hy
  exact ⟨rfl, hlt⟩

theorem itr_range (hh : A.handled = none) (a b c : Int) :
    Itr prog w A h₀ β₀ I (fun _ => True) ((rangeI a b c).map .int) (fun i h => IsRangeIter h I (a + (i : Nat) * c) (((rangeI a b c).length : Int) - (i : Nat)) c) where
  frame := fun _ _ _ st hk => hk _ st
  live := fun _ _ st => ⟨_, st⟩
  item := fun i v β H s Q E hv st hp sr hG hI hQ => by
    obtain ⟨rfl, hlt⟩ := rangeI_get hv
    refine wpAny_pyNext_range_item st (by omega) fun h' hit' hs' => ?_
    refine hQ _ h' _ (.int _ _) ?_ fun b o hb e => hs'.extBut b o hb e
    have e1 : a + ((i + 1 : Nat) : Int) * c = a + (i : Int) * c + c := by rw [Int.natCast_add, Int.add_mul]; simp; omega
    have e2 : ((rangeI a b c).length : Int) - ((i + 1 : Nat) : Int) = ((rangeI a b c).length : Int) - (i : Int) - 1 := by omega
    rw [e1, e2]; exact hit'
  done := fun β H s Q E st hp sr hG hI hQ => by
    rw [List.length_map] at st
    exact wpAny_pyNext_range_end hh st (by omega) fun h' he' => hQ h' s.toks fun b o hb e => he' b o hb e
  self := fun _ _ _ _ st hQ => wpAny_pyIter_rangeiter st hQ

/-- an iterator made, at its start -/
noncomputable def Made (prog : Program) (w : World) (A : Around) (h₀ : Heap) (β : List Addr) (s : Shared) (G : Hp → Prop) (items : List V) (it : Value) (s' : Shared) : Prop :=
  ∃ I St h tk, it = .ref I ∧ s' = { s with heap := h, toks := tk } ∧ (∀ b o, s.heap.get? b = some o → h.get? b = some o) ∧ s.heap.get? I = Option.none ∧ St 0 h ∧ Itr prog w A h₀ β I G items St

theorem iter_seq {β : List Addr} {H : Hp} {s : Shared} {a : Nat} {r : Addr} {items : List V} {E : Value → Shared → Prop} (hh : A.handled = none) (sr : SR h₀ β H s.heap) (hr : β[a]? = some r) (ha : seqOf H a = some items) :
    wpAny (model prog w) A (pyIter (.ref r)) (Made prog w A h₀ β s (fun H' => H'[a]? = H[a]?) items) E s := by
  have fresh : s.heap.get? s.heap.objs.size = Option.none := get_none_of_le (Nat.le_refl _)
  unfold seqOf at ha
  split at ha
  · rename_i xs e; cases ha
    obtain ⟨us, hl, vr, _⟩ := sr.listOf (.inl e) hr
    refine wpAny_pyIter_list hl ⟨_, fun i h => h.IsListIter s.heap.objs.size r i, _, s.toks, rfl, rfl, fun b o e => Heap.get?_push_of_some _ e, fresh, ⟨_, Heap.get?_push_size _ rfl, rfl, rfl⟩, ?_⟩
    rw [e]; exact itr_list hh hr (.inl rfl)
  · rename_i xs e; cases ha
    obtain ⟨us, hl, vr, _⟩ := sr.listOf (.inr e) hr
    refine wpAny_pyIter_list hl ⟨_, fun i h => h.IsListIter s.heap.objs.size r i, _, s.toks, rfl, rfl, fun b o e => Heap.get?_push_of_some _ e, fresh, ⟨_, Heap.get?_push_size _ rfl, rfl, rfl⟩, ?_⟩
    rw [e]; exact itr_list hh hr (.inr rfl)
  · rename_i xs e; cases ha
    obtain ⟨us, hl, vr, _⟩ := sr.tupleOf e hr
    refine wpAny_pyIter_tuple hl ⟨_, fun i h => h.IsTupleIter s.heap.objs.size r i, _, s.toks, rfl, rfl, fun b o e => Heap.get?_push_of_some _ e, fresh, ⟨_, Heap.get?_push_size _ rfl, rfl, rfl⟩, ?_⟩
    rw [e]; exact itr_tuple hh hr
  · cases ha

/-- range( .. ), then its iterator -/
theorem iter_range {β : List Addr} {s : Shared} {vs : List V} {us : List Value} {is : List Int} {E : Value → Shared → Prop} (hh : A.handled = none) (vr : VRs β vs us) (hr : rangeOf vs = some is) :
    wpAny (model prog w) A (call (.type "range") us) (fun x s1 => wpAny (model prog w) A (pyIter x) (Made prog w A h₀ β s (fun _ => True) (is.map .int)) E s1) E s := by
  have fin : ∀ (a b c : Int) (t u v : Tok) (tk : Nat), 0 < c → a.natAbs ≤ lim → b.natAbs ≤ lim → c.natAbs ≤ lim → wpAny (model prog w) A (pyIter (.ref s.heap.objs.size)) (Made prog w A h₀ β s (fun _ => True) ((rangeI a b c).map .int)) E
      { s with heap := s.heap.push { cls := .type "range", data := .fields #[.int a t, .int b u, .int c v] }, toks := tk } := by
    intro a b c t u v tk hc ha hb hcl
    refine wpAny_pyIter_range (IsRange.new ..) (small_lim ha hb hcl hc) ⟨_, _, _, tk, rfl, rfl, fun b o e => Heap.get?_push_of_some _ (Heap.get?_push_of_some _ e), get_none_of_le (by simp [Heap.size_push]), ?_, itr_range hh a b c⟩
    have e1 : (a + ((0 : Nat) : Int) * c) = a := by simp
    have e2 : (((rangeI a b c).length : Int) - ((0 : Nat) : Int)) = Builtin.Range.rangeSize a b c := by rw [rangeSize_pos hc]; simp
    rw [e1, e2]
    exact Heap.get?_push_size _ rfl
  unfold rangeOf at hr
  split at hr
  · split at hr
    · rename_i hb; cases hr
      cases vr with | cons va vr => cases vr; cases va with | int _ t => exact call_range_1 (fin 0 _ 1 _ _ _ _ (by omega) (by decide) hb (by decide))
    · cases hr
  · split at hr
    · rename_i hb; cases hr
      cases vr with | cons va vr => cases vr with | cons vb vr => cases vr; cases va with | int _ t => cases vb with | int _ u => exact call_range_2 (fin _ _ 1 _ _ _ _ (by omega) hb.2.1 hb.2.2 (by decide))
    · cases hr
  · split at hr
    · rename_i hb; cases hr
      cases vr with | cons va vr => cases vr with | cons vb vr => cases vr with | cons vc vr => cases vr; cases va with | int _ t => cases vb with | int _ u => cases vc with | int _ v =>
        exact call_range_3 (by omega) (fin _ _ _ _ _ _ _ hb.2.2.2.1 hb.2.1 hb.2.2.1 hb.2.2.2.2) (.inl (PyProof.noPylong_small (by have := hb.2.2.2.2; unfold lim at this; omega)))
    · cases hr
  · cases hr

end
end Mine

namespace Mine
open PySem

noncomputable def clFrom (cells : List (Str × Addr)) : List (Str × NameKind) → List (Str × Addr) → List (Str × Addr)
  | [], acc => acc
  | (n, k) :: r, acc => if k == .free then clFrom cells r (match cells.lookup n with | some c => (n, c) :: acc | none => acc) else clFrom cells r acc

theorem closure_eq {scope : Scope} {env : PySem.Env} (h : ∀ n, (n, NameKind.free) ∈ scope.names → ∃ c, env.cells.lookup n = some c) : closureFor scope env = pure (clFrom env.cells scope.names []) := by
  have key : ∀ (names : List (Str × NameKind)) (acc : List (Str × Addr)), (∀ n, (n, NameKind.free) ∈ names → ∃ c, env.cells.lookup n = some c) →
      (forIn (m := Sem) names acc fun (x : Str × NameKind) cs => match x with | (name, kind) => if kind == .free then (do let c ← cellOf env name; pure (.yield ((name, c) :: cs))) else pure (.yield cs)) = pure (clFrom env.cells names acc) := by
    intro names
    induction names with
    | nil => intro acc _; rfl
    | cons x r ih =>
      intro acc hx
      obtain ⟨n, k⟩ := x
      rw [List.forIn_cons]
      have hr : ∀ n, (n, NameKind.free) ∈ r → ∃ c, env.cells.lookup n = some c := fun n hn => hx n (List.mem_cons_of_mem _ hn)
      cases hk : (k == NameKind.free) with
      | true =>
        have : k = .free := beq_iff_eq.mp hk
        subst this
        obtain ⟨c, hc⟩ := hx n List.mem_cons_self
        simp only [hk, if_true, cellOf, hc, clFrom, pure_bind]
        exact ih _ hr
      | false =>
        simp only [hk, Bool.false_eq_true, if_false, clFrom, pure_bind]
        exact ih _ hr
  unfold closureFor
  have := key scope.names [] h
  simp only [bind_pure]
  exact this

theorem clFrom_lookup {cells : List (Str × Addr)} {y : Str} : ∀ {names : List (Str × NameKind)} {acc : List (Str × Addr)} {c : Addr}, (clFrom cells names acc).lookup y = some c →
    acc.lookup y = some c ∨ cells.lookup y = some c := by
  intro names
  induction names with
  | nil => intro acc c h; exact .inl h
  | cons x r ih =>
    intro acc c h
    obtain ⟨n, k⟩ := x
    simp only [clFrom] at h
    split at h
    · rcases ih h with q | q
      · split at q
        · rename_i c' hc
          rw [List.lookup_cons] at q
          split at q
          · rename_i e; cases q; rw [beq_iff_eq.mp e]; exact .inr hc
          · exact .inl q
        · exact .inl q
      · exact .inr q
    · exact ih h

theorem clFrom_has {cells : List (Str × Addr)} {y : Str} {c : Addr} (hc : cells.lookup y = some c) : ∀ {names : List (Str × NameKind)} {acc : List (Str × Addr)}, (y, NameKind.free) ∈ names ∨ acc.lookup y = some c →
    (∀ c', acc.lookup y = some c' → c' = c) → (clFrom cells names acc).lookup y = some c := by
  intro names
  induction names with
  | nil => intro acc h _; exact h.elim (fun q => nomatch q) id
  | cons x r ih =>
    intro acc h hu
    obtain ⟨n, k⟩ := x
    simp only [clFrom]
    split
    · rename_i hk
      split
      · rename_i c' hc'
        have hu' : ∀ c'', List.lookup y ((n, c') :: acc) = some c'' → c'' = c := fun c'' q => by
          rw [List.lookup_cons] at q
          split at q
          · rename_i e; cases q; rw [← beq_iff_eq.mp e, hc] at hc'; cases hc'; rfl
          · exact hu _ q
        refine ih ?_ hu'
        rcases h with h | h
        · rcases List.mem_cons.mp h with q | q
          · cases q
            right; rw [List.lookup_cons]; simp; rw [hc] at hc'; cases hc'; rfl
          · exact .inl q
        · right
          rw [List.lookup_cons]
          split
          · rename_i e; rw [← beq_iff_eq.mp e, hc] at hc'; cases hc'; rfl
          · exact h
      · rename_i hn
        refine ih ?_ hu
        rcases h with h | h
        · rcases List.mem_cons.mp h with q | q
          · cases q; rw [hc] at hn; cases hn
          · exact .inl q
        · exact .inr h
    · rename_i hk
      refine ih ?_ hu
      rcases h with h | h
      · rcases List.mem_cons.mp h with q | q
        · cases q; exact absurd rfl hk
        · exact .inl q
      · exact .inr h

theorem lookup_map (g : Str → NameKind → NameKind) {x : Str} : ∀ (names : List (Str × NameKind)), (names.map fun nk => (nk.1, g nk.1 nk.2)).lookup x = (names.lookup x).map (g x)
  | [] => rfl
  | (n, k) :: r => by
    rw [List.map_cons, List.lookup_cons, List.lookup_cons]
    cases hx : x == n with
    | true => rw [beq_iff_eq.mp hx]; rfl
    | false => exact lookup_map g r

theorem lookup_relabel {env : PySem.Env} {x : Str} (names : List (Str × NameKind)) :
    (names.map fun (n, k) => if (k == NameKind.free && env.scope.kind == .function && env.kindOf n == some .cell) then (n, NameKind.cell) else (n, k)).lookup x =
      (names.lookup x).map fun k => if (k == NameKind.free && env.scope.kind == .function && env.kindOf x == some .cell) then NameKind.cell else k := by
  rw [← lookup_map (fun n k => if (k == NameKind.free && env.scope.kind == .function && env.kindOf n == some .cell) then NameKind.cell else k) names]
  congr 2
  funext nk
  obtain ⟨n, k⟩ := nk
  dsimp only
  split <;> rfl

theorem compEnv_kind (scope : Scope) (cl : List (Str × Addr)) (Cf : Addr) (env : PySem.Env) (x : Str) :
    (compEnvC scope cl Cf env).kindOf x = (scope.names.lookup x).map fun k => if (k == NameKind.free && env.scope.kind == .function && env.kindOf x == some .cell) then NameKind.cell else k :=
  lookup_relabel scope.names

theorem comp_scr (scope : Scope) (cl : List (Str × Addr)) (Cf : Addr) (env : PySem.Env) : ScR scope (compEnvC scope cl Cf env) := by
  intro x
  rw [compEnv_kind]
  cases h : scope.names.lookup x with
  | none => rfl
  | some k =>
    show kcls (some (if _ then _ else _)) = _
    split
    · rename_i hc
      simp only [Bool.and_eq_true] at hc
      rw [beq_iff_eq.mp hc.1.1]; rfl
    · rfl

theorem mem_of_lookup' {names : List (Str × NameKind)} {x : Str} {k : NameKind} (h : names.lookup x = some k) : (x, k) ∈ names := mem_of_lookup h

structure CompOk (sc scope : Scope) (x : Str) : Prop where
  kind : scope.kind = .function
  loc : scope.names.lookup x = some .local
  dot : x ≠ (".0" : Str)
  nocell : ∀ y ∈ scope.names, y.2 ≠ .cell
  names : ∀ y ∈ scope.names, y.2 = .local → scope.names.lookup y.1 = some .local
  only : ∀ y, (y, NameKind.local) ∈ scope.names → y = x ∨ y = (".0" : Str)
  free : ∀ y, (y, NameKind.free) ∈ scope.names → kcls (sc.names.lookup y) = 2

theorem compOk_of {sc scope : Scope} {x : Str} (h : compOk sc scope x = true) : CompOk sc scope x := by
  unfold compOk at h
  simp only [Bool.and_eq_true, decide_eq_true_eq, bne_iff_ne, List.all_eq_true] at h
  obtain ⟨⟨⟨h1, h2⟩, h3⟩, h4⟩ := h
  refine ⟨h1, beq_iff_eq.mp h2, h3, fun y hy e => ?_, fun y hy e => ?_, fun y hy => ?_, fun y hy => ?_⟩
  · have := h4 y hy; rw [e] at this; cases this
  · have := h4 y hy; rw [e] at this; simp only [Bool.and_eq_true] at this; exact beq_iff_eq.mp this.2
  · have := h4 _ hy
    simp only [Bool.and_eq_true, Bool.or_eq_true, beq_iff_eq] at this
    exact this.1
  · have := h4 _ hy
    simp only at this
    split at this
    · rename_i e; rw [e]; rfl
    · rename_i e; rw [e]; rfl
    · cases this

section
variable {prog : Program} {w : World} {h₀ : Heap} {P : Prog} {fs : List String} {mg mb : Str → Option Value} {n : Nat} {C : Ctx}

theorem comp_er {sc scope : Scope} {env : PySem.Env} {ρ : Env} {β : List Addr} {h : Heap} {x : String} {v : V} {u : Value} {Cf : Addr} {m : Str → Option Value} (er : ER env ρ β h) (hs : ScR sc env) (ok : CompOk sc scope (Str.ofString x))
    (hn : h.Ns Cf m) (hm : m (Str.ofString x) = some u) (hv : VR β v u) (hC : Cf ∉ β) (hcl : ∀ y c, env.cells.lookup y = some c → c ≠ Cf) :
    ER (compEnvC scope (clFrom env.cells scope.names []) Cf env) (ρ.set x v) β h := by
  have lk : ∀ {y c}, (clFrom env.cells scope.names []).lookup y = some c → env.cells.lookup y = some c := fun q => by
    rcases clFrom_lookup q with q | q
    · cases q
    · exact q
  have lk' : ∀ {y c}, env.cells.lookup y = some c → (y, NameKind.free) ∈ scope.names → (clFrom env.cells scope.names []).lookup y = some c := fun hc hf => clFrom_has hc (.inl hf) fun _ q => nomatch q
  have isFree : ∀ {y : Str}, (compEnvC scope (clFrom env.cells scope.names []) Cf env).kindOf y = some .cell ∨ (compEnvC scope (clFrom env.cells scope.names []) Cf env).kindOf y = some .free → (y, NameKind.free) ∈ scope.names := by
    intro y q
    rw [compEnv_kind] at q
    cases hk : scope.names.lookup y with
    | none => rw [hk] at q; simp at q
    | some k =>
      rw [hk] at q
      simp only [Option.map_some] at q
      have hmem := mem_of_lookup' hk
      split at q
      · rename_i hc
        simp only [Bool.and_eq_true] at hc
        rw [beq_iff_eq.mp hc.1.1] at hmem; exact hmem
      · rcases q with q | q
        · cases q; exact absurd rfl (ok.nocell _ hmem)
        · cases q; exact hmem
  have envKind : ∀ {y : Str}, (y, NameKind.free) ∈ scope.names → env.kindOf y = some .cell ∨ env.kindOf y = some .free := by
    intro y hy
    have h1 := ok.free y hy
    rw [← hs y] at h1
    cases hk : env.kindOf y with
    | none => rw [hk] at h1; cases h1
    | some k => rw [hk] at h1; cases k <;> first | exact .inl rfl | exact .inr rfl | cases h1
  refine ⟨ok.kind, er.glob, er.bltn, ⟨m, hn, fun y v' hy hk hd => ?_⟩, fun y c hc => er.cell y c (lk hc), fun y v' hy hk => ?_, fun y hk => ?_, fun y z c h1 h2 => er.apart y z c (lk h1) (lk h2), hC, fun y c hc => ⟨(er.cells y c (lk hc)).1, hcl y c (lk hc)⟩⟩
  · have hl : (Str.ofString y, NameKind.local) ∈ scope.names := by
      rw [compEnv_kind] at hk
      cases hk' : scope.names.lookup (Str.ofString y) with
      | none => rw [hk'] at hk; cases hk
      | some k =>
        rw [hk'] at hk
        simp only [Option.map_some, Option.some.injEq] at hk
        split at hk
        · cases hk
        · subst hk; exact mem_of_lookup' hk'
    rcases ok.only _ hl with e | e
    · have := ofString_inj e; subst this
      have : v' = v := by simpa [Env.set] using hy.symm
      subst this; exact ⟨u, hm, hv⟩
    · exact absurd e hd
  · have hf := isFree hk
    by_cases e : y = x
    · subst e
      rw [compEnv_kind, ok.loc] at hk
      simp at hk
    · have hy' : ρ y = some v' := by simpa [Env.set, e] using hy
      obtain ⟨c, u', hc, hic, hr⟩ := er.held y v' hy' (envKind hf)
      exact ⟨c, u', lk' hc hf, hic, hr⟩
  · have hf := isFree hk
    obtain ⟨c, hc⟩ := er.has y (envKind hf)
    exact ⟨c, lk' hc hf⟩

end
end Mine

namespace Mine
open PySem

section
variable {prog : Program} {w : World} {h₀ : Heap} {P : Prog} {fs : List String} {mg mb : Str → Option Value} {n : Nat} {C : Ctx}

/-- an object that stands in the heap is taken into the mini heap -/
theorem SR.adopt {h : Heap} {β : List Addr} {H : Hp} (x : SR h₀ β H h) {r : Addr} {o : O} {ob : Obj} (hr : r ∉ β) (hn : h₀.get? r = Option.none) (hg : h.get? r = some ob) (ho : OR β o ob) : SR h₀ (β ++ [r]) (H ++ [o]) h := by
  have hp : β <+: β ++ [r] := List.prefix_append _ _
  refine ⟨x.kept, ?_, (x.objs.mono fun _ _ => Slot1.grow hp).append (.cons (.own hn hg (ho.mono hp)) .nil)⟩
  rw [List.nodup_append]
  refine ⟨x.nodup, by simp, fun a ha b hb => ?_⟩
  simp at hb; subst hb; rintro rfl; exact hr ha

theorem SR.other {h h' : Heap} {β : List Addr} {H : Hp} (x : SR h₀ β H h) (hk : ∀ b o, h.get? b = some o → (b ∈ β ∨ ∃ o', h₀.get? b = some o') → h'.get? b = some o) : SR h₀ β H h' := by
  refine ⟨fun b o e => hk b o (x.kept b o e) (.inr ⟨o, e⟩), x.nodup, ?_⟩
  have : ∀ (H : Hp) (γ : List Addr), (∀ b ∈ γ, b ∈ β) → All2 (Slot1 h₀ h β) H γ → All2 (Slot1 h₀ h' β) H γ := by
    intro H γ hs hA
    induction hA with
    | nil => exact .nil
    | cons q _ ih =>
      refine .cons ?_ (ih fun b hb => hs b (List.mem_cons_of_mem _ hb))
      cases q with
      | frozen a b c d e => exact .frozen a b c d e
      | own a b c => exact .own a (hk _ _ b (.inl (hs _ List.mem_cons_self))) c
  exact this H β (fun _ hb => hb) x.objs

theorem ER.other {env : PySem.Env} {ρ : Env} {β : List Addr} {h h' : Heap} (x : ER env ρ β h) (hl : ∀ o, h.get? env.locals = some o → h'.get? env.locals = some o) (hc : ∀ y c, env.cells.lookup y = some c → ∀ o, h.get? c = some o → h'.get? c = some o) : ER env ρ β h' := by
  obtain ⟨m, hn, hm⟩ := x.ns
  refine ⟨x.kind, x.glob, x.bltn, ⟨m, Heap_Ns_at hn hl, hm⟩, fun y c hy => ?_, fun y v hv hk => ?_, x.has, x.apart, x.locs, x.cells⟩
  · obtain ⟨u, hu⟩ := x.cell y c hy; exact ⟨u, Heap_IsCell_at hu (hc y c hy)⟩
  · obtain ⟨c, u, hy, hu, hr⟩ := x.held y v hv hk; exact ⟨c, u, hy, Heap_IsCell_at hu (hc _ c hy), hr⟩

theorem ER.grow {env : PySem.Env} {ρ : Env} {β β' : List Addr} {h : Heap} (x : ER env ρ β h) (hp : β <+: β') (hl : env.locals ∉ β') (hc : ∀ y c, env.cells.lookup y = some c → c ∉ β') : ER env ρ β' h := by
  obtain ⟨m, hn, hm⟩ := x.ns
  refine ⟨x.kind, x.glob, x.bltn, ⟨m, hn, fun y v hv hk hd => ?_⟩, x.cell, fun y v hv hk => ?_, x.has, x.apart, hl, fun y c hy => ⟨hc y c hy, (x.cells y c hy).2⟩⟩
  · obtain ⟨u, hu, hr⟩ := hm y v hv hk hd; exact ⟨u, hu, hr.mono hp⟩
  · obtain ⟨c, u, hy, hu, hr⟩ := x.held y v hv hk; exact ⟨c, u, hy, hu, hr.mono hp⟩

noncomputable def compStep (C : Ctx) (elt : E) (conds : List E) (ρ : Env) (x : String) (X : XP) : V → Hp → (Option V → Hp → Prop) → Prop := fun v H2 k =>
  wAnd C conds (ρ.set x v) H2 (fun b H3 => wIf b (wE C elt (ρ.set x v) H3 (fun u H4 => k (some u) H4) X) (k none H3)) X

/-- the tests of a comprehension -/
noncomputable def SoundIfs (prog : Program) (w : World) (h₀ : Heap) (P : Prog) (fs : List String) (mg mb : Str → Option Value) (n : Nat) (C : Ctx) (conds : List E) (ifs : List Expr) (sc : Scope) : Prop :=
  ∀ env ρ β H s A k X E', At P fs mg mb h₀ n sc env ρ β H s A → wAnd C conds ρ H k X →
    wpAny (model prog w) A (forIn ifs true fun c r => if r = true then do let ok ← isTrue c env (eval c env); pure (ForInStep.yield ok) else pure (ForInStep.yield r)) (PB h₀ β s k) E' s

/-- what stands between two turns -/
structure CompInv (h₀ : Heap) (β₂ : List Addr) (s₂ : Shared) (I D Cf : Addr) (St : Nat → Heap → Prop) (i : Nat) (β : List Addr) (H : Hp) (acc : List V) (s : Shared) : Prop where
  same : ∃ h tk, s = { s₂ with heap := h, toks := tk }
  st : St i s.heap
  sr : SR h₀ β H s.heap
  grow : β₂ <+: β
  keep : ∀ b o, s₂.heap.get? b = some o → b ∉ β₂ → b ≠ I → s.heap.get? b = some o
  fresh : ∀ b ∈ β, b ∈ β₂ ∨ s₂.heap.get? b = Option.none
  dout : D ∉ β
  cout : Cf ∉ β
  iout : I ∉ β
  list : ∃ us, s.heap.PlainList D us.toArray ∧ VRs β acc us
  len : acc.length ≤ i
  ns : ∃ m, s.heap.Ns Cf m

theorem comp_loop {A : Around} {sc scope : Scope} {env : PySem.Env} {ρ : Env} {β : List Addr} {H : Hp} {s₂ s₄ : Shared} {x : String} {elt : E} {conds : List E} {el iter : Expr} {ifs : List Expr} {px pos : Pos} {X : XP}
    {G : Hp → Prop} {items : List V} {I D Cf : Addr} {St : Nat → Heap → Prop} {kfin : List V → Hp → Prop} {R : Result → Shared → Prop}
    (a : At P fs mg mb h₀ n sc env ρ β H s₂ A) (itr : Itr prog w A h₀ β I G items St) (hIn : I ∉ β) (hIL : env.locals ≠ I) (hIc : ∀ y c, env.cells.lookup y = some c → c ≠ I)
    (ok : CompOk sc scope (Str.ofString x)) (hlen : items.length ≤ lim) (hE : SoundE prog w h₀ P fs mg mb n C elt el scope) (hT : SoundIfs prog w h₀ P fs mg mb n C conds ifs scope)
    (hI₀ : h₀.get? I = Option.none) (hD : s₂.heap.get? D = Option.none) (hC : s₂.heap.get? Cf = Option.none) (hDC : D ≠ Cf) (hDI : D ≠ I) (hCI : Cf ≠ I)
    (inv0 : CompInv h₀ β s₂ I D Cf St 0 β H [] s₄)
    (hw : wLoop G (compStep C elt conds ρ x X) items [] H kfin)
    (hR : ∀ s' β' H' acc, CompInv h₀ β s₂ I D Cf (fun _ _ => True) items.length β' H' acc s' → kfin acc H' → R (.ok .next) s') :
    codeAny (model prog w) A (.compLoop (.ListComp el [⟨.Name (Str.ofString x) px, iter, ifs, 0⟩] scope pos) 0 (.ref I) (.ref D) (compEnvC scope (clFrom env.cells scope.names []) Cf env)) R s₄ := by
  have envO : ∃ o, s₂.heap.get? env.locals = some o := by obtain ⟨m, ⟨o, _, _, e, _⟩, _⟩ := a.er.ns; exact ⟨o, e⟩
  have cellO : ∀ y c, env.cells.lookup y = some c → ∃ o, s₂.heap.get? c = some o := fun y c hc => by obtain ⟨u, o, e, _⟩ := a.er.cell y c hc; exact ⟨o, e⟩
  have hCL : env.locals ≠ Cf := by obtain ⟨o, e⟩ := envO; rintro rfl; rw [hC] at e; cases e
  have hCc : ∀ y c, env.cells.lookup y = some c → c ≠ Cf := fun y c hc => by obtain ⟨o, e⟩ := cellO y c hc; rintro rfl; rw [hC] at e; cases e
  refine codeAny_compLoop_tests (fun k s' => ∃ i β' H' acc, k = items.length + 1 - i ∧ i ≤ items.length ∧ CompInv h₀ β s₂ I D Cf St i β' H' acc s' ∧ wLoop G (compStep C elt conds ρ x X) (items.drop i) acc H' kfin) ?_ (items.length + 1)
    ⟨0, β, H, [], by omega, by omega, inv0, hw⟩
  rintro k s' ⟨i, β', H', acc, rfl, hi, inv, hwl⟩
  obtain ⟨h', tk', rfl⟩ := inv.same
  by_cases hlt : i < items.length
  · -- one more
    obtain ⟨v, hv⟩ : ∃ v, items[i]? = some v := ⟨_, List.getElem?_eq_getElem hlt⟩
    have hdrop : items.drop i = v :: items.drop (i + 1) := by
      rw [List.drop_eq_getElem_cons hlt]
      congr 1
      rw [List.getElem?_eq_getElem hlt] at hv; exact Option.some.inj hv
    rw [hdrop] at hwl
    obtain ⟨hG, hstep⟩ := hwl
    refine itr.item i v β' H' _ _ _ hv inv.st inv.grow inv.sr hG inv.iout fun u h₁ tk₁ hvu hst₁ hk₁ => ?_
    obtain ⟨m, hns⟩ := inv.ns
    have hns₁ : h₁.Ns Cf m := Heap_Ns_at hns fun o e => hk₁ _ o hCI e
    have kind : (compEnvC scope (clFrom env.cells scope.names []) Cf env).kindOf (Str.ofString x) = some .local := by rw [compEnv_kind, ok.loc]; simp
    have hp : ((compEnvC scope (clFrom env.cells scope.names []) Cf env).scope.kind == .class || ((compEnvC scope (clFrom env.cells scope.names []) Cf env).scope.kind == .module && (compEnvC scope (clFrom env.cells scope.names []) Cf env).locals != (compEnvC scope (clFrom env.cells scope.names []) Cf env).globals)) = false := by
      show (scope.kind == .class || (scope.kind == .module && _)) = false
      rw [ok.kind]; rfl
    refine wpAny_assign_Name (wpAny_storeName_local (m := m) kind hns₁ (fun h₂ hn₂ hs₂ => ?_) hp)
    -- the state at the element
    have k2 : ∀ b o, b ≠ I → b ≠ Cf → h'.get? b = some o → h₂.get? b = some o := fun b o hb hb' e => hs₂.extBut b o hb' (hk₁ b o hb e)
    have notI : ∀ b ∈ β', b ≠ I := fun b hb e => inv.iout (e ▸ hb)
    have notC : ∀ b ∈ β', b ≠ Cf := fun b hb e => inv.cout (e ▸ hb)
    have hC₀ : h₀.get? Cf = Option.none := by
      cases e : h₀.get? Cf with
      | none => rfl
      | some o => have := a.sr.kept _ _ e; rw [hC] at this; cases this
    have sr₂ : SR h₀ β' H' h₂ := inv.sr.other fun b o e q => by
      refine k2 b o ?_ ?_ e
      · rcases q with q | ⟨o', q⟩
        · exact notI b q
        · rintro rfl; rw [hI₀] at q; cases q
      · rcases q with q | ⟨o', q⟩
        · exact notC b q
        · rintro rfl; rw [hC₀] at q; cases q
    have hDk : h₂.get? D = h'.get? D → True := fun _ => trivial
    obtain ⟨us, hpl, hus⟩ := inv.list
    have hpl₂ : h₂.PlainList D us.toArray := let ⟨q, e⟩ := hpl; ⟨q, k2 D _ hDI hDC e⟩
    have hst₂ : St (i + 1) h₂ := itr.frame _ _ _ hst₁ fun o e => hs₂.extBut I o (Ne.symm hCI) e
    have keep₂ : ∀ b o, s₂.heap.get? b = some o → b ∉ β → b ≠ I → h₂.get? b = some o := fun b o e hb hbI =>
      k2 b o hbI (by rintro rfl; rw [hC] at e; cases e) (inv.keep b o e hb hbI)
    have er₂ : ER env ρ β' h₂ := by
      have hl' : env.locals ∉ β' := fun hm => by
        rcases inv.fresh _ hm with q | q
        · exact a.er.locs q
        · obtain ⟨o, e⟩ := envO; rw [e] at q; cases q
      have hc' : ∀ y c, env.cells.lookup y = some c → c ∉ β' := fun y c hy hm => by
        rcases inv.fresh _ hm with q | q
        · exact (a.er.cells y c hy).1 q
        · obtain ⟨o, e⟩ := cellO y c hy; rw [e] at q; cases q
      exact (a.er.other (fun o e => keep₂ _ o e a.er.locs hIL) (fun y c hy o e => keep₂ c o e (a.er.cells y c hy).1 (hIc y c hy))).grow inv.grow hl' hc'
    have er' := comp_er (m := fun y => if y = Str.ofString x then some u else m y) er₂ a.sc ok hn₂ (by simp) hvu inv.cout hCc
    have at₂ : At P fs mg mb h₀ n scope (compEnvC scope (clFrom env.cells scope.names []) Cf env) (ρ.set x v) β' H' { s₂ with heap := h₂, toks := tk₁ + 1 } A :=
      ⟨a.names, a.amb, sr₂, er', comp_scr _ _ _ _⟩
    have base₂ : CompInv h₀ β s₂ I D Cf St (i + 1) β' H' acc { s₂ with heap := h₂, toks := tk₁ + 1 } :=
      ⟨⟨_, _, rfl⟩, hst₂, sr₂, inv.grow, keep₂, inv.fresh, inv.dout, inv.cout, inv.iout, ⟨us, hpl₂, hus⟩, Nat.le_succ_of_le inv.len, ⟨_, hn₂⟩⟩
    -- a step of the mini heap keeps the invariant
    have go : ∀ {β₁ β₃ : List Addr} {H₁ H₃ : Hp} {s₁ s₃ : Shared}, CompInv h₀ β s₂ I D Cf St (i + 1) β₁ H₁ acc s₁ → Step β₁ s₁ β₃ s₃ → SR h₀ β₃ H₃ s₃.heap → CompInv h₀ β s₂ I D Cf St (i + 1) β₃ H₃ acc s₃ := by
      intro β₁ β₃ H₁ H₃ s₁ s₃ c t sr₃
      obtain ⟨h1, t1, rfl⟩ := c.same
      obtain ⟨h3, t3, rfl⟩ := t.same
      have out : ∀ b, b ∉ β₁ → (∃ o, h1.get? b = some o) → b ∉ β₃ := fun b hb ⟨o, e⟩ hm => by
        rcases t.fresh b hm with q | q
        · exact hb q
        · have e' : h1.get? b = Option.none := q
          rw [e] at e'; cases e'
      obtain ⟨us, hpl, hus⟩ := c.list
      obtain ⟨m, hn⟩ := c.ns
      refine ⟨⟨_, _, rfl⟩, itr.frame _ _ _ c.st fun o e => t.keep I o e c.iout, sr₃, c.grow.trans t.grow, fun b o e hb hbI => ?_, fun b hb => ?_, out D c.dout ?_, out Cf c.cout ?_, out I c.iout (itr.live _ _ c.st),
        ⟨us, let ⟨q, e⟩ := hpl; ⟨q, t.keep D _ e c.dout⟩, VRs.mono t.grow hus⟩, c.len, ⟨m, Heap_Ns_at hn fun o e => t.keep Cf o e c.cout⟩⟩
      · refine t.keep b o (c.keep b o e hb hbI) fun hm => ?_
        rcases c.fresh b hm with q | q
        · exact hb q
        · rw [e] at q; cases q
      · rcases t.fresh b hb with q | q
        · exact c.fresh b q
        · by_cases hm : b ∈ β
          · exact .inl hm
          · by_cases hbI : b = I
            · subst hbI; obtain ⟨o, e⟩ := itr.live _ _ c.st; have q' : h1.get? b = Option.none := q; have e' : h1.get? b = some o := e; rw [e'] at q'; cases q'
            · refine .inr ?_
              cases e : s₂.heap.get? b with
              | none => rfl
              | some o => have := c.keep b o e hm hbI; have q' : h1.get? b = Option.none := q; have this' : h1.get? b = some o := this; rw [this'] at q'; cases q'
      · obtain ⟨q, e⟩ := hpl; exact ⟨_, e⟩
      · obtain ⟨o, _, _, e, _⟩ := hn; exact ⟨o, e⟩
    refine wpAny_mono (hT _ _ _ _ _ _ _ X _ at₂ hstep) (fun b s₃ h₃ => ?_) fun _ _ e => e
    obtain ⟨β₃, H₃, hb, t₃, sr₃⟩ := h₃
    have inv₃ := go base₂ t₃ sr₃
    cases b with
    | false =>
      simp only [Bool.false_eq_true, if_false]
      exact ⟨items.length + 1 - (i + 1), by omega, i + 1, β₃, H₃, acc, rfl, by omega, inv₃, hb.2 rfl⟩
    | true =>
      simp only [if_true]
      have at₃ := at₂.step t₃ sr₃
      refine wpAny_mono (hE _ _ _ _ _ _ _ X _ at₃ (hb.1 rfl)) (fun y s₄ h₄ => ?_) fun _ _ e => e
      obtain ⟨β₄, u', H₄, hk₄, t₄, sr₄, vr₄⟩ := h₄
      have inv₄ := go inv₃ t₄ sr₄
      obtain ⟨us₄, hpl₄, hus₄⟩ := inv₄.list
      have hD₀ : h₀.get? D = Option.none := by
        cases e : h₀.get? D with
        | none => rfl
        | some o => have := a.sr.kept _ _ e; rw [hD] at this; cases this
      refine wpAny_list_append_plain hpl₄ (fun h₅ hl₅ hs₅ => ?_) (by rw [List.size_toArray, ← hus₄.length]; have := inv₄.len; unfold sizeLine; unfold lim at hlen; omega)
      obtain ⟨h4, t4, rfl⟩ := inv₄.same
      refine ⟨items.length + 1 - (i + 1), by omega, i + 1, β₄, H₄, acc ++ [u'], rfl, by omega, ?_, hk₄⟩
      obtain ⟨m₄, hn₄⟩ := inv₄.ns
      refine ⟨⟨_, _, rfl⟩, itr.frame _ _ _ inv₄.st fun o e => hs₅.extBut I o (Ne.symm hDI) e, sr₄.other fun b o e q => hs₅.extBut b o ?_ e, inv₄.grow, fun b o e hb hbI => hs₅.extBut b o ?_ (inv₄.keep b o e hb hbI), inv₄.fresh, inv₄.dout, inv₄.cout, inv₄.iout,
        ⟨us₄ ++ [y], by rw [List.push_toArray] at hl₅; exact hl₅, hus₄.append (.cons vr₄ .nil)⟩, by rw [List.length_append]; have := inv.len; simp; omega, ⟨m₄, Heap_Ns_at hn₄ fun o e => hs₅.extBut Cf o (Ne.symm hDC) e⟩⟩
      · rcases q with q | ⟨o', q⟩
        · rintro rfl; exact inv₄.dout q
        · rintro rfl; rw [hD₀] at q; cases q
      · rintro rfl; rw [hD] at e; cases e
  · -- the end
    have hie : i = items.length := by omega
    subst hie
    rw [List.drop_length] at hwl
    obtain ⟨hG, hk⟩ := hwl
    refine itr.done β' H' _ _ _ inv.st inv.grow inv.sr hG inv.iout fun h₁ tk₁ hk₁ => ?_
    obtain ⟨us, ⟨q, hpl⟩, hus⟩ := inv.list
    obtain ⟨m, hn⟩ := inv.ns
    refine hR _ β' H' acc ⟨⟨_, _, rfl⟩, trivial, inv.sr.other fun b o e q => hk₁ b o ?_ e, inv.grow, fun b o e hb hbI => hk₁ b o hbI (inv.keep b o e hb hbI), inv.fresh, inv.dout, inv.cout, inv.iout, ⟨us, ⟨q, hk₁ D _ hDI hpl⟩, hus⟩, inv.len,
      ⟨m, Heap_Ns_at hn fun o e => hk₁ Cf o hCI e⟩⟩ hk
    rcases q with q | ⟨o', q⟩
    · rintro rfl; exact inv.iout q
    · rintro rfl; rw [hI₀] at q; cases q

end
end Mine

namespace Mine
open PySem

section
variable {prog : Program} {w : World} {h₀ : Heap} {P : Prog} {fs : List String} {mg mb : Str → Option Value} {n : Nat} {C : Ctx}

/-- the source of a loop, made ready: its iterator stands -/
noncomputable def SrcReady (prog : Program) (w : World) (A : Around) (h₀ : Heap) (β : List Addr) (s : Shared) (W : (Hp → Prop) → List V → Hp → Prop) (it : Value) (s₂ : Shared) : Prop :=
  ∃ β₁ H₁ s₁ G items, Made prog w A h₀ β₁ s₁ G items it s₂ ∧ Step β s β₁ s₁ ∧ SR h₀ β₁ H₁ s₁.heap ∧ items.length ≤ lim ∧ W G items H₁

/-- behind a comprehension, its list not yet in the mini heap -/
structure CompOut (h₀ : Heap) (β : List Addr) (s : Shared) (D Cf : Addr) (β' : List Addr) (H' : Hp) (acc : List V) (s' : Shared) : Prop where
  step : Step β s β' s'
  sr : SR h₀ β' H' s'.heap
  dout : D ∉ β'
  dnew : s.heap.get? D = Option.none
  cnew : s.heap.get? Cf = Option.none
  list : ∃ us, s'.heap.PlainList D us.toArray ∧ VRs β' acc us
  len : acc.length ≤ lim
  dc : D ≠ Cf
  cout : Cf ∉ β'

theorem comp_whole {A : Around} {Ex : Value → Shared → Prop} {sc scope : Scope} {env : PySem.Env} {ρ : Env} {β : List Addr} {H : Hp} {s : Shared} {x : String} {elt : E} {conds : List E} {el iter : Expr} {ifs : List Expr} {px pos pos' : Pos} {X : XP}
    {kfin : List V → Hp → Prop} {use : Option (Value → Sem Unit)} {Q : Value → Shared → Prop}
    (a : At P fs mg mb h₀ n sc env ρ β H s A) (ok : CompOk sc scope (Str.ofString x)) (hE : SoundE prog w h₀ P fs mg mb n C elt el scope) (hT : SoundIfs prog w h₀ P fs mg mb n C conds ifs scope)
    (hs : ∀ x, foldedSetIterable iter env x = pure x)
    (hsrc : wpAny (model prog w) A (eval iter env) (fun xv s₁ => wpAny (model prog w) A (pyIter xv) (SrcReady prog w A h₀ β s fun G items H₁ => wLoop G (compStep C elt conds ρ x X) items [] H₁ kfin) Ex s₁) Ex s)
    (hQ : ∀ D Cf β' H' acc s', CompOut h₀ β s D Cf β' H' acc s' → (∃ m, s'.heap.Ns Cf m) → kfin acc H' → compPost (model prog w) A Ex use Q (.ref D) Cf (.ok .next) s') :
    wpAny (model prog w) A (comprehension (.ListComp el [⟨.Name (Str.ofString x) px, iter, ifs, 0⟩] scope pos) scope env pos' (newList []) false (eval iter env) use) Q Ex s := by
  have hclos : closureFor scope env = pure (clFrom env.cells scope.names []) := closure_eq fun y hy => a.er.has y (by
    have h1 := ok.free y hy
    rw [← a.sc y] at h1
    cases hk : env.kindOf y with
    | none => rw [hk] at h1; cases h1
    | some k => rw [hk] at h1; cases k <;> first | exact .inl rfl | exact .inr rfl | cases h1)
  refine wpAny_comprehension_free rfl hs hclos ok.kind ok.names (wpAny_mono hsrc (fun xv s₁ h₁ => wpAny_mono h₁ (fun it s₂ h₂ => ?_) fun _ _ e => e) fun _ _ e => e)
  obtain ⟨β₁, H₁, s₁, G, items, ⟨I, St, hI, tkI, rfl, rfl, kI, nI, st0, itr⟩, t₁, sr₁, hlen, hw⟩ := h₂
  have a₁ := a.step t₁ sr₁
  have notNew : ∀ b, (∃ o, s₁.heap.get? b = some o) → b ≠ I := fun b ⟨o, e⟩ q => by rw [q, nI] at e; cases e
  have hIβ : I ∉ β₁ := fun hm => notNew I (sr₁.mem hm) rfl
  have hI₀ : h₀.get? I = Option.none := by
    cases e : h₀.get? I with
    | none => rfl
    | some o => exact absurd rfl (notNew I ⟨o, sr₁.kept _ _ e⟩)
  -- the list and the frame
  refine wpAny_newObj_type (wpAny_newFunctionEnv ok.nocell (by intro y hy; simp at hy) (fun h₃ hns₃ hsb₃ => ?_) ok.kind)
  dsimp only at hns₃ hsb₃ ⊢
  generalize hD : hI.objs.size = D at *
  have hCsz : (hI.push { cls := .type "list", dict := none, data := .seq ([] : List Value).toArray }).objs.size = D + 1 := by rw [Heap.size_push, hD]
  rw [hCsz] at hns₃ hsb₃ ⊢
  have old : ∀ b o, hI.get? b = some o → h₃.get? b = some o := fun b o e => by
    have hb : b ≠ D + 1 := by have := Heap.lt_size e; rw [hD] at this; exact Nat.ne_of_lt (Nat.lt_succ_of_lt this)
    exact hsb₃.extBut b o hb (Heap.get?_push_of_some _ (Heap.get?_push_of_some _ e))
  have hDnew : hI.get? D = Option.none := get_none_of_le (by rw [hD]; exact Nat.le_refl _)
  have hCnew : hI.get? (D + 1) = Option.none := get_none_of_le (by rw [hD]; exact Nat.le_succ _)
  have hDlist : h₃.PlainList D ([] : List Value).toArray := ⟨0, by
    have : (hI.push { cls := .type "list", dict := none, data := .seq ([] : List Value).toArray }).get? D = some { cls := .type "list", dict := none, data := .seq ([] : List Value).toArray } := by
      rw [← hD]; exact Heap.get?_push_size _ rfl
    exact hsb₃.extBut D _ (Nat.ne_of_lt (Nat.lt_succ_self _)) (Heap.get?_push_of_some _ this)⟩
  have hIex : ∃ o, hI.get? I = some o := itr.live _ _ st0
  have hDI : D ≠ I := fun e => by obtain ⟨o, q⟩ := hIex; rw [← e, hDnew] at q; cases q
  have hCI : D + 1 ≠ I := fun e => by obtain ⟨o, q⟩ := hIex; rw [← e, hCnew] at q; cases q
  have sr₂ : SR h₀ β₁ H₁ hI := sr₁.keeps kI
  have er₂ : ER env ρ β₁ hI := a₁.er.other (fun o e => kI _ _ e) (fun _ _ _ o e => kI _ _ e)
  have hdβ : D ∉ β₁ := fun hm => by obtain ⟨o, e⟩ := sr₂.mem hm; rw [hDnew] at e; cases e
  have hcβ : D + 1 ∉ β₁ := fun hm => by obtain ⟨o, e⟩ := sr₂.mem hm; rw [hCnew] at e; cases e
  have inv0 : CompInv h₀ β₁ { s₁ with heap := hI, toks := tkI } I D (D + 1) St 0 β₁ H₁ [] { s₁ with heap := h₃, toks := tkI + 0 } :=
    ⟨⟨_, _, rfl⟩, itr.frame _ _ _ st0 fun o e => old I o e, sr₂.keeps old, List.prefix_refl _, fun b o e _ _ => old b o e, fun b hb => .inl hb, hdβ, hcβ, hIβ, ⟨[], hDlist, .nil⟩, Nat.le_refl _, ⟨_, hns₃⟩⟩
  have a₂ : At P fs mg mb h₀ n sc env ρ β₁ H₁ { s₁ with heap := hI, toks := tkI } A := ⟨a.names, a.amb, sr₂, er₂, a.sc⟩
  have envO : ∃ o, s₁.heap.get? env.locals = some o := by obtain ⟨m, ⟨o, _, _, e, _⟩, _⟩ := a₁.er.ns; exact ⟨o, e⟩
  have loop := comp_loop (px := px) (iter := iter) (pos := pos) (R := compPost (model prog w) A Ex use Q (.ref D) (D + 1)) a₂ itr hIβ (notNew _ envO) (fun y c hy => notNew c (by obtain ⟨u, o, e, _⟩ := a₁.er.cell y c hy; exact ⟨o, e⟩)) ok hlen hE hT hI₀ hDnew hCnew (Nat.ne_of_lt (Nat.lt_succ_self _)) hDI hCI inv0 hw
    (fun s' β' H' acc inv hk => hQ D (D + 1) β' H' acc s' (by
      obtain ⟨h', tk', rfl⟩ := inv.same
      obtain ⟨h1, t1, rfl⟩ := t₁.same
      have up : ∀ b o, s.heap.get? b = some o → b ∉ β → hI.get? b = some o := fun b o e hb => kI b o (t₁.keep b o e hb)
      refine ⟨⟨⟨_, _, rfl⟩, t₁.grow.trans inv.grow, fun b o e hb => ?_, fun b hb => ?_⟩, inv.sr, inv.dout, ?_, ?_, inv.list, Nat.le_trans inv.len hlen, Nat.ne_of_lt (Nat.lt_succ_self _), inv.cout⟩
      · have hb1 : b ∉ β₁ := fun hm => by
          rcases t₁.fresh b hm with q | q
          · exact hb q
          · rw [e] at q; cases q
        exact inv.keep b o (up b o e hb) hb1 (notNew b ⟨o, t₁.keep b o e hb⟩)
      · rcases inv.fresh b hb with q | q
        · exact t₁.fresh b q
        · by_cases hm : b ∈ β
          · exact .inl hm
          · refine .inr ?_
            cases e : s.heap.get? b with
            | none => rfl
            | some o => have := up b o e hm; have q' : hI.get? b = Option.none := q; rw [this] at q'; cases q'
      · cases e : s.heap.get? D with
        | none => rfl
        | some o =>
          by_cases hm : D ∈ β
          · exact absurd (t₁.grow.subset hm) hdβ
          · have := up D o e hm; rw [hDnew] at this; cases this
      · cases e : s.heap.get? (D + 1) with
        | none => rfl
        | some o =>
          by_cases hm : D + 1 ∈ β
          · exact absurd (t₁.grow.subset hm) hcβ
          · have := up _ o e hm; rw [hCnew] at this; cases this) inv.ns hk)
  exact codeAny_compStart_list loop (itr.self 0 _ _ _ inv0.st loop)

/-- the list goes into the mini heap -/
theorem CompOut.adopt {β : List Addr} {s : Shared} {D Cf : Addr} {β' : List Addr} {H' : Hp} {acc : List V} {s' : Shared} (c : CompOut h₀ β s D Cf β' H' acc s') (kept : ∀ b o, h₀.get? b = some o → s.heap.get? b = some o) :
    Step β s (β' ++ [D]) s' ∧ SR h₀ (β' ++ [D]) (H' ++ [.list acc]) s'.heap ∧ VR (β' ++ [D]) (.ref H'.length) (.ref D) := by
  obtain ⟨us, ⟨q, hpl⟩, hus⟩ := c.list
  have hD₀ : h₀.get? D = Option.none := by
    cases e : h₀.get? D with
    | none => rfl
    | some o => have := kept _ _ e; rw [c.dnew] at this; cases this
  refine ⟨⟨c.step.same, c.step.grow.trans (List.prefix_append _ _), c.step.keep, fun b hb => ?_⟩, c.sr.adopt c.dout hD₀ hpl (.list hus c.len), .ref (by rw [c.sr.len]; simp)⟩
  rcases List.mem_append.mp hb with q | q
  · exact c.step.fresh b q
  · simp at q; subst q; exact .inr c.dnew

/-- the comprehension as a value -/
theorem comp_value {A : Around} {Ex : Value → Shared → Prop} {sc scope : Scope} {env : PySem.Env} {ρ : Env} {β : List Addr} {H : Hp} {s : Shared} {x : String} {elt : E} {conds : List E} {el iter : Expr} {ifs : List Expr} {px pos : Pos} {X : XP} {Q : Post}
    (a : At P fs mg mb h₀ n sc env ρ β H s A) (ok : CompOk sc scope (Str.ofString x)) (hE : SoundE prog w h₀ P fs mg mb n C elt el scope) (hT : SoundIfs prog w h₀ P fs mg mb n C conds ifs scope)
    (hs : ∀ x, foldedSetIterable iter env x = pure x)
    (hsrc : wpAny (model prog w) A (eval iter env) (fun xv s₁ => wpAny (model prog w) A (pyIter xv) (SrcReady prog w A h₀ β s fun G items H₁ => wLoop G (compStep C elt conds ρ x X) items [] H₁ (fun acc H5 => Q (.ref H5.length) (H5 ++ [.list acc]))) Ex s₁) Ex s) :
    wpAny (model prog w) A (eval (.ListComp el [⟨.Name (Str.ofString x) px, iter, ifs, 0⟩] scope pos) env) (PE h₀ β s Q) Ex s := by
  rw [eval_ListComp]
  refine comp_whole (use := none) a ok hE hT hs hsrc fun D Cf β' H' acc s' c hns hk => ?_
  obtain ⟨m, hn⟩ := hns
  refine ⟨m, hn, fun h'' hs'' => ?_⟩
  obtain ⟨h', tk', rfl⟩ := c.step.same
  obtain ⟨us, ⟨q, hpl⟩, hus⟩ := c.list
  have hC₀ : h₀.get? Cf = Option.none := by
    cases e : h₀.get? Cf with
    | none => rfl
    | some o => have := a.sr.kept _ _ e; rw [c.cnew] at this; cases this
  have c' : CompOut h₀ β s D Cf β' H' acc { s with heap := h'', toks := tk' } := by
    refine ⟨⟨⟨_, _, rfl⟩, c.step.grow, fun b o e hb => hs''.extBut b o ?_ (c.step.keep b o e hb), c.step.fresh⟩, c.sr.other fun b o e q => hs''.extBut b o ?_ e, c.dout, c.dnew, c.cnew, ⟨us, ⟨q, hs''.extBut D _ c.dc hpl⟩, hus⟩, c.len, c.dc, c.cout⟩
    · rintro rfl; rw [c.cnew] at e; cases e
    · rcases q with q | ⟨o', q⟩
      · rintro rfl; exact c.cout q
      · rintro rfl; rw [hC₀] at q; cases q
  obtain ⟨st, sr, vr⟩ := c'.adopt a.sr.kept
  exact ⟨_, _, _, hk, st, sr, vr⟩

end
end Mine

namespace Mine
open PySem

section
variable {prog : Program} {w : World} {h₀ : Heap} {P : Prog} {fs : List String} {mg mb : Str → Option Value} {n : Nat} {C : Ctx}

noncomputable def Snd (prog : Program) (w : World) (h₀ : Heap) (P : Prog) (fs : List String) (mg mb : Str → Option Value) (n : Nat) (C : Ctx) (sc : Scope) (e : E) (x : Expr) : Prop :=
  SoundE prog w h₀ P fs mg mb n C e x sc ∧ SoundT prog w h₀ P fs mg mb n C e x sc

theorem PE.now {β : List Addr} {H : Hp} {s : Shared} {Q : Post} {v : V} {u : Value} (hq : Q v H) (sr : SR h₀ β H s.heap) (vr : VR β v u) : PE h₀ β s Q u s := ⟨β, v, H, hq, Step.refl β s, sr, vr⟩
theorem PE.tok {β : List Addr} {H : Hp} {s : Shared} {Q : Post} {v : V} {u : Value} {t : Nat} (hq : Q v H) (sr : SR h₀ β H s.heap) (vr : VR β v u) : PE h₀ β s Q u { s with toks := t } := ⟨β, v, H, hq, Step.toks β s t, sr, vr⟩

variable {sc : Scope} {env : PySem.Env} {ρ : Env} {A : Around} {E' : Value → Shared → Prop}

theorem list_of {es : List E} {xs : List Expr} (hA : All2 (Snd prog w h₀ P fs mg mb n C sc) es xs) : ∀ {β : List Addr} {H : Hp} {s : Shared} {Q : List V → Hp → Prop} {X : XP}, At P fs mg mb h₀ n sc env ρ β H s A → wEs C es ρ H Q X →
    wpList prog w A env xs (PEs h₀ β s Q) E' s := by
  induction hA with
  | nil => intro β H s Q X a hw; exact ⟨β, [], H, hw, Step.refl β s, a.sr, .nil⟩
  | cons h _ ih =>
    intro β H s Q X a hw
    refine wpAny_mono (h.1 env ρ β H s A _ X E' a hw) (fun u s1 h1 => ?_) fun _ _ e => e
    obtain ⟨β1, v, H1, hw1, t1, sr1, vr1⟩ := h1
    refine wpList_mono (ih (a.step t1 sr1) hw1) fun us s2 h2 => ?_
    obtain ⟨β2, vs, H2, hq, t2, sr2, vr2⟩ := h2
    exact ⟨β2, v :: vs, H2, hq, t1.trans t2, sr2, .cons (vr1.mono t2.grow) vr2⟩

theorem ready_of {p : Prim} {β : List Addr} {s s1 : Shared} {Q : Post} {us : List Value} (h : PEs h₀ β s (fun vs H1 => wP p vs H1 Q) us s1) : Ready h₀ p (PE h₀ β s Q) us s1 := by
  obtain ⟨β1, vs, H1, hw, t1, sr1, vr1⟩ := h
  unfold wP at hw
  split at hw
  · rename_i v H2 hp
    exact ⟨β1, vs, H1, v, H2, hp, vr1, sr1, fun u s' β' st sr vr => (⟨β', v, H2, hw, t1.trans st, sr, vr⟩ : PE h₀ β s Q u s')⟩
  · exact hw.elim

theorem and_true {es : List E} {xs : List Expr} (hA : All2 (Snd prog w h₀ P fs mg mb n C sc) es xs) : ∀ {β : List Addr} {H : Hp} {s : Shared} {k : Bool → Hp → Prop} {X : XP}, At P fs mg mb h₀ n sc env ρ β H s A → wAnd C es ρ H k X →
    wpAny (model prog w) A (allTrue .And xs env) (PB h₀ β s k) E' s := by
  induction hA with
  | nil => intro β H s k X a hw; exact wpAny_allTrue_And_nil ⟨β, H, hw, Step.refl β s, a.sr⟩
  | cons h _ ih =>
    intro β H s k X a hw
    refine wpAny_allTrue_And_cons (wpAny_mono (h.2 env ρ β H s A _ X E' a hw) (fun b s1 h1 => ?_) fun _ _ e => e)
    obtain ⟨β1, H1, hb, t1, sr1⟩ := h1
    cases b with
    | true => exact wpAny_mono (ih (a.step t1 sr1) (hb.1 rfl)) (fun _ _ q => q.after t1) fun _ _ e => e
    | false => exact ⟨β1, H1, hb.2 rfl, t1, sr1⟩

theorem or_true {es : List E} {xs : List Expr} (hA : All2 (Snd prog w h₀ P fs mg mb n C sc) es xs) : ∀ {β : List Addr} {H : Hp} {s : Shared} {k : Bool → Hp → Prop} {X : XP}, At P fs mg mb h₀ n sc env ρ β H s A → wOr C es ρ H k X →
    wpAny (model prog w) A (allTrue .Or xs env) (PB h₀ β s k) E' s := by
  induction hA with
  | nil => intro β H s k X a hw; exact wpAny_allTrue_Or_nil ⟨β, H, hw, Step.refl β s, a.sr⟩
  | cons h _ ih =>
    intro β H s k X a hw
    refine wpAny_allTrue_Or_cons (wpAny_mono (h.2 env ρ β H s A _ X E' a hw) (fun b s1 h1 => ?_) fun _ _ e => e)
    obtain ⟨β1, H1, hb, t1, sr1⟩ := h1
    cases b with
    | true => exact ⟨β1, H1, hb.1 rfl, t1, sr1⟩
    | false => exact wpAny_mono (ih (a.step t1 sr1) (hb.2 rfl)) (fun _ _ q => q.after t1) fun _ _ e => e

theorem boolOp_one {M : Model} {pos : Pos} {op : BoolOp} {x : Sem Value} {Q : Value → Shared → Prop} {s : Shared} (h : wpAny M A x Q E' s) : wpAny M A (boolOp pos op [x]) Q E' s := h
theorem boolOp_cons {M : Model} {pos : Pos} {op : BoolOp} {x y : Sem Value} {rest : List (Sem Value)} {Q : Value → Shared → Prop} {s : Shared}
    (h : wpAny M A x (fun v s1 => wpAny M A (truthy v) (fun t s2 => match op, t with | .And, false | .Or, true => Q v s2 | _, _ => wpAny M A (boolOp pos op (y :: rest)) Q E' s2) E' s1) E' s) :
    wpAny M A (boolOp pos op (x :: y :: rest)) Q E' s := by
  unfold boolOp
  refine wpAny_bind (wpAny_mono h (fun v s1 h1 => wpAny_bind (wpAny_standAt (wpAny_bind (wpAny_holding (wpAny_mono h1 (fun t s2 h2 => ?_) fun _ _ e => e))))) fun _ _ e => e)
  cases op <;> cases t <;> first | exact wpAny_pure h2 | exact h2

theorem bool_of {v : V} {β : List Addr} {u : Value} {k : Bool → Prop} (h : wB v k) (vr : VR β v u) : ∃ b, v = .bool b ∧ u = .bool b ∧ k b := by
  cases vr with
  | bool b => exact ⟨b, rfl, rfl, h⟩
  | _ => exact h.elim

theorem and_val {es : List E} {xs : List Expr} (hA : All2 (Snd prog w h₀ P fs mg mb n C sc) es xs) : ∀ {β : List Addr} {H : Hp} {s : Shared} {Q : Post} {X : XP} {pos : Pos}, xs ≠ [] → At P fs mg mb h₀ n sc env ρ β H s A →
    wAnd C es ρ H (fun b H1 => Q (.bool b) H1) X → wpAny (model prog w) A (boolOp pos .And (evalEach xs env)) (PE h₀ β s Q) E' s := by
  induction hA with
  | nil => intro β H s Q X pos hne; exact absurd rfl hne
  | @cons e x es xs h t ih =>
    intro β H s Q X pos _ a hw
    cases t with
    | nil =>
      show wpAny _ _ (boolOp pos .And [eval x env]) _ _ _
      refine boolOp_one (wpAny_mono (h.1 env ρ β H s A _ X E' a hw) (fun u s1 h1 => ?_) fun _ _ e => e)
      obtain ⟨β1, v, H1, hb, t1, sr1, vr1⟩ := h1
      obtain ⟨b, rfl, rfl, hk⟩ := bool_of hb vr1
      cases b with
      | true => exact ⟨β1, _, H1, hk.1 rfl, t1, sr1, .bool _⟩
      | false => exact ⟨β1, _, H1, hk.2 rfl, t1, sr1, .bool _⟩
    | @cons e' x' es' xs' h' t' =>
      show wpAny _ _ (boolOp pos .And (eval x env :: eval x' env :: evalEach xs' env)) _ _ _
      refine boolOp_cons (wpAny_mono (h.1 env ρ β H s A _ X E' a hw) (fun u s1 h1 => ?_) fun _ _ e => e)
      obtain ⟨β1, v, H1, hb, t1, sr1, vr1⟩ := h1
      obtain ⟨b, rfl, rfl, hk⟩ := bool_of hb vr1
      refine wpAny_truthy_bool ?_
      cases b with
      | true => exact wpAny_mono (ih (by simp) (a.step t1 sr1) (hk.1 rfl)) (fun _ _ q => q.after t1) fun _ _ e => e
      | false => exact ⟨β1, _, H1, hk.2 rfl, t1, sr1, .bool _⟩

theorem or_val {es : List E} {xs : List Expr} (hA : All2 (Snd prog w h₀ P fs mg mb n C sc) es xs) : ∀ {β : List Addr} {H : Hp} {s : Shared} {Q : Post} {X : XP} {pos : Pos}, xs ≠ [] → At P fs mg mb h₀ n sc env ρ β H s A →
    wOr C es ρ H (fun b H1 => Q (.bool b) H1) X → wpAny (model prog w) A (boolOp pos .Or (evalEach xs env)) (PE h₀ β s Q) E' s := by
  induction hA with
  | nil => intro β H s Q X pos hne; exact absurd rfl hne
  | @cons e x es xs h t ih =>
    intro β H s Q X pos _ a hw
    cases t with
    | nil =>
      show wpAny _ _ (boolOp pos .Or [eval x env]) _ _ _
      refine boolOp_one (wpAny_mono (h.1 env ρ β H s A _ X E' a hw) (fun u s1 h1 => ?_) fun _ _ e => e)
      obtain ⟨β1, v, H1, hb, t1, sr1, vr1⟩ := h1
      obtain ⟨b, rfl, rfl, hk⟩ := bool_of hb vr1
      cases b with
      | true => exact ⟨β1, _, H1, hk.1 rfl, t1, sr1, .bool _⟩
      | false => exact ⟨β1, _, H1, hk.2 rfl, t1, sr1, .bool _⟩
    | @cons e' x' es' xs' h' t' =>
      show wpAny _ _ (boolOp pos .Or (eval x env :: eval x' env :: evalEach xs' env)) _ _ _
      refine boolOp_cons (wpAny_mono (h.1 env ρ β H s A _ X E' a hw) (fun u s1 h1 => ?_) fun _ _ e => e)
      obtain ⟨β1, v, H1, hb, t1, sr1, vr1⟩ := h1
      obtain ⟨b, rfl, rfl, hk⟩ := bool_of hb vr1
      refine wpAny_truthy_bool ?_
      cases b with
      | true => exact ⟨β1, _, H1, hk.1 rfl, t1, sr1, .bool _⟩
      | false => exact wpAny_mono (ih (by simp) (a.step t1 sr1) (hk.2 rfl)) (fun _ _ q => q.after t1) fun _ _ e => e

theorem ifs_of {es : List E} {xs : List Expr} (hA : All2 (Snd prog w h₀ P fs mg mb n C sc) es xs) (hl : xs.length ≤ 1) : SoundIfs prog w h₀ P fs mg mb n C es xs sc := by
  intro env ρ β H s A k X E' a hw
  cases hA with
  | nil => exact wpAny_tests_nil ⟨β, H, hw, Step.refl β s, a.sr⟩
  | cons h t =>
    cases t with
    | nil =>
      refine wpAny_tests_one (wpAny_mono (h.2 env ρ β H s A _ X E' a hw) (fun b s1 h1 => ?_) fun _ _ e => e)
      obtain ⟨β1, H1, hb, t1, sr1⟩ := h1
      cases b with
      | true => exact ⟨β1, H1, hb.1 rfl, t1, sr1⟩
      | false => exact ⟨β1, H1, hb.2 rfl, t1, sr1⟩
    | cons _ _ => simp at hl

theorem seqOf_len {β : List Addr} {H : Hp} {s : Shared} {a : Nat} {r : Addr} {xs : List V} (sr : SR h₀ β H s.heap) (ha : seqOf H a = some xs) (hr : β[a]? = some r) : xs.length ≤ lim := let ⟨_, _, _, h⟩ := sr.isSeq ha hr; h

theorem rangeOf_len {vs : List V} {is : List Int} (h : rangeOf vs = some is) : is.length ≤ lim := by
  have key : ∀ a b c : Int, 0 ≤ a → b.natAbs ≤ lim → 0 < c → (rangeI a b c).length ≤ lim := by
    intro a b c ha hb hc
    rw [rangeI_length]
    split
    · have h2 : (b - a - 1) / c ≤ b - a - 1 := Int.ediv_le_self _ (by omega)
      omega
    · simp
  unfold rangeOf at h
  split at h
  · split at h
    · rename_i hb; cases h; exact key _ _ _ (by omega) hb (by omega)
    · cases h
  · split at h
    · rename_i hb; cases h; exact key _ _ _ hb.1 hb.2.2 (by omega)
    · cases h
  · split at h
    · rename_i hb; cases h; exact key _ _ _ hb.1 hb.2.2.1 hb.2.2.2.1
    · cases h
  · cases h

theorem isTrue_op {p : Prim} {x : Expr} {xs : List Expr} (ho : OpA sc p x xs) (hp : ∀ o, p ≠ .cmp o) : ∀ env, isTrue x env (eval x env) = (do let v ← eval x env; standAt x.pos; holding [v] (truthy v)) := by
  intro env
  cases ho with
  | cmp o _ => exact absurd rfl (hp _)
  | _ => rfl

theorem range_folded {g : Expr} {xs : List Expr} {pos : Pos} : ∀ v, foldedSetIterable (.Call g xs [] pos) env v = pure v := fun _ => rfl

/-- the source of a comprehension or a loop: range( .. ) -/
theorem src_range {args : List E} {xs : List Expr} {p pos : Pos} {β : List Addr} {H : Hp} {s : Shared} {W : (Hp → Prop) → List V → Hp → Prop} {X : XP} (hA : All2 (Snd prog w h₀ P fs mg mb n C sc) args xs) (hp : xs.all plainE = true) (hgl : isGlb sc (Str.ofString "range") = true)
    (a : At P fs mg mb h₀ n sc env ρ β H s A) (hw : wEs C args ρ H (fun vs H1 => match rangeOf vs with | some is => W (fun _ => True) (is.map .int) H1 | none => False) X) :
    wpAny (model prog w) A (eval (.Call (.Name (Str.ofString "range") p) xs [] pos) env) (fun xv s₁ => wpAny (model prog w) A (pyIter xv) (SrcReady prog w A h₀ β s W) E' s₁) E' s := by
  refine (a.frm.keeps a.sr.kept).callT hgl rfl hp (wpList_mono (list_of hA a hw) fun us s1 h1 => ?_)
  obtain ⟨β1, vs, H1, hr, t1, sr1, vr1⟩ := h1
  split at hr
  · rename_i is hr'
    refine wpAny_mono (iter_range (h₀ := h₀) a.amb.handled vr1 hr') (fun x s2 h2 => wpAny_mono h2 (fun it s3 h3 => ?_) fun _ _ e => e) fun _ _ e => e
    exact ⟨β1, H1, s1, _, _, h3, t1, sr1, by rw [List.length_map]; exact rangeOf_len hr', hr⟩
  · exact hr.elim

/-- .. or a sequence -/
theorem src_seq {src : E} {x : Expr} {β : List Addr} {H : Hp} {s : Shared} {W : (Hp → Prop) → List V → Hp → Prop} {X : XP} (hE : Snd prog w h₀ P fs mg mb n C sc src x) (a : At P fs mg mb h₀ n sc env ρ β H s A)
    (hw : wE C src ρ H (fun vs H1 => match vs with | .ref a => (match seqOf H1 a with | some items => W (fun H' => H'[a]? = H1[a]?) items H1 | none => False) | _ => False) X) :
    wpAny (model prog w) A (eval x env) (fun xv s₁ => wpAny (model prog w) A (pyIter xv) (SrcReady prog w A h₀ β s W) E' s₁) E' s := by
  refine wpAny_mono (hE.1 env ρ β H s A _ X E' a hw) (fun u s1 h1 => ?_) fun _ _ e => e
  obtain ⟨β1, v, H1, hr, t1, sr1, vr1⟩ := h1
  cases vr1 with
  | @ref b r hb =>
    simp only at hr
    split at hr
    · rename_i items hs
      refine wpAny_mono (iter_seq (h₀ := h₀) a.amb.handled sr1 hb hs) (fun it s3 h3 => ?_) fun _ _ e => e
      exact ⟨β1, H1, s1, _, _, h3, t1, sr1, seqOf_len sr1 hs hb, hr⟩
    · exact hr.elim
  | _ => exact hr.elim

theorem folded_of {e : E} {x : Expr} (h : ME fs sc e x) : ∀ v, foldedSetIterable x env v = pure v := by
  intro v
  cases h with
  | op ho _ => cases ho <;> rfl
  | _ => rfl

end
end Mine

namespace Mine
open PySem

section
variable {prog : Program} {w : World} {h₀ : Heap} {P : Prog} {fs : List String} {mg mb : Str → Option Value} {n : Nat} {C : Ctx}

theorem call_sound {sc : Scope} {f : String} {args : List E} {xs : List Expr} {p pos : Pos} (hC : CallOK prog w h₀ fs mg n C.call) (hf : f ∈ fs) (hg : isGlb sc (Str.ofString f) = true) (hp : xs.all plainE = true) (hA : All2 (Snd prog w h₀ P fs mg mb n C sc) args xs) :
    Snd prog w h₀ P fs mg mb n C sc (.call f args) (.Call (.Name (Str.ofString f) p) xs [] pos) := by
  have hE : SoundE prog w h₀ P fs mg mb n C (.call f args) (.Call (.Name (Str.ofString f) p) xs [] pos) sc := by
    intro env ρ β H s A Q X E' a hw
    simp only [wE] at hw
    obtain ⟨r, ob, fd, hr, ho, hd⟩ := a.names.fn f hf
    obtain ⟨hk, hdb⟩ := isGlb_kind hg a.sc
    refine wpAny_Call_Name_kw (name_global a.er.kind a.er.glob (a.names.keeps a.sr.kept).g hk hdb hr ?_)
    refine Calls.callWith_function (o := ob) (fd := fd) (wpList_args hp (wpList_mono (list_of hA a hw) fun us s1 h1 => ?_))
    obtain ⟨β1, vs, H1, hcall, t1, sr1, vr1⟩ := h1
    refine ⟨⟨sr1.kept _ _ ho, hd⟩, ?_⟩
    rw [List.nil_append]
    exact wpAny_mono (hC f hf r hr vs H1 Q X hcall A β1 s1 E' us a.amb sr1 vr1) (fun _ _ q => q.after t1) fun _ _ e => e
  exact ⟨hE, hE.toT fun _ => rfl⟩

theorem op_snd {sc : Scope} {p : Prim} {args : List E} {x : Expr} {xs : List Expr} (ho : OpA sc p x xs) (hp : xs.all plainE = true) (hA : All2 (Snd prog w h₀ P fs mg mb n C sc) args xs) : Snd prog w h₀ P fs mg mb n C sc (.op p args) x := by
  have hE : SoundE prog w h₀ P fs mg mb n C (.op p args) x sc := by
    intro env ρ β H s A Q X E' a hw
    simp only [wE] at hw
    exact op_sound ho hp a.frm a.sr.kept a.amb (wpList_mono (list_of hA a hw) fun us s1 h1 => ready_of h1)
  refine ⟨hE, ?_⟩
  by_cases hc : ∃ o, p = .cmp o
  · obtain ⟨o, rfl⟩ := hc
    intro env ρ β H s A k X E' a hw
    simp only [wE] at hw
    cases ho with
    | cmp _ hm =>
      refine wpAny_isTrue_Compare1 (wpAny_mono (list_of hA a hw) (fun a' s1 h1 => wpAny_mono h1 (fun b' s2 h2 => ?_) fun _ _ e => e) fun _ _ e => e) hm
      obtain ⟨β1, vs, H1, v, H2, hpr, vr, sr, kk⟩ := ready_of h2
      obtain ⟨v1, v2, rfl, va, vb⟩ := vrs2 vr
      obtain ⟨rr, hr, e⟩ := Option.map_eq_some_iff.mp hpr
      cases e
      refine cmp_sound hr va vb a.amb.room (fun u s' β' st sr' vr' => ?_) sr
      obtain ⟨β3, v3, H3, hb3, t3, sr3, vr3⟩ := kk u s' β' st sr' vr'
      exact truthy_of hb3 t3 sr3 vr3
  · exact hE.toT (isTrue_op ho fun o e => hc ⟨o, e⟩)

mutual
theorem sound (hC : CallOK prog w h₀ fs mg n C.call) (hG : C.glob = P.glob) : ∀ (e : E) (x : Expr) (sc : Scope), ME fs sc e x → Snd prog w h₀ P fs mg mb n C sc e x
  | .none, x, sc, h => by
    cases h with
    | none =>
      have hE : ∀ {kk pos}, SoundE prog w h₀ P fs mg mb n C .none (.Constant .none kk pos) sc := fun env ρ β H s A Q X E' a hw => wpAny_Constant_none (PE.now (by simpa only [wE] using hw) a.sr .none)
      exact ⟨hE, hE.toT fun _ => rfl⟩
  | .bool b, x, sc, h => by
    cases h with
    | bool =>
      have hE : ∀ {kk pos}, SoundE prog w h₀ P fs mg mb n C (.bool b) (.Constant (.bool b) kk pos) sc := fun env ρ β H s A Q X E' a hw => wpAny_Constant_bool (PE.now (by simpa only [wE] using hw) a.sr (.bool _))
      exact ⟨hE, hE.toT fun _ => rfl⟩
  | .int i, x, sc, h => by
    cases h with
    | int =>
      have hE : ∀ {kk pos}, SoundE prog w h₀ P fs mg mb n C (.int i) (.Constant (.int i) kk pos) sc := fun env ρ β H s A Q X E' a hw => wpAny_Constant_int (PE.tok (by simpa only [wE] using hw) a.sr (.int _ _))
      exact ⟨hE, hE.toT fun _ => rfl⟩
  | .str y, x, sc, h => by
    cases h with
    | str =>
      have hE : ∀ {kk pos}, SoundE prog w h₀ P fs mg mb n C (.str y) (.Constant (.str (Str.ofString y)) kk pos) sc := fun env ρ β H s A Q X E' a hw => wpAny_Constant_str (PE.tok (by simpa only [wE] using hw) a.sr (.str _ _))
      exact ⟨hE, hE.toT fun _ => rfl⟩
  | .var y, x, sc, h => by
    cases h with
    | var h =>
      have hE : ∀ {pos}, SoundE prog w h₀ P fs mg mb n C (.var y) (.Name (Str.ofString y) pos) sc := by
        intro pos env ρ β H s A Q X E' a hw
        simp only [wE] at hw
        split at hw
        · rename_i v hv; exact sound_var a h hv fun u hu => PE.now hw a.sr hu
        · exact hw.elim
      exact ⟨hE, hE.toT fun _ => rfl⟩
  | .glob y, x, sc, h => by
    cases h with
    | glob hg =>
      have hE : ∀ {pos}, SoundE prog w h₀ P fs mg mb n C (.glob y) (.Name (Str.ofString y) pos) sc := by
        intro pos env ρ β H s A Q X E' a hw
        simp only [wE] at hw
        split at hw
        · rename_i v hv
          rw [hG] at hv
          obtain ⟨u, hu, hr⟩ := a.names.glob y v hv
          obtain ⟨hk, hd⟩ := isGlb_kind hg a.sc
          exact name_global a.er.kind a.er.glob (a.names.keeps a.sr.kept).g hk hd hu (PE.now hw a.sr hr.nil_any)
        · exact hw.elim
      exact ⟨hE, hE.toT fun _ => rfl⟩
  | .op p args, x, sc, h => by
    cases h with
    | op ho h => exact op_snd ho h.plain (soundAll hC hG args _ sc h)
  | .mcall p o args, x, sc, h => by
    cases h with
    | @mcall _ _ m _ o' x1 _ apos pos hm h2 h4 h5 h6 =>
      have hO := sound hC hG o o' sc h5
      have hA := soundAll hC hG args _ sc h6
      have hpl := h6.plain
      have hE : SoundE prog w h₀ P fs mg mb n C (.mcall p o args) (.Call (.Attribute o' (Str.ofString m) apos) [x1] [] pos) sc := by
        intro env ρ β H s A Q X E' a hw
        simp only [wE] at hw
        refine meth_sound (h₀ := h₀) hm h2 (by simpa using hpl) h4 (wpAny_mono (hO.1 env ρ β H s A _ X E' a hw) (fun ov s1 h1 => ?_) fun _ _ e => e)
        obtain ⟨β1, v, H1, ⟨hr, hw1⟩, t1, sr1, vr1⟩ := h1
        refine ⟨⟨β1, v, H1, hr, vr1, sr1⟩, wpAny_mono (list_of hA (a.step t1 sr1) hw1) (fun u s2 h2 => ?_) fun _ _ e => e⟩
        obtain ⟨β2, vs, H2, hp2, t2, sr2, vr2⟩ := h2
        exact ready_of ⟨β2, v :: vs, H2, hp2, t1.trans t2, sr2, .cons (vr1.mono t2.grow) vr2⟩
      exact ⟨hE, hE.toT fun _ => rfl⟩
  | .and_ es, x, sc, h => by
    cases h with
    | and_ h =>
      have hA := soundAll hC hG es _ sc h
      refine ⟨fun env ρ β H s A Q X E' a hw => ?_, fun env ρ β H s A k X E' a hw => ?_⟩
      · simp only [wE] at hw
        exact and_val hA (List.cons_ne_nil _ _) a hw
      · simp only [wE] at hw
        exact wpAny_isTrue_BoolOp (and_true hA a hw)
  | .or_ es, x, sc, h => by
    cases h with
    | or_ h =>
      have hA := soundAll hC hG es _ sc h
      refine ⟨fun env ρ β H s A Q X E' a hw => ?_, fun env ρ β H s A k X E' a hw => ?_⟩
      · simp only [wE] at hw
        exact or_val hA (List.cons_ne_nil _ _) a hw
      · simp only [wE] at hw
        exact wpAny_isTrue_BoolOp (or_true hA a hw)
  | .not_ e, x, sc, h => by
    cases h with
    | @not_ _ _ y _ h =>
      have hS := sound hC hG e y sc h
      refine ⟨fun env ρ β H s A Q X E' a hw => ?_, fun env ρ β H s A k X E' a hw => ?_⟩
      · simp only [wE] at hw
        refine wpAny_UnaryOp (wpAny_mono (hS.1 env ρ β H s A _ X E' a hw) (fun u s1 h1 => ?_) fun _ _ e => e)
        obtain ⟨β1, v, H1, hb, t1, sr1, vr1⟩ := h1
        obtain ⟨b, rfl, rfl, hk⟩ := bool_of hb vr1
        exact not_value (wpAny_truthy_bool ⟨β1, _, H1, hk, t1, sr1, .bool _⟩)
      · simp only [wE] at hw
        refine wpAny_isTrue_Not (wpAny_mono (hS.2 env ρ β H s A (fun b H1 => k (!b) H1) X E' a hw) (fun b s1 h1 => h1) fun _ _ e => e)
  | .ife c t f, x, sc, h => by
    cases h with
    | @ife _ _ _ _ y1 y2 y3 _ a1 a2 a3 =>
      have h1 := sound hC hG c y1 sc a1
      have h2 := sound hC hG t y2 sc a2
      have h3 := sound hC hG f y3 sc a3
      refine ⟨fun env ρ β H s A Q X E' a hw => ?_, fun env ρ β H s A k X E' a hw => ?_⟩
      · simp only [wE] at hw
        refine wpAny_IfExp (wpAny_mono (h1.2 env ρ β H s A _ X E' a hw) (fun b s1 hb => ?_) fun _ _ e => e)
        obtain ⟨β1, H1, hb, t1, sr1⟩ := hb
        cases b with
        | true => exact wpAny_mono (h2.1 env ρ β1 H1 s1 A Q X E' (a.step t1 sr1) (hb.1 rfl)) (fun _ _ q => q.after t1) fun _ _ e => e
        | false => exact wpAny_mono (h3.1 env ρ β1 H1 s1 A Q X E' (a.step t1 sr1) (hb.2 rfl)) (fun _ _ q => q.after t1) fun _ _ e => e
      · simp only [wE] at hw
        refine PyProof.Rows.isTrue_IfExp (wpAny_mono (h1.2 env ρ β H s A _ X E' a hw) (fun b s1 hb => ?_) fun _ _ e => e)
        obtain ⟨β1, H1, hb, t1, sr1⟩ := hb
        cases b with
        | true => exact wpAny_mono (h2.2 env ρ β1 H1 s1 A k X E' (a.step t1 sr1) (hb.1 rfl)) (fun _ _ q => q.after t1) fun _ _ e => e
        | false => exact wpAny_mono (h3.2 env ρ β1 H1 s1 A k X E' (a.step t1 sr1) (hb.2 rfl)) (fun _ _ q => q.after t1) fun _ _ e => e
  | .chain e1 o1 e2 o2 e3, x, sc, h => by
    cases h with
    | @chain _ _ _ _ _ _ l r r' _ hm hm' h1 h2 h3 =>
      have s1 := sound hC hG e1 l sc h1
      have s2 := sound hC hG e2 r sc h2
      have s3 := sound hC hG e3 r' sc h3
      have hlm : lastMarks [cmpOf o1, cmpOf o2] [r, r'] = false := by simpa [lastMarks] using hm'
      refine ⟨fun env ρ β H s A Q X E' a hw => ?_, fun env ρ β H s A k X E' a hw => ?_⟩
      · simp only [wE] at hw
        refine PyProof.Rows.Compare_chain (wpAny_mono (s1.1 env ρ β H s A _ X E' a hw) (fun ua q1 hq1 => ?_) fun _ _ e => e) hlm
        obtain ⟨β1, va, H1, hw1, t1, sr1, vr1⟩ := hq1
        have a1 := a.step t1 sr1
        refine PyProof.Rows.chain_link (wpAny_mono (s2.1 env ρ β1 H1 q1 A _ X E' a1 hw1) (fun ub q2 hq2 => ?_) fun _ _ e => e)
        obtain ⟨β2, vb, H2, hw2, t2, sr2, vr2⟩ := hq2
        unfold wP at hw2
        simp only [prim] at hw2
        cases hcv : cmpV o1 va vb H2 with
        | none => rw [hcv] at hw2; exact hw2.elim
        | some bb =>
          rw [hcv] at hw2
          refine cmp_sound hcv (vr1.mono t2.grow) vr2 a.amb.room (fun u s' β' st sr' vr' => ?_) sr2
          cases vr' with
          | bool _ =>
            refine wpAny_truthy_bool ?_
            have hk : wIf bb _ _ := hw2
            have t12 := t1.trans (t2.trans st)
            cases bb with
            | false => exact ⟨β', _, H2, hk.2 rfl, t12, sr', .bool _⟩
            | true =>
              have a3 := a.step t12 sr'
              refine PyProof.Rows.chain_last (wpAny_mono (s3.1 env ρ β' H2 s' A _ X E' a3 (hk.1 rfl)) (fun uc q3 hq3 => ?_) fun _ _ e => e)
              obtain ⟨β3, vc, H3, hw3, t3, sr3, vr3⟩ := hq3
              try unfold wP at hw3
              try simp only [prim] at hw3
              cases hcv3 : cmpV o2 vb vc H3 with
              | none => rw [hcv3] at hw3; exact hw3.elim
              | some b3 =>
                rw [hcv3] at hw3
                exact cmp_sound hcv3 (vr2.mono (st.grow.trans t3.grow)) vr3 a.amb.room (fun u s'' β'' st'' sr'' vr'' => ⟨β'', _, H3, hw3, (t12.trans t3).trans st'', sr'', vr''⟩) sr3
      · simp only [wE] at hw
        refine PyProof.Rows.isTrue_chain (wpAny_mono (s1.1 env ρ β H s A _ X E' a hw) (fun ua q1 hq1 => ?_) fun _ _ e => e) hlm
        obtain ⟨β1, va, H1, hw1, t1, sr1, vr1⟩ := hq1
        have a1 := a.step t1 sr1
        refine PyProof.Rows.test_link (wpAny_mono (s2.1 env ρ β1 H1 q1 A _ X E' a1 hw1) (fun ub q2 hq2 => ?_) fun _ _ e => e)
        obtain ⟨β2, vb, H2, hw2, t2, sr2, vr2⟩ := hq2
        unfold wP at hw2
        simp only [prim] at hw2
        cases hcv : cmpV o1 va vb H2 with
        | none => rw [hcv] at hw2; exact hw2.elim
        | some bb =>
          rw [hcv] at hw2
          refine cmp_sound hcv (vr1.mono t2.grow) vr2 a.amb.room (fun u s' β' st sr' vr' => ?_) sr2
          cases vr' with
          | bool _ =>
            refine wpAny_truthy_bool ?_
            have hk : wIf bb _ _ := hw2
            have t12 := t1.trans (t2.trans st)
            cases bb with
            | false => exact ⟨β', H2, hk.2 rfl, t12, sr'⟩
            | true =>
              have a3 := a.step t12 sr'
              refine PyProof.Rows.test_last (wpAny_mono (s3.1 env ρ β' H2 s' A _ X E' a3 (hk.1 rfl)) (fun uc q3 hq3 => ?_) fun _ _ e => e)
              obtain ⟨β3, vc, H3, hw3, t3, sr3, vr3⟩ := hq3
              try unfold wP at hw3
              try simp only [prim] at hw3
              cases hcv3 : cmpV o2 vb vc H3 with
              | none => rw [hcv3] at hw3; exact hw3.elim
              | some b3 =>
                rw [hcv3] at hw3
                exact cmp_sound hcv3 (vr2.mono (st.grow.trans t3.grow)) vr3 a.amb.room (fun u s'' β'' st'' sr'' vr'' => by
                  cases vr'' with | bool _ => exact wpAny_truthy_bool ⟨β'', H3, hw3, (t12.trans t3).trans st'', sr''⟩) sr3
  | .call f args, x, sc, h => by
    cases h with
    | call hf hg h => exact call_sound hC hf hg h.plain (soundAll hC hG args _ sc h)
  | .compR elt y args conds, x, sc, h => by
    cases h with
    | @compR _ scope _ _ _ _ el xs ifs px gp rp pos h2 h4 h8 h5 h6 h7 =>
      have sE := sound hC hG elt el scope h6
      have sI := ifs_of (soundAll hC hG conds ifs scope h7) h8
      have sA := soundAll hC hG args xs sc h5
      have hE : SoundE prog w h₀ P fs mg mb n C (.compR elt y args conds) (.ListComp el [⟨.Name (Str.ofString y) px, .Call (.Name (Str.ofString "range") gp) xs [] rp, ifs, 0⟩] scope pos) sc := by
        intro env ρ β H s A Q X E' a hw
        simp only [wE] at hw
        exact comp_value a (compOk_of h4) sE.1 sI range_folded (src_range (X := X) (W := fun G items H₁ => wLoop G (compStep C elt conds ρ y X) items [] H₁ (fun acc H5 => Q (V.ref (List.length H5)) (H5 ++ [O.list acc]))) sA h5.plain h2 a hw)
      exact ⟨hE, hE.toT fun _ => rfl⟩
  | .compS elt t src conds, x, sc, h => by
    cases h with
    | @compS _ scope _ _ y _ el it ifs px pos h4 h8 h5 h6 h7 =>
      have sE := sound hC hG elt el scope h6
      have sI := ifs_of (soundAll hC hG conds ifs scope h7) h8
      have sS := sound hC hG src it sc h5
      have hE : SoundE prog w h₀ P fs mg mb n C (.compS elt (.one y) src conds) (.ListComp el [⟨.Name (Str.ofString y) px, it, ifs, 0⟩] scope pos) sc := by
        intro env ρ β H s A Q X E' a hw
        simp only [wE, bindT] at hw
        exact comp_value a (compOk_of h4) sE.1 sI (folded_of h5) (src_seq (X := X) (W := fun G items H₁ => wLoop G (compStep C elt conds ρ y X) items [] H₁ (fun acc H5 => Q (V.ref (List.length H5)) (H5 ++ [O.list acc]))) sS a hw)
      exact ⟨hE, hE.toT fun _ => rfl⟩
  | .meth m o args, x, sc, h => by cases h
  | .new c args, x, sc, h => by cases h
theorem soundAll (hC : CallOK prog w h₀ fs mg n C.call) (hG : C.glob = P.glob) : ∀ (es : List E) (xs : List Expr) (sc : Scope), MEs fs sc es xs → All2 (Snd prog w h₀ P fs mg mb n C sc) es xs
  | [], xs, sc, h => by cases h; exact .nil
  | e :: es, xs, sc, h => by
    cases h with
    | cons h1 h2 => exact .cons (sound hC hG e _ sc h1) (soundAll hC hG es _ sc h2)
end

end
end Mine

namespace Mine
open PySem

noncomputable def isLoc (sc : Scope) (x : Str) : Bool := match sc.names.lookup x with
  | some .local | some .cell => x != (".0" : Str)
  | _ => false

noncomputable def isComp : Expr → Bool
  | .ListComp .. | .SetComp .. | .DictComp .. => true
  | _ => false

mutual
inductive MS (fs : List String) (sc : Scope) : S → Stmt → Prop where
  | assign {x : String} {e : E} {v : Expr} {p pos : Pos} : isLoc sc (Str.ofString x) = true → ME fs sc e v → MS fs sc (.assign x e) (.Assign [.Name (Str.ofString x) p] v pos)
  | setItem {o i e : E} {o' i' v : Expr} {p pos : Pos} : ME fs sc e v → ME fs sc o o' → ME fs sc i i' → MS fs sc (.setItem o i e) (.Assign [.Subscript o' i' p] v pos)
  | expr {e : E} {v : Expr} {p : Pos} : isComp v = false → ME fs sc e v → MS fs sc (.expr e) (.Expr v p)
  | ret {e : E} {v : Expr} {p : Pos} : ME fs sc e v → MS fs sc (.ret e) (.Return (some v) p)
  | retN {p : Pos} : MS fs sc .retN (.Return none p)
  | ite {c : E} {a b : List S} {t : Expr} {x y : List Stmt} {p : Pos} : ME fs sc c t → MSs fs sc a x → MSs fs sc b y → MS fs sc (.ite c a b) (.If t x y p)
  | forR {x : String} {args : List E} {body : List S} {xs : List Expr} {bd : List Stmt} {tp gp cp p : Pos} : isLoc sc (Str.ofString x) = true → isGlb sc (Str.ofString "range") = true → MEs fs sc args xs → MSs fs sc body bd →
      MS fs sc (.forR x args body) (.For (.Name (Str.ofString x) tp) (.Call (.Name (Str.ofString "range") gp) xs [] cp) bd [] p)
  | forS {x : String} {src : E} {body : List S} {it : Expr} {bd : List Stmt} {tp p : Pos} : isLoc sc (Str.ofString x) = true → ME fs sc src it → MSs fs sc body bd → MS fs sc (.forS x src body) (.For (.Name (Str.ofString x) tp) it bd [] p)
  | while_ {c : E} {body : List S} {t : Expr} {bd : List Stmt} {p : Pos} : ME fs sc c t → MSs fs sc body bd → MS fs sc (.while_ c body) (.While t bd [] p)
  | raise {c m : String} {x y : Option Expr} {p : Pos} : MS fs sc (.raise c m) (.Raise x y p)
  | try_ {body : List S} {hs : List Hd} {b : List Stmt} {h : ExceptHandler} {r : List ExceptHandler} {p : Pos} : MSs fs sc body b → MS fs sc (.try_ body hs) (.Try b (h :: r) [] [] p)
inductive MSs (fs : List String) (sc : Scope) : List S → List Stmt → Prop where
  | nil : MSs fs sc [] []
  | cons {e : S} {es : List S} {x : Stmt} {xs : List Stmt} : MS fs sc e x → MSs fs sc es xs → MSs fs sc (e :: es) (x :: xs)
end

mutual
noncomputable def chkS (fs : List String) (sc : Scope) : (e : S) → (x : Stmt) → Ok (MS fs sc e x)
  | .assign x e, .Assign [.Name id _] v _ => oif (id = Str.ofString x ∧ isLoc sc (Str.ofString x) = true) fun h => o1 (chkE fs sc e v) fun h1 => by obtain ⟨rfl, h⟩ := h; exact .assign h h1
  | .setItem o i e, .Assign [.Subscript o' i' _] v _ => o3 (chkE fs sc e v) (chkE fs sc o o') (chkE fs sc i i') .setItem
  | .expr e, .Expr v _ => oif (isComp v = false) fun h => o1 (chkE fs sc e v) (.expr h)
  | .ret e, .Return (some v) _ => o1 (chkE fs sc e v) .ret
  | .retN, .Return none _ => some ⟨.retN⟩
  | .ite c a b, .If t x y _ => o3 (chkE fs sc c t) (chkSs fs sc a x) (chkSs fs sc b y) .ite
  | .forR x args body, .For (.Name id _) (.Call (.Name g _) xs [] _) bd [] _ => oif ((id = Str.ofString x ∧ g = Str.ofString "range") ∧ isLoc sc (Str.ofString x) = true ∧ isGlb sc (Str.ofString "range") = true) fun h =>
      o2 (chkEs fs sc args xs) (chkSs fs sc body bd) fun h1 h2 => by obtain ⟨⟨rfl, rfl⟩, a, b⟩ := h; exact .forR a b h1 h2
  | .forS x src body, .For (.Name id _) it bd [] _ => oif (id = Str.ofString x ∧ isLoc sc (Str.ofString x) = true) fun h => o2 (chkE fs sc src it) (chkSs fs sc body bd) fun h1 h2 => by obtain ⟨rfl, a⟩ := h; exact .forS a h1 h2
  | .while_ c body, .While t bd [] _ => o2 (chkE fs sc c t) (chkSs fs sc body bd) .while_
  | .raise _ _, .Raise _ _ _ => some ⟨.raise⟩
  | .try_ body _, .Try b (_ :: _) [] [] _ => o1 (chkSs fs sc body b) .try_
  | _, _ => none
noncomputable def chkSs (fs : List String) (sc : Scope) : (es : List S) → (xs : List Stmt) → Ok (MSs fs sc es xs)
  | [], [] => some ⟨.nil⟩
  | e :: es, x :: xs => o2 (chkS fs sc e x) (chkSs fs sc es xs) .cons
  | _, _ => none
end

/-- the frame's own objects -/
noncomputable def Own (env : PySem.Env) (b : Addr) : Prop := b = env.locals ∨ ∃ x, env.cells.lookup x = some b

structure StepF (env : PySem.Env) (β : List Addr) (s : Shared) (β' : List Addr) (s' : Shared) : Prop where
  same : ∃ h tk, s' = { s with heap := h, toks := tk }
  grow : β <+: β'
  keep : ∀ b o, s.heap.get? b = some o → b ∉ β → ¬ Own env b → s'.heap.get? b = some o
  fresh : ∀ b ∈ β', b ∈ β ∨ s.heap.get? b = Option.none
  own : ∀ b, Own env b → (∃ o, s.heap.get? b = some o) → ∃ o, s'.heap.get? b = some o

theorem Step.toF {env : PySem.Env} {β β' : List Addr} {s s' : Shared} (t : Step β s β' s') (hd : ∀ b, Own env b → b ∉ β) : StepF env β s β' s' :=
  ⟨t.same, t.grow, fun b o e hb _ => t.keep b o e hb, t.fresh, fun b ho ⟨o, e⟩ => ⟨o, t.keep b o e (hd b ho)⟩⟩

theorem StepF.refl (env : PySem.Env) (β : List Addr) (s : Shared) : StepF env β s β s := ⟨⟨s.heap, s.toks, rfl⟩, List.prefix_refl _, fun _ _ e _ _ => e, fun _ hb => .inl hb, fun _ _ h => h⟩

theorem StepF.trans {env : PySem.Env} {β₁ β₂ β₃ : List Addr} {s₁ s₂ s₃ : Shared} (x : StepF env β₁ s₁ β₂ s₂) (y : StepF env β₂ s₂ β₃ s₃) : StepF env β₁ s₁ β₃ s₃ := by
  obtain ⟨⟨h, t, rfl⟩, g, k, f, w⟩ := x
  obtain ⟨⟨h', t', rfl⟩, g', k', f', w'⟩ := y
  refine ⟨⟨h', t', rfl⟩, g.trans g', fun b o e hb ho => k' b o (k b o e hb ho) (fun hm => ?_) ho, fun b hb => ?_, fun b ho hx => w' b ho (w b ho hx)⟩
  · rcases f b hm with q | q
    · exact hb q
    · rw [e] at q; cases q
  · rcases f' b hb with q | q
    · exact f b q
    · by_cases hm : b ∈ β₁
      · exact .inl hm
      · refine .inr ?_
        cases e : s₁.heap.get? b with
        | none => rfl
        | some o =>
          by_cases ho : Own env b
          · obtain ⟨o', e'⟩ := w b ho ⟨o, e⟩; have q' : h.get? b = Option.none := q; have e'' : h.get? b = some o' := e'; rw [e''] at q'; cases q'
          · have := k b o e hm ho; have q' : h.get? b = Option.none := q; have e'' : h.get? b = some o := this; rw [e''] at q'; cases q'

theorem ER.disj {env : PySem.Env} {ρ : Env} {β : List Addr} {h : Heap} (x : ER env ρ β h) : ∀ b, Own env b → b ∉ β := fun b hb => by
  rcases hb with rfl | ⟨y, hy⟩
  · exact x.locs
  · exact (x.cells y b hy).1

noncomputable def FlowR (β : List Addr) : Option V → Flow → Prop
  | none, f => f = .next
  | some v, f => ∃ u, f = .ret u ∧ VR β v u

theorem FlowR.mono {β β' : List Addr} (hp : β <+: β') : ∀ {r : Option V} {f : Flow}, FlowR β r f → FlowR β' r f
  | none, _, h => h
  | some _, _, ⟨u, e, v⟩ => ⟨u, e, v.mono hp⟩

noncomputable def PS (h₀ : Heap) (env : PySem.Env) (β : List Addr) (s : Shared) (k : SPost) (f : Flow) (s' : Shared) : Prop :=
  ∃ r β' ρ' H', k r ρ' H' ∧ FlowR β' r f ∧ StepF env β s β' s' ∧ SR h₀ β' H' s'.heap ∧ ER env ρ' β' s'.heap

section
variable {prog : Program} {w : World} {h₀ : Heap} {P : Prog} {fs : List String} {mg mb : Str → Option Value} {n : Nat} {C : Ctx}

theorem PS.after {env : PySem.Env} {β β' : List Addr} {s s' s'' : Shared} {k : SPost} {f : Flow} (t : StepF env β s β' s') (h : PS h₀ env β' s' k f s'') : PS h₀ env β s k f s'' :=
  let ⟨r, b, ρ, H, a, c, d, e, g⟩ := h; ⟨r, b, ρ, H, a, c, t.trans d, e, g⟩

/-- the frame's objects are above the base -/
noncomputable def OwnNew (h₀ : Heap) (env : PySem.Env) : Prop := ∀ b, Own env b → h₀.get? b = Option.none

theorem er_local {env : PySem.Env} {ρ : Env} {β : List Addr} {h h' : Heap} {x : String} {v : V} {u : Value} {m : Str → Option Value} (er : ER env ρ β h) (hm : h.Ns env.locals m ∧ ∀ x v, ρ x = some v → env.kindOf (Str.ofString x) = some .local → Str.ofString x ≠ (".0" : Str) → ∃ u, m (Str.ofString x) = some u ∧ VR β v u)
    (hk : env.kindOf (Str.ofString x) = some .local) (hv : VR β v u) (hn : h'.Ns env.locals (fun y => if y = Str.ofString x then some u else m y)) (hs : Heap.SameBut env.locals h h') : ER env (ρ.set x v) β h' := by
  refine ⟨er.kind, er.glob, er.bltn, ⟨_, hn, fun y v' hy hky hd => ?_⟩, fun y c hc => ?_, fun y v' hy hky => ?_, er.has, er.apart, er.locs, er.cells⟩
  · by_cases e : y = x
    · subst e
      have : v' = v := by simpa [Env.set] using hy.symm
      subst this; exact ⟨u, by simp, hv⟩
    · have hy' : ρ y = some v' := by simpa [Env.set, e] using hy
      obtain ⟨u', hu', hr⟩ := hm.2 y v' hy' hky hd
      exact ⟨u', by rw [if_neg (ofString_ne e)]; exact hu', hr⟩
  · obtain ⟨u', hu'⟩ := er.cell y c hc
    exact ⟨u', hu'.sameBut hs (er.cells y c hc).2⟩
  · by_cases e : y = x
    · subst e; rw [hk] at hky; simp at hky
    · have hy' : ρ y = some v' := by simpa [Env.set, e] using hy
      obtain ⟨c, u', hc, hic, hr⟩ := er.held y v' hy' hky
      exact ⟨c, u', hc, hic.sameBut hs (er.cells _ c hc).2, hr⟩

theorem er_cell {env : PySem.Env} {ρ : Env} {β : List Addr} {h h' : Heap} {x : String} {v : V} {u : Value} {c : Addr} (er : ER env ρ β h) (hk : env.kindOf (Str.ofString x) = some .cell) (hc : env.cells.lookup (Str.ofString x) = some c) (hv : VR β v u)
    (hn : h'.IsCell c (some u)) (hs : Heap.SameBut c h h') : ER env (ρ.set x v) β h' := by
  obtain ⟨m, hm, hm2⟩ := er.ns
  refine ⟨er.kind, er.glob, er.bltn, ⟨m, hm.sameBut hs (Ne.symm (er.cells _ c hc).2), fun y v' hy hky hd => ?_⟩, fun y c' hc' => ?_, fun y v' hy hky => ?_, er.has, er.apart, er.locs, er.cells⟩
  · have e : y ≠ x := by rintro rfl; rw [hk] at hky; cases hky
    have hy' : ρ y = some v' := by simpa [Env.set, e] using hy
    exact hm2 y v' hy' hky hd
  · by_cases e : c' = c
    · subst e; exact ⟨_, hn⟩
    · obtain ⟨u', hu'⟩ := er.cell y c' hc'; exact ⟨u', hu'.sameBut hs e⟩
  · by_cases e : y = x
    · subst e
      have : v' = v := by simpa [Env.set] using hy.symm
      subst this; exact ⟨c, u, hc, hn, hv⟩
    · have hy' : ρ y = some v' := by simpa [Env.set, e] using hy
      obtain ⟨c', u', hc', hic, hr⟩ := er.held y v' hy' hky
      have : c' ≠ c := by rintro rfl; exact e (ofString_inj (er.apart _ _ _ hc' hc))
      exact ⟨c', u', hc', hic.sameBut hs this, hr⟩

/-- a name of the frame is stored -/
theorem store_sound {sc : Scope} {env : PySem.Env} {ρ : Env} {β : List Addr} {H : Hp} {s : Shared} {A : Around} {x : String} {v : V} {u : Value} {Q : Unit → Shared → Prop} {E : Value → Shared → Prop} (a : At P fs mg mb h₀ n sc env ρ β H s A) (hl : isLoc sc (Str.ofString x) = true) (sceq : env.scope = sc)
    (hon : OwnNew h₀ env) (hv : VR β v u) (h : ∀ s', StepF env β s β s' → SR h₀ β H s'.heap → ER env (ρ.set x v) β s'.heap → Q () s') : wpAny (model prog w) A (storeName env (Str.ofString x) u) Q E s := by
  have hko : ∀ y, env.kindOf y = sc.names.lookup y := fun y => by rw [← sceq]; rfl
  have fin : ∀ (h' : Heap) (tk : Nat) (c : Addr), Own env c → (∃ o, h'.get? c = some o) → Heap.SameBut c s.heap h' → ER env (ρ.set x v) β h' → Q () { s with heap := h', toks := tk } := by
    intro h' tk c hc hex hs er'
    refine h _ ⟨⟨_, _, rfl⟩, List.prefix_refl _, fun b o e hb hb' => hs.extBut b o (by rintro rfl; exact hb' hc) e, fun b hb => .inl hb, fun b hb hx => ?_⟩ (a.sr.other fun b o e q => hs.extBut b o ?_ e) er'
    · by_cases e : b = c
      · subst e; exact hex
      · obtain ⟨o, ho⟩ := hx; exact ⟨o, hs.extBut b o e ho⟩
    · rintro rfl
      rcases q with q | ⟨o', q⟩
      · exact a.er.disj _ hc q
      · rw [hon _ hc] at q; cases q
  unfold isLoc at hl
  split at hl
  · rename_i e
    rw [← hko] at e
    obtain ⟨m, hn, hm⟩ := a.er.ns
    refine wpAny_storeName_local e hn (fun h' hn' hs => fin h' _ env.locals (.inl rfl) ?_ hs (er_local a.er ⟨hn, hm⟩ e hv hn' hs)) (by rw [a.er.kind]; rfl)
    obtain ⟨o, _, _, eo, _⟩ := hn'; exact ⟨o, eo⟩
  · rename_i e
    rw [← hko] at e
    obtain ⟨c, hc⟩ := a.er.has _ (.inl e)
    obtain ⟨u', hu'⟩ := a.er.cell _ c hc
    refine wpAny_storeName_cell a.er.kind e hc hu' fun h' hn' hs => fin h' s.toks c (.inr ⟨_, hc⟩) ?_ hs (er_cell a.er e hc hv hn' hs)
    obtain ⟨o, eo, _⟩ := hn'; exact ⟨o, eo⟩
  · cases hl

end
end Mine

namespace Mine
open PySem

section
variable {prog : Program} {w : World} {h₀ : Heap} {P : Prog} {fs : List String} {mg mb : Str → Option Value} {n : Nat} {C : Ctx}

theorem swaps_false {v : Expr} {t : Option Expr} {line : Nat} {env : PySem.Env} (h : isComp v = false) : swapsWith v t line env = pure false := by
  cases v <;> first | rfl | cases h

theorem swaps_sub {v o i : Expr} {p : Pos} {line : Nat} {env : PySem.Env} : swapsWith v (some (.Subscript o i p)) line env = pure false := by
  cases v <;> rfl

/-- a comprehension whose list goes to a name at once -/
theorem comp_use {A : Around} {E' : Value → Shared → Prop} {sc scope : Scope} {env : PySem.Env} {ρ : Env} {β : List Addr} {H : Hp} {s : Shared} {x y : String} {elt : E} {conds : List E} {el iter : Expr} {ifs : List Expr} {px py pos : Pos} {X : XP} {Q : Post}
    (a : At P fs mg mb h₀ n sc env ρ β H s A) (sceq : env.scope = sc) (hon : OwnNew h₀ env) (hl : isLoc sc (Str.ofString y) = true) (ok : CompOk sc scope (Str.ofString x)) (hE : SoundE prog w h₀ P fs mg mb n C elt el scope) (hT : SoundIfs prog w h₀ P fs mg mb n C conds ifs scope)
    (hs : ∀ x, foldedSetIterable iter env x = pure x)
    (hsrc : wpAny (model prog w) A (eval iter env) (fun xv s₁ => wpAny (model prog w) A (pyIter xv) (SrcReady prog w A h₀ β s fun G items H₁ => wLoop G (compStep C elt conds ρ x X) items [] H₁ (fun acc H5 => Q (V.ref (List.length H5)) (H5 ++ [O.list acc]))) E' s₁) E' s) :
    wpAny (model prog w) A (evalThenUse (.ListComp el [⟨.Name (Str.ofString x) px, iter, ifs, 0⟩] scope pos) env (assign (.Name (Str.ofString y) py) env)) (fun _ s' => ∃ β' v H', Q v H' ∧ StepF env β s β' s' ∧ SR h₀ β' H' s'.heap ∧ ER env (ρ.set y v) β' s'.heap) E' s := by
  show wpAny (model prog w) A (do let _ ← comprehension (.ListComp el [⟨.Name (Str.ofString x) px, iter, ifs, 0⟩] scope pos) scope env _ (newList []) false (eval iter env) (some (assign (.Name (Str.ofString y) py) env))) _ _ s
  refine wpAny_bind (wpAny_mono (comp_whole (use := some (assign (.Name (Str.ofString y) py) env)) (Q := fun _ s' => ∃ β' v H', Q v H' ∧ StepF env β s β' s' ∧ SR h₀ β' H' s'.heap ∧ ER env (ρ.set y v) β' s'.heap) a ok hE hT hs hsrc fun D Cf β' H' acc s' c hns hk => ?_) (fun _ _ q => wpAny_pure q) fun _ _ e => e)
  obtain ⟨st, sr, vr⟩ := c.adopt a.sr.kept
  have a' := a.step st sr
  show wpAny (model prog w) A (assign (.Name (Str.ofString y) py) env (.ref D)) _ _ s'
  refine wpAny_assign_Name (store_sound a' hl sceq hon vr fun s'' t sr'' er'' => ?_)
  obtain ⟨m, hn⟩ := hns
  have ownOld : ∀ b, Own env b → ∃ o, s.heap.get? b = some o := fun b hb => by
    rcases hb with rfl | ⟨z, hz⟩
    · obtain ⟨m, ⟨o, _, _, e, _⟩, _⟩ := a.er.ns; exact ⟨o, e⟩
    · obtain ⟨u, o, e, _⟩ := a.er.cell z b hz; exact ⟨o, e⟩
  have hCo : ¬ Own env Cf := fun hb => by obtain ⟨o, e⟩ := ownOld _ hb; rw [c.cnew] at e; cases e
  have hCb : Cf ∉ β' ++ [D] := fun hm => by
    rcases List.mem_append.mp hm with q | q
    · exact c.cout q
    · simp at q; exact c.dc q.symm
  obtain ⟨h1, t1, rfl⟩ := t.same
  refine ⟨m, Heap_Ns_at hn fun o e => t.keep Cf o e hCb hCo, fun h' hs' => ?_⟩
  have hC₀ : h₀.get? Cf = Option.none := by
    cases e : h₀.get? Cf with
    | none => rfl
    | some o => have := a.sr.kept _ _ e; rw [c.cnew] at this; cases this
  have tf : StepF env β s (β' ++ [D]) _ := (st.toF a.er.disj).trans t
  obtain ⟨h2, t2, e2⟩ := c.step.same
  subst e2
  refine ⟨β' ++ [D], _, _, hk, ⟨⟨_, _, rfl⟩, tf.grow, fun b o e hb ho => hs'.extBut b o (by rintro rfl; rw [c.cnew] at e; cases e) (tf.keep b o e hb ho), tf.fresh, fun b ho hx => ?_⟩, sr''.other fun b o e q => hs'.extBut b o ?_ e,
    er''.other (fun o e => hs'.extBut _ o (by rintro rfl; exact hCo (.inl rfl)) e) (fun z c' hz o e => hs'.extBut _ o (by rintro rfl; exact hCo (.inr ⟨z, hz⟩)) e)⟩
  · obtain ⟨o, e⟩ := tf.own b ho hx
    exact ⟨o, hs'.extBut b o (by rintro rfl; exact hCo ho) e⟩
  · rintro rfl
    rcases q with q | ⟨o', q⟩
    · exact hCb q
    · rw [hC₀] at q; cases q

structure AtS (P : Prog) (fs : List String) (mg mb : Str → Option Value) (h₀ : Heap) (n : Nat) (sc : Scope) (env : PySem.Env) (ρ : Env) (β : List Addr) (H : Hp) (s : Shared) (A : Around) : Prop where
  at_ : At P fs mg mb h₀ n sc env ρ β H s A
  sceq : env.scope = sc
  own : OwnNew h₀ env

theorem AtS.step {sc env ρ β H s A β' H' s' ρ'} (x : AtS P fs mg mb h₀ n sc env ρ β H s A) (sr : SR h₀ β' H' s'.heap) (er : ER env ρ' β' s'.heap) : AtS P fs mg mb h₀ n sc env ρ' β' H' s' A :=
  ⟨⟨x.at_.names, x.at_.amb, sr, er, x.at_.sc⟩, x.sceq, x.own⟩

noncomputable def SoundS (prog : Program) (w : World) (h₀ : Heap) (P : Prog) (fs : List String) (mg mb : Str → Option Value) (n : Nat) (C : Ctx) (sc : Scope) (e : S) (x : Stmt) : Prop :=
  ∀ env ρ β H s A k X E', AtS P fs mg mb h₀ n sc env ρ β H s A → wS C e ρ H k X → wpAny (model prog w) A (exec x env) (PS h₀ env β s k) E' s
noncomputable def SoundSs (prog : Program) (w : World) (h₀ : Heap) (P : Prog) (fs : List String) (mg mb : Str → Option Value) (n : Nat) (C : Ctx) (sc : Scope) (es : List S) (xs : List Stmt) : Prop :=
  ∀ env ρ β H s A k X E', AtS P fs mg mb h₀ n sc env ρ β H s A → wSs C es ρ H k X → wpAny (model prog w) A (execs xs env) (PS h₀ env β s k) E' s

/-- an assignment to a name -/
theorem assign_sound (hC : CallOK prog w h₀ fs mg n C.call) (hG : C.glob = P.glob) {sc : Scope} {y : String} {e : E} {v : Expr} {p pos : Pos} (hl : isLoc sc (Str.ofString y) = true) (hm : ME fs sc e v) :
    SoundS prog w h₀ P fs mg mb n C sc (.assign y e) (.Assign [.Name (Str.ofString y) p] v pos) := by
  intro env ρ β H s A k X E' a hw
  simp only [wS] at hw
  have plain : swapsWith v (some (.Name (Str.ofString y) p)) pos.line env = pure false → wpAny (model prog w) A (exec (.Assign [.Name (Str.ofString y) p] v pos) env) (PS h₀ env β s k) E' s := by
    intro hs
    refine wpAny_Assign_Name (wpAny_mono ((sound (mb := mb) hC hG e v sc hm).1 env ρ β H s A _ _ E' a.at_ hw) (fun u s1 h1 => ?_) fun _ _ e => e) hs
    obtain ⟨β1, v1, H1, hk, t1, sr1, vr1⟩ := h1
    exact store_sound (a.at_.step t1 sr1) hl a.sceq a.own vr1 fun s' t' sr' er' => ⟨none, β1, _, H1, hk, rfl, (t1.toF a.at_.er.disj).trans t', sr', er'⟩
  cases hc : isComp v with
  | false => exact plain (swaps_false hc)
  | true =>
    have used : (∀ {Q : Post}, wE C e ρ H Q (fun a H1 => X a ρ H1) → wpAny (model prog w) A (evalThenUse v env (assign (.Name (Str.ofString y) p) env)) (fun _ s' => ∃ β' v H', Q v H' ∧ StepF env β s β' s' ∧ SR h₀ β' H' s'.heap ∧ ER env (ρ.set y v) β' s'.heap) E' s) →
        ∀ b, swapsWith v (some (.Name (Str.ofString y) p)) pos.line env = pure b → wpAny (model prog w) A (exec (.Assign [.Name (Str.ofString y) p] v pos) env) (PS h₀ env β s k) E' s := by
      intro hu b hb
      cases b with
      | false => exact plain hb
      | true =>
        rw [exec_Assign_Name_used _ _ _ _ hb]
        refine wpAny_bind (wpAny_standAt (wpAny_bind (wpAny_mono (hu hw) (fun _ s' q => wpAny_pure ?_) fun _ _ e => e)))
        obtain ⟨β', v', H', hk, t', sr', er'⟩ := q
        exact ⟨none, β', _, H', hk, rfl, t', sr', er'⟩
    cases hm with
    | compR h2 h4 h8 h5 h6 h7 =>
      refine used (fun {Q} hw => ?_) _ rfl
      simp only [wE] at hw
      exact comp_use a.at_ a.sceq a.own hl (compOk_of h4) (sound hC hG _ _ _ h6).1 (ifs_of (soundAll hC hG _ _ _ h7) h8) range_folded
        (src_range (X := fun a H1 => X a ρ H1) (W := fun G items H₁ => wLoop G (compStep C _ _ ρ _ (fun a H1 => X a ρ H1)) items [] H₁ (fun acc H5 => Q (V.ref (List.length H5)) (H5 ++ [O.list acc]))) (soundAll hC hG _ _ sc h5) h5.plain h2 a.at_ hw)
    | compS h4 h8 h5 h6 h7 =>
      refine used (fun {Q} hw => ?_) _ rfl
      simp only [wE, bindT] at hw
      exact comp_use a.at_ a.sceq a.own hl (compOk_of h4) (sound hC hG _ _ _ h6).1 (ifs_of (soundAll hC hG _ _ _ h7) h8) (folded_of h5)
        (src_seq (X := fun a H1 => X a ρ H1) (W := fun G items H₁ => wLoop G (compStep C _ _ ρ _ (fun a H1 => X a ρ H1)) items [] H₁ (fun acc H5 => Q (V.ref (List.length H5)) (H5 ++ [O.list acc]))) (sound hC hG _ _ sc h5) a.at_ hw)
    | op ho _ => cases ho <;> cases hc
    | _ => cases hc

theorem setItem_sound (hC : CallOK prog w h₀ fs mg n C.call) (hG : C.glob = P.glob) {sc : Scope} {o i e : E} {o' i' v : Expr} {p pos : Pos} (h1 : ME fs sc e v) (h2 : ME fs sc o o') (h3 : ME fs sc i i') :
    SoundS prog w h₀ P fs mg mb n C sc (.setItem o i e) (.Assign [.Subscript o' i' p] v pos) := by
  intro env ρ β H s A k X E' a hw
  simp only [wS] at hw
  refine wpAny_Assign_Subscript (wpAny_mono ((sound (mb := mb) hC hG e v sc h1).1 env ρ β H s A _ _ E' a.at_ hw) (fun u s1 q1 => ?_) fun _ _ e => e) swaps_sub
  obtain ⟨β1, v1, H1, hw1, t1, sr1, vr1⟩ := q1
  have a1 := a.at_.step t1 sr1
  refine wpAny_mono ((sound (mb := mb) hC hG o o' sc h2).1 env ρ β1 H1 s1 A _ _ E' a1 hw1) (fun uo s2 q2 => ?_) fun _ _ e => e
  obtain ⟨β2, v2, H2, hw2, t2, sr2, vr2⟩ := q2
  have a2 := a1.step t2 sr2
  refine wpAny_mono ((sound (mb := mb) hC hG i i' sc h3).1 env ρ β2 H2 s2 A _ _ E' a2 hw2) (fun ui s3 q3 => ?_) fun _ _ e => e
  obtain ⟨β3, v3, H3, hw3, t3, sr3, vr3⟩ := q3
  have a3 := a2.step t3 sr3
  have t13 := (t1.trans t2).trans t3
  split at hw3
  · rename_i H4 hset
    have vr1' := vr1.mono (t2.grow.trans t3.grow)
    have vr2' := vr2.mono t3.grow
    cases vr2' with
    | ref hr =>
      cases vr3 with
      | int idx tk =>
        simp only [setV] at hset
        split at hset
        · rename_i xs hx
          simp only [setAtV] at hset
          obtain ⟨ys, hy, rfl⟩ := Option.map_eq_some_iff.mp hset
          split at hy <;> cases hy
          rename_i hk
          refine p_setL hx hr hk.1 hk.2 vr1' (fun u' s' β' st sr' vr' => ?_) sr3
          have tt := t13.trans st
          exact ⟨none, β', ρ, _, hw3, rfl, tt.toF a.at_.er.disj, sr', a.at_.er.step tt⟩
        · rename_i es hx
          obtain ⟨r', e', sl⟩ := sr3.at hx
          rw [hr] at e'; cases e'
          cases sl with | own a b c => cases c
        · cases hset
      | _ => simp [setV] at hset
    | _ => simp [setV] at hset
  · exact hw3.elim

end
end Mine

namespace Mine
open PySem

section
variable {prog : Program} {w : World} {h₀ : Heap} {P : Prog} {fs : List String} {mg mb : Str → Option Value} {n : Nat} {C : Ctx}

/-- a loop over what an iterator gives -/
theorem for_sound {sc : Scope} {env : PySem.Env} {ρ : Env} {β : List Addr} {H : Hp} {s : Shared} {A : Around} {y : String} {body : List S} {bd : List Stmt} {it : Expr} {px pos : Pos} {k : SPost} {X : SXP} {E' : Value → Shared → Prop}
    (a : AtS P fs mg mb h₀ n sc env ρ β H s A) (hl : isLoc sc (Str.ofString y) = true) (hB : SoundSs prog w h₀ P fs mg mb n C sc body bd) (hs : ∀ x, foldedSetIterable it env x = pure x)
    (hsrc : ∀ E', wpAny (model prog w) A (eval it env) (fun xv s₁ => wpAny (model prog w) A (pyIter xv) (SrcReady prog w A h₀ β s fun G items H₁ => wFor G (fun v ρ' H' k' => wSs C body (ρ'.set y v) H' k' X) items ρ H₁ k) E' s₁) E' s) :
    wpAny (model prog w) A (exec (.For (.Name (Str.ofString y) px) it bd [] pos) env) (PS h₀ env β s k) E' s := by
  refine wpAny_For (wpAny_mono (hsrc _) (fun xv s₁ q => wpAny_mono q (fun iv s₂ h₂ => ?_) fun _ _ e => e) fun _ _ e => e) hs
  obtain ⟨β₁, H₁, s₁, G, items, ⟨I, St, hI, tkI, rfl, rfl, kI, nI, st0, itr⟩, t₁, sr₁, hlen, hw⟩ := h₂
  have a₁ := a.at_.step t₁ sr₁
  have notNew : ∀ b, (∃ o, s₁.heap.get? b = some o) → b ≠ I := fun b ⟨o, e⟩ q => by rw [q, nI] at e; cases e
  have hI₀ : h₀.get? I = Option.none := by
    cases e : h₀.get? I with
    | none => rfl
    | some o => exact absurd rfl (notNew I ⟨o, sr₁.kept _ _ e⟩)
  have ownOld : ∀ b, Own env b → ∃ o, s₁.heap.get? b = some o := fun b hb => by
    rcases hb with rfl | ⟨z, hz⟩
    · obtain ⟨m, ⟨o, _, _, e, _⟩, _⟩ := a₁.er.ns; exact ⟨o, e⟩
    · obtain ⟨u, o, e, _⟩ := a₁.er.cell z b hz; exact ⟨o, e⟩
  have hIo : ¬ Own env I := fun hb => notNew I (ownOld I hb) rfl
  have hIβ : I ∉ β₁ := fun hm => notNew I (sr₁.mem hm) rfl
  refine codeAny_forLoop (fun kk s' => ∃ i β' ρ' H', kk = items.length + 1 - i ∧ i ≤ items.length ∧ StepF env β₁ s₁ β' s' ∧ St i s'.heap ∧ I ∉ β' ∧ SR h₀ β' H' s'.heap ∧ ER env ρ' β' s'.heap ∧
      wFor G (fun v ρ' H' k' => wSs C body (ρ'.set y v) H' k' X) (items.drop i) ρ' H' k) ?_ (items.length + 1)
    ⟨0, β₁, ρ, H₁, by omega, by omega, ⟨⟨_, _, rfl⟩, List.prefix_refl _, fun b o e _ _ => kI b o e, fun b hb => .inl hb, fun b _ ⟨o, e⟩ => ⟨o, kI b o e⟩⟩, st0, hIβ, sr₁.keeps kI, a₁.er.other (fun o e => kI _ _ e) (fun _ _ _ o e => kI _ _ e), hw⟩
  rintro kk s' ⟨i, β', ρ', H', rfl, hi, tF, hst, hIb, sr', er', hwf⟩
  obtain ⟨h', tk', rfl⟩ := tF.same
  by_cases hlt : i < items.length
  · obtain ⟨v, hv⟩ : ∃ v, items[i]? = some v := ⟨_, List.getElem?_eq_getElem hlt⟩
    have hdrop : items.drop i = v :: items.drop (i + 1) := by
      rw [List.drop_eq_getElem_cons hlt]
      congr 1
      rw [List.getElem?_eq_getElem hlt] at hv; exact Option.some.inj hv
    rw [hdrop] at hwf
    obtain ⟨hG, hstep⟩ := hwf
    refine itr.item i v β' H' _ _ _ hv hst tF.grow sr' hG hIb fun u h₁ tk₁ hvu hst₁ hk₁ => ?_
    have sr₂ : SR h₀ β' H' h₁ := sr'.other fun b o e q => hk₁ b o (by
      rintro rfl
      rcases q with q | ⟨o', q⟩
      · exact hIb q
      · rw [hI₀] at q; cases q) e
    have er₂ : ER env ρ' β' h₁ := er'.other (fun o e => hk₁ _ o (fun q => hIo (.inl q.symm)) e) (fun z c hz o e => hk₁ _ o (fun q => hIo (.inr ⟨z, q ▸ hz⟩)) e)
    have tF₂ : StepF env β₁ s₁ β' { s₁ with heap := h₁, toks := tk₁ } :=
      ⟨⟨_, _, rfl⟩, tF.grow, fun b o e hb ho => hk₁ b o (notNew b ⟨o, e⟩) (tF.keep b o e hb ho), tF.fresh, fun b ho hx => let ⟨o, e⟩ := tF.own b ho hx; ⟨o, hk₁ b o (notNew b (ownOld b ho)) e⟩⟩
    have a₂ : AtS P fs mg mb h₀ n sc env ρ' β' H' { s₁ with heap := h₁, toks := tk₁ } A := a.step sr₂ er₂
    refine wpAny_assign_Name (store_sound a₂.at_ hl a.sceq a.own hvu fun s₃ t₃ sr₃ er₃ => ?_)
    have a₃ : AtS P fs mg mb h₀ n sc env (ρ'.set y v) β' H' s₃ A := a.step sr₃ er₃
    refine wpAny_mono (hB env _ β' H' s₃ A _ X _ a₃ hstep) (fun f s₄ h₄ => ?_) fun _ _ e => e
    obtain ⟨r, β₄, ρ₄, H₄, hk₄, hf, t₄, sr₄, er₄⟩ := h₄
    have t34 := t₃.trans t₄
    have tall := tF₂.trans t34
    have stI : St (i + 1) s₄.heap := itr.frame _ _ _ hst₁ fun o e => t34.keep I o e hIb hIo
    have hIb₄ : I ∉ β₄ := fun hm => by
      rcases t34.fresh I hm with q | q
      · exact hIb q
      · obtain ⟨o, e⟩ := itr.live _ _ hst₁; have q' : h₁.get? I = Option.none := q; rw [e] at q'; cases q'
    cases r with
    | none =>
      cases hf
      exact ⟨items.length + 1 - (i + 1), by omega, i + 1, β₄, ρ₄, H₄, rfl, by omega, tall, stI, hIb₄, sr₄, er₄, hk₄⟩
    | some v' =>
      obtain ⟨u', rfl, vr'⟩ := hf
      exact ⟨some v', β₄, ρ₄, H₄, hk₄, ⟨u', rfl, vr'⟩, (t₁.toF a.at_.er.disj).trans tall, sr₄, er₄⟩
  · have hie : i = items.length := by omega
    subst hie
    rw [List.drop_length] at hwf
    obtain ⟨hG, hk⟩ := hwf
    refine itr.done β' H' _ _ _ hst tF.grow sr' hG hIb fun h₁ tk₁ hk₁ => ?_
    have sr₂ : SR h₀ β' H' h₁ := sr'.other fun b o e q => hk₁ b o (by
      rintro rfl
      rcases q with q | ⟨o', q⟩
      · exact hIb q
      · rw [hI₀] at q; cases q) e
    have er₂ : ER env ρ' β' h₁ := er'.other (fun o e => hk₁ _ o (fun q => hIo (.inl q.symm)) e) (fun z c hz o e => hk₁ _ o (fun q => hIo (.inr ⟨z, q ▸ hz⟩)) e)
    have tF₂ : StepF env β₁ s₁ β' { s₁ with heap := h₁, toks := tk₁ } :=
      ⟨⟨_, _, rfl⟩, tF.grow, fun b o e hb ho => hk₁ b o (notNew b ⟨o, e⟩) (tF.keep b o e hb ho), tF.fresh, fun b ho hx => let ⟨o, e⟩ := tF.own b ho hx; ⟨o, hk₁ b o (notNew b (ownOld b ho)) e⟩⟩
    exact wpAny_execs_nil ⟨none, β', ρ', H', hk, rfl, (t₁.toF a.at_.er.disj).trans tF₂, sr₂, er₂⟩

theorem while_sound (hC : CallOK prog w h₀ fs mg n C.call) (hG : C.glob = P.glob) {sc : Scope} {c : E} {t : Expr} {body : List S} {bd : List Stmt} {pos : Pos} (hm : ME fs sc c t) (hB : SoundSs prog w h₀ P fs mg mb n C sc body bd) :
    SoundS prog w h₀ P fs mg mb n C sc (.while_ c body) (.While t bd [] pos) := by
  intro env ρ β H s A k X E' a hw
  simp only [wS] at hw
  obtain ⟨N, hN⟩ := hw
  refine wpAny_While (codeAny_whileLoop (fun m s' => ∃ β' ρ' H', StepF env β s β' s' ∧ SR h₀ β' H' s'.heap ∧ ER env ρ' β' s'.heap ∧
      wWhile (fun ρ' H' k' => wE C c ρ' H' (fun v H1 => wB v fun b => k' b H1) (fun a H1 => X a ρ' H1)) (fun ρ' H' k' => wSs C body ρ' H' k' X) m ρ' H' k) ?_ N ⟨β, ρ, H, StepF.refl env β s, a.at_.sr, a.at_.er, hN⟩)
  rintro m s' ⟨β', ρ', H', tF, sr', er', hwh⟩
  cases m with
  | zero => exact hwh.elim
  | succ m =>
    simp only [wWhile] at hwh
    have a' : AtS P fs mg mb h₀ n sc env ρ' β' H' s' A := a.step sr' er'
    refine wpAny_mono ((sound (mb := mb) hC hG c t sc hm).2 env ρ' β' H' s' A _ _ _ a'.at_ hwh) (fun b s₂ h₂ => ?_) fun _ _ e => e
    obtain ⟨β₂, H₂, hb, t₂, sr₂⟩ := h₂
    have er₂ := er'.step t₂
    have tF₂ := tF.trans (t₂.toF er'.disj)
    cases b with
    | true =>
      simp only [if_true]
      refine wpAny_mono (hB env ρ' β₂ H₂ s₂ A _ X _ (a.step sr₂ er₂) (hb.1 rfl)) (fun f s₃ h₃ => ?_) fun _ _ e => e
      obtain ⟨r, β₃, ρ₃, H₃, hk₃, hf, t₃, sr₃, er₃⟩ := h₃
      cases r with
      | none => cases hf; exact ⟨m, by omega, β₃, ρ₃, H₃, tF₂.trans t₃, sr₃, er₃, hk₃⟩
      | some v' => obtain ⟨u', rfl, vr'⟩ := hf; exact ⟨some v', β₃, ρ₃, H₃, hk₃, ⟨u', rfl, vr'⟩, tF₂.trans t₃, sr₃, er₃⟩
    | false =>
      simp only [Bool.false_eq_true, if_false]
      exact wpAny_execs_nil ⟨none, β₂, ρ', H₂, hb.2 rfl, rfl, tF₂, sr₂, er₂⟩

theorem interactive_false {env : PySem.Env} (h : env.scope.kind = .function) : interactive env = false := by
  unfold interactive; rw [h]; rfl

mutual
theorem soundS (hC : CallOK prog w h₀ fs mg n C.call) (hG : C.glob = P.glob) (hok : C.ok = false) : ∀ (e : S) (x : Stmt) (sc : Scope), MS fs sc e x → SoundS prog w h₀ P fs mg mb n C sc e x
  | .assign y e, x, sc, h => by
    cases h with
    | assign hl h => exact assign_sound hC hG hl h
  | .setItem o i e, x, sc, h => by
    cases h with
    | setItem h1 h2 h3 => exact setItem_sound hC hG h1 h2 h3
  | .expr e, x, sc, h => by
    cases h with
    | expr hc h =>
      intro env ρ β H s A k X E' a hw
      simp only [wS] at hw
      refine wpAny_Expr_any (wpAny_mono ((sound (mb := mb) hC hG e _ sc h).1 env ρ β H s A _ _ E' a.at_ hw) (fun u s1 h1 => ?_) fun _ _ e => e) (interactive_false a.at_.er.kind) (swaps_false hc)
      obtain ⟨β1, v1, H1, hk, t1, sr1, vr1⟩ := h1
      exact ⟨none, β1, ρ, H1, hk, rfl, t1.toF a.at_.er.disj, sr1, a.at_.er.step t1⟩
  | .ret e, x, sc, h => by
    cases h with
    | ret h =>
      intro env ρ β H s A k X E' a hw
      simp only [wS] at hw
      refine wpAny_Return_some (wpAny_mono ((sound (mb := mb) hC hG e _ sc h).1 env ρ β H s A _ _ E' a.at_ hw) (fun u s1 h1 => ?_) fun _ _ e => e)
      obtain ⟨β1, v1, H1, hk, t1, sr1, vr1⟩ := h1
      exact ⟨some v1, β1, ρ, H1, hk, ⟨u, rfl, vr1⟩, t1.toF a.at_.er.disj, sr1, a.at_.er.step t1⟩
  | .retN, x, sc, h => by
    cases h with
    | retN =>
      intro env ρ β H s A k X E' a hw
      simp only [wS] at hw
      exact wpAny_Return_none ⟨some .none, β, ρ, H, hw, ⟨.none, rfl, .none⟩, StepF.refl env β s, a.at_.sr, a.at_.er⟩
  | .ite c t f, x, sc, h => by
    cases h with
    | ite hc h1 h2 =>
      have hT := soundSs hC hG hok t _ sc h1
      have hF := soundSs hC hG hok f _ sc h2
      intro env ρ β H s A k X E' a hw
      simp only [wS] at hw
      refine wpAny_If (wpAny_mono ((sound (mb := mb) hC hG c _ sc hc).2 env ρ β H s A _ _ E' a.at_ hw) (fun b s1 h1 => ?_) fun _ _ e => e)
      obtain ⟨β1, H1, hb, t1, sr1⟩ := h1
      have er1 := a.at_.er.step t1
      have tF := t1.toF a.at_.er.disj
      cases b with
      | true => exact wpAny_mono (hT env ρ β1 H1 s1 A k X E' (a.step sr1 er1) (hb.1 rfl)) (fun _ _ q => q.after tF) fun _ _ e => e
      | false => exact wpAny_mono (hF env ρ β1 H1 s1 A k X E' (a.step sr1 er1) (hb.2 rfl)) (fun _ _ q => q.after tF) fun _ _ e => e
  | .forR y args body, x, sc, h => by
    cases h with
    | forR h2 h3 h4 h5 =>
      have hB := soundSs hC hG hok body _ sc h5
      intro env ρ β H s A k X E' a hw
      simp only [wS] at hw
      exact for_sound (X := X) a h2 hB range_folded fun E' => src_range (X := fun a H1 => X a ρ H1) (W := fun G items H₁ => wFor G (fun v ρ' H' k' => wSs C body (ρ'.set y v) H' k' X) items ρ H₁ k) (soundAll hC hG args _ sc h4) h4.plain h3 a.at_ hw
  | .forS y src body, x, sc, h => by
    cases h with
    | forS h2 h3 h4 =>
      have hB := soundSs hC hG hok body _ sc h4
      intro env ρ β H s A k X E' a hw
      simp only [wS] at hw
      exact for_sound (X := X) a h2 hB (folded_of h3) fun E' => src_seq (X := fun a H1 => X a ρ H1) (W := fun G items H₁ => wFor G (fun v ρ' H' k' => wSs C body (ρ'.set y v) H' k' X) items ρ H₁ k) (sound hC hG src _ sc h3) a.at_ hw
  | .while_ c body, x, sc, h => by
    cases h with
    | while_ h1 h2 => exact while_sound hC hG h1 (soundSs hC hG hok body _ sc h2)
  | .raise c m, x, sc, h => by
    intro env ρ β H s A k X E' a hw
    simp only [wS, hok] at hw
    exact absurd hw.1 (by decide)
  | .try_ body hs, x, sc, h => by
    cases h with
    | try_ h =>
      have hB := soundSs hC hG hok body _ sc h
      intro env ρ β H s A k X E' a hw
      simp only [wS] at hw
      refine wpAny_Try_except (wpAny_mono (hB env ρ β H s A k _ _ a hw) (fun f s1 h1 => ?_) fun _ _ e => e)
      obtain ⟨r, β1, ρ1, H1, hk, hf, t1, sr1, er1⟩ := h1
      cases r with
      | none => cases hf; exact wpAny_execs_nil ⟨none, β1, ρ1, H1, hk, rfl, t1, sr1, er1⟩
      | some v => obtain ⟨u, rfl, vr⟩ := hf; exact ⟨some v, β1, ρ1, H1, hk, ⟨u, rfl, vr⟩, t1, sr1, er1⟩
  | .setAttr o m v, x, sc, h => by cases h
theorem soundSs (hC : CallOK prog w h₀ fs mg n C.call) (hG : C.glob = P.glob) (hok : C.ok = false) : ∀ (es : List S) (xs : List Stmt) (sc : Scope), MSs fs sc es xs → SoundSs prog w h₀ P fs mg mb n C sc es xs
  | [], _, _, h => by
    cases h
    exact fun env ρ β H s A k X E' a hw => wpAny_execs_nil ⟨none, β, ρ, H, by simpa only [wSs] using hw, rfl, StepF.refl env β s, a.at_.sr, a.at_.er⟩
  | e :: es, xs, sc, h => by
    cases h with
    | cons g1 g2 =>
      have h1 := soundS hC hG hok e _ sc g1
      have h2 := soundSs hC hG hok es _ sc g2
      intro env ρ β H s A k X E' a hw
      simp only [wSs] at hw
      refine wpAny_execs_cons (wpAny_mono (h1 env ρ β H s A _ X E' a hw) (fun f s1 q => ?_) fun _ _ e => e)
      obtain ⟨r, β1, ρ1, H1, hk, hf, t1, sr1, er1⟩ := q
      cases r with
      | none => cases hf; exact wpAny_mono (h2 env ρ1 β1 H1 s1 A k X E' (a.step sr1 er1) hk) (fun _ _ q => q.after t1) fun _ _ e => e
      | some v => obtain ⟨u, rfl, vr⟩ := hf; exact ⟨some v, β1, ρ1, H1, hk, ⟨u, rfl, vr⟩, t1, sr1, er1⟩
end

end
end Mine

namespace Mine
open PySem

/-- a def of the text is the mini function -/
structure FnOK (fs : List String) (mg : Str → Option Value) (h₀ : Heap) (f : String) (fn : Fn) (r : Addr) (o : Obj) (fd : FuncData) (body : List Stmt) : Prop where
  named : mg (Str.ofString f) = some (.ref r)
  obj : h₀.get? r = some o
  data : o.data = .func fd
  code : h₀.CodeRec fd.code fd.qualname
  bodyEq : fd.body = .stmts body
  clo : fd.closure = []
  glob : fd.globals = mainGlobals
  bltn : fd.builtins = builtinsNs
  kind : fd.scope.kind = .function
  co : fd.scope.isCoroutine = false
  gen : fd.scope.isGenerator = false
  ok : MSs fs fd.scope fn.body body
  bind : ∀ us, fn.params.length = us.length → bindArgs fd ⟨us, []⟩ = pure ((fn.params.map Str.ofString).zip us)
  par : fn.params.all (fun x => isLoc fd.scope (Str.ofString x)) = true
  nodup : fn.params.Nodup
  nofree : fd.scope.names.all (fun x => x.2 != .free) = true

theorem lookup_mem {α β : Type} [BEq α] [LawfulBEq α] {x : α} {v : β} : ∀ {l : List (α × β)}, l.lookup x = some v → (x, v) ∈ l
  | (y, u) :: l, h => by
    rw [List.lookup_cons] at h
    split at h
    · rename_i e; cases h; rw [beq_iff_eq.mp e]; exact List.mem_cons_self
    · exact List.mem_cons_of_mem _ (lookup_mem h)

theorem cells_has : ∀ (l : List (Str × NameKind)) (n : Nat) (acc : List (Str × Addr)) (x : Str), ((x, NameKind.cell) ∈ l ∨ (acc.lookup x).isSome = true) → ((cellsFrom n l acc).lookup x).isSome = true
  | [], _, _, _, h => by rcases h with h | h; · cases h
                         · exact h
  | (y, k) :: l, n, acc, x, h => by
    unfold cellsFrom
    split
    · rename_i hk
      refine cells_has l _ _ x ?_
      rcases h with h | h
      · rcases List.mem_cons.mp h with e | e
        · cases e; right; rw [List.lookup_cons]; simp
        · exact .inl e
      · right; rw [List.lookup_cons]; split; · rfl
        · exact h
    · rename_i hk
      refine cells_has l _ _ x ?_
      rcases h with h | h
      · rcases List.mem_cons.mp h with e | e
        · cases e; exact absurd rfl hk
        · exact .inl e
      · exact .inr h

theorem bindL_not {kk : Str → Option NameKind} {x : Str} : ∀ {l : List (Str × Value)} {m : Str → Option Value}, (∀ p ∈ l, p.1 ≠ x) → bindL kk l m x = m x
  | [], _, _ => rfl
  | (y, v) :: l, m, h => by
    unfold bindL
    rw [bindL_not fun p hp => h p (List.mem_cons_of_mem _ hp)]
    have : x ≠ y := fun e => h _ List.mem_cons_self e.symm
    split
    · exact if_neg this
    · rfl
theorem bindC_not {kk : Str → Option NameKind} {x : Str} : ∀ {l : List (Str × Value)} {m : Str → Option Value}, (∀ p ∈ l, p.1 ≠ x) → bindC kk l m x = m x
  | [], _, _ => rfl
  | (y, v) :: l, m, h => by
    unfold bindC
    rw [bindC_not fun p hp => h p (List.mem_cons_of_mem _ hp)]
    have : x ≠ y := fun e => h _ List.mem_cons_self e.symm
    split
    · rfl
    · exact if_neg this

theorem zip_names {ps : List String} {us : List Value} {x : String} (h : x ∉ ps) : ∀ p ∈ (ps.map Str.ofString).zip us, p.1 ≠ Str.ofString x := fun p hp e => by
  have := (List.of_mem_zip hp).1
  obtain ⟨y, hy, ey⟩ := List.mem_map.mp this
  rw [← ey] at e
  exact h (ofString_inj e ▸ hy)

theorem bindL_spec {kk : Str → Option NameKind} {β : List Addr} : ∀ {ps : List String} {vs : List V} {us : List Value} {m : Str → Option Value}, ps.Nodup → VRs β vs us → ∀ x v, bindP ps vs x = some v → kk (Str.ofString x) = some .local →
    ∃ u, bindL kk ((ps.map Str.ofString).zip us) m (Str.ofString x) = some u ∧ VR β v u
  | [], _, _, _, _, _, x, v, h, _ => by unfold bindP at h; cases h
  | _ :: _, [], _, _, _, _, x, v, h, _ => by cases h
  | p :: ps, a :: vs, us, m, nd, hv, x, v, h, hk => by
    cases hv with
    | @cons _ u _ us hu hr =>
      rw [List.nodup_cons] at nd
      show ∃ u', bindL kk ((Str.ofString p, u) :: (ps.map Str.ofString).zip us) m (Str.ofString x) = some u' ∧ VR β v u'
      unfold bindL
      unfold bindP Env.set at h
      by_cases e : x = p
      · subst e
        rw [if_pos rfl] at h; cases h
        rw [bindL_not (zip_names nd.1), if_pos hk]
        exact ⟨u, by simp, hu⟩
      · rw [if_neg e] at h
        exact bindL_spec nd.2 hr x v h hk

theorem bindC_spec {kk : Str → Option NameKind} {β : List Addr} : ∀ {ps : List String} {vs : List V} {us : List Value} {m : Str → Option Value}, ps.Nodup → VRs β vs us → ∀ x v, bindP ps vs x = some v → kk (Str.ofString x) ≠ some .local →
    ∃ u, bindC kk ((ps.map Str.ofString).zip us) m (Str.ofString x) = some u ∧ VR β v u
  | [], _, _, _, _, _, x, v, h, _ => by unfold bindP at h; cases h
  | _ :: _, [], _, _, _, _, x, v, h, _ => by cases h
  | p :: ps, a :: vs, us, m, nd, hv, x, v, h, hk => by
    cases hv with
    | @cons _ u _ us hu hr =>
      rw [List.nodup_cons] at nd
      show ∃ u', bindC kk ((Str.ofString p, u) :: (ps.map Str.ofString).zip us) m (Str.ofString x) = some u' ∧ VR β v u'
      unfold bindC
      unfold bindP Env.set at h
      by_cases e : x = p
      · subst e
        rw [if_pos rfl] at h; cases h
        rw [bindC_not (zip_names nd.1), if_neg hk]
        exact ⟨u, by simp, hu⟩
      · rw [if_neg e] at h
        exact bindC_spec nd.2 hr x v h hk

section
variable {prog : Program} {w : World} {h₀ : Heap} {P : Prog} {fs : List String} {mg mb : Str → Option Value} {n : Nat}

theorem callOK (N : Names P fs mg mb h₀) (F : ∀ f ∈ fs, ∃ fn r o fd body, P.fn f = some fn ∧ FnOK fs mg h₀ f fn r o fd body) : ∀ n, CallOK prog w h₀ fs mg n (callN P false n)
  | 0 => fun f _ r _ vs H Q X h => h.elim
  | n + 1 => fun f hf r hr vs H Q X h A β s E us amb sr hv => by
    obtain ⟨fn, r', o, fd, body, hfn, ok⟩ := F f hf
    have := ok.named
    rw [hr] at this
    cases this
    unfold callN at h
    rw [hfn] at h
    obtain ⟨hlen, h⟩ := h
    have hlen' : fn.params.length = us.length := hlen.trans hv.length
    have hsize : ∀ b ∈ β, b < s.heap.objs.size := fun b hb => by obtain ⟨o, e⟩ := sr.mem hb; exact Heap.lt_size e
    have hko : ∀ y, (callEnvC fd s.heap.objs.size r).kindOf y = fd.scope.names.lookup y := fun y => rfl
    have hpar : ∀ x ∈ fn.params, fd.scope.names.lookup (Str.ofString x) = some .local ∨ fd.scope.names.lookup (Str.ofString x) = some .cell := fun x hx => by
      have := List.all_eq_true.mp ok.par x hx
      unfold isLoc at this
      split at this
      · rename_i e; exact .inl e
      · rename_i e; exact .inr e
      · cases this
    refine wpAny_call (codeAny_call_cells (binds := (fn.params.map Str.ofString).zip us) (by have := amb.depth; unfold recursionLimit; omega) (sr.kept _ _ ok.obj) ok.data (N.nolimit.keeps sr.kept) (ok.code.keeps sr.kept) ok.bodyEq (ok.bind us hlen') ok.clo (fun x hx => ?_) (fun s₁ x => ?_) ok.co ok.gen ok.kind)
    · have hm := (List.of_mem_zip hx).1
      obtain ⟨y, hy, ey⟩ := List.mem_map.mp hm
      rw [← ey]
      rcases hpar y hy with q | q
      · exact .inl q
      · exact .inr ⟨q, cells_has _ _ _ _ (.inl (lookup_mem q))⟩
    · obtain ⟨h₁, tk, rfl, hkeep⟩ := x.done
      have habove : ∀ y c, (callEnvC fd s.heap.objs.size r).cells.lookup y = some c → s.heap.objs.size < c := fun y c hc => x.above y c (mem_of_lookup hc)
      have er : ER (callEnvC fd s.heap.objs.size r) (bindP fn.params vs) β h₁ := by
        refine ⟨ok.kind, ok.glob, ok.bltn, ⟨_, x.toInCall.ns, fun y v hy hk _ => bindL_spec ok.nodup hv y v hy hk⟩, fun y c hc => ⟨_, x.cell y c hc⟩, fun y v hy hk => ?_, fun y hk => ?_, fun y z c hy hz => ?_, ?_, fun y c hc => ⟨?_, ?_⟩⟩
        · have hc : fd.scope.names.lookup (Str.ofString y) = some .cell := by
            rcases hk with hk | hk
            · exact hk
            · have := List.all_eq_true.mp ok.nofree _ (lookup_mem hk); simp at this
          obtain ⟨c, hcl⟩ := Option.isSome_iff_exists.mp (cells_has fd.scope.names (s.heap.objs.size + 1) [] _ (.inl (lookup_mem hc)))
          obtain ⟨u, hu, hr⟩ := bindC_spec (kk := (callEnvC fd s.heap.objs.size r).kindOf) (m := fun _ => none) ok.nodup hv y v hy (by rw [hko, hc]; decide)
          exact ⟨c, u, hcl, hu ▸ x.cell _ c hcl, hr⟩
        · have hc : fd.scope.names.lookup y = some .cell := by
            rcases hk with hk | hk
            · exact hk
            · have := List.all_eq_true.mp ok.nofree _ (lookup_mem hk); simp at this
          exact Option.isSome_iff_exists.mp (cells_has fd.scope.names (s.heap.objs.size + 1) [] _ (.inl (lookup_mem hc)))
        · exact name_of_addr x.apart (mem_of_lookup hy) (mem_of_lookup hz)
        · exact fun hm => Nat.lt_irrefl _ (hsize _ hm)
        · exact fun hm => Nat.lt_asymm (habove y c hc) (hsize _ hm)
        · exact Nat.ne_of_gt (habove y c hc)
      have ownBig : ∀ b, Own (callEnvC fd s.heap.objs.size r) b → s.heap.objs.size ≤ b := fun b hb => by
        rcases hb with rfl | ⟨y, hy⟩
        · exact Nat.le_refl _
        · exact Nat.le_of_lt (habove y b hy)
      have a : AtS P fs mg mb h₀ n fd.scope (callEnvC fd s.heap.objs.size r) (bindP fn.params vs) β H { s with heap := h₁, toks := tk } (A.deeper (callEnvC fd s.heap.objs.size r)) :=
        ⟨⟨N, ⟨amb.handled, by have := amb.depth; show A.depth + 1 + n < 900; omega, by have := amb.units; show A.units + 3 + 5 * n < 9000; omega⟩, sr.keeps hkeep, er, fun y => rfl⟩, rfl, fun b hb => by
          cases e : h₀.get? b with
          | none => rfl
          | some o => exact absurd (Heap.lt_size (sr.kept _ _ e)) (Nat.not_lt.mpr (ownBig b hb))⟩
      refine wpAny_mono (soundSs (mb := mb) (callOK N F n) rfl rfl fn.body body fd.scope ok.ok _ _ _ _ _ _ _ _ (fun e s' => wpAny (model prog w) (A.deeper (callEnvC fd s.heap.objs.size r)) (leaving (callEnvC fd s.heap.objs.size r) e) (fun _ s'' => E e s'') (fun e' s'' => E e' s'') s') a h) (fun fl s' q => ?_) fun _ _ e => e
      obtain ⟨rv, β', ρ', H', hk, hf, t, sr', er'⟩ := q
      have st : Step β s β' s' := by
        obtain ⟨h2, t2, rfl⟩ := t.same
        refine ⟨⟨h2, t2, rfl⟩, t.grow, fun b o e hb => t.keep b o (hkeep b o e) hb fun ho => Nat.not_lt.mpr (ownBig b ho) (Heap.lt_size e), fun b hb => ?_⟩
        rcases t.fresh b hb with q | q
        · exact .inl q
        · right
          cases e : s.heap.get? b with
          | none => rfl
          | some o => have := hkeep b o e; rw [this] at q; cases q
      cases rv with
      | none => cases hf; exact ⟨β', .none, H', hk, st, sr', .none⟩
      | some v => obtain ⟨u, rfl, vr⟩ := hf; exact ⟨β', v, H', hk, st, sr', vr⟩
end
end Mine

namespace Mine
open PySem PySem.Calls PyProof.Rows

theorem zip_lookup : ∀ {ns : List Str} {us : List Value}, ns.Nodup → ns.length = us.length → ns.filterMap (fun n => ((ns.zip us).lookup n).map (n, ·)) = ns.zip us ∧ ns.filter (fun n => ((ns.zip us).lookup n).isNone) = []
  | [], [], _, _ => ⟨rfl, rfl⟩
  | n :: ns, u :: us, nd, hl => by
    rw [List.nodup_cons] at nd
    obtain ⟨h1, h2⟩ := zip_lookup nd.2 (by simpa using hl)
    have e : ∀ m ∈ ns, (List.zip (n :: ns) (u :: us)).lookup m = (ns.zip us).lookup m := fun m hm => by
      rw [List.zip_cons_cons, List.lookup_cons]
      have : (m == n) = false := beq_eq_false_iff_ne.mpr (by rintro rfl; exact nd.1 hm)
      rw [this]
    have e0 : (List.zip (n :: ns) (u :: us)).lookup n = some u := by rw [List.zip_cons_cons, List.lookup_cons]; simp
    constructor
    · rw [List.filterMap_cons, e0]
      show (n, u) :: _ = _
      have q : ∀ l : List Str, (∀ m ∈ l, m ∈ ns) → l.filterMap (fun m => ((List.zip (n :: ns) (u :: us)).lookup m).map (m, ·)) = l.filterMap (fun m => ((ns.zip us).lookup m).map (m, ·)) := by
        intro l
        induction l with
        | nil => intro _; rfl
        | cons a l ih => intro hl; rw [List.filterMap_cons, List.filterMap_cons, e a (hl a List.mem_cons_self), ih fun m hm => hl m (List.mem_cons_of_mem _ hm)]
      rw [q ns fun _ h => h, h1]; rfl
    · rw [List.filter_cons, e0]
      show List.filter _ ns = _
      rw [List.filter_congr (q := fun n => ((ns.zip us).lookup n).isNone) fun m hm => by rw [e m hm], h2]
  | [], _ :: _, _, h => by simp at h
  | _ :: _, [], _, h => by simp at h

theorem bind_plain {fd : FuncData} {ns : List Str} {us : List Value} (h1 : fd.params.posonlyargs = []) (h2 : fd.params.kwonlyargs = []) (h3 : fd.params.vararg = none) (h4 : fd.params.kwarg = none) (h5 : fd.params.args.map (·.arg) = ns) (h6 : fd.defaults = .none)
    (nd : ns.Nodup) (hl : ns.length = us.length) : bindArgs fd ⟨us, []⟩ = pure (ns.zip us) := by
  obtain ⟨z1, z2⟩ := zip_lookup nd hl
  unfold bindArgs
  simp only [h1, h2, h3, h4, h5, h6, List.map_nil, List.nil_append, List.forIn_nil, pure_bind, bind_pure_comp]
  have : seqItems? Value.none = pure none := rfl
  rw [this]
  simp [z1, hl, List.take_of_length_le]
  have z3 : ∀ a ∈ ns, (List.lookup a (ns.zip us)).isSome = true := fun a ha => by
    cases e : List.lookup a (ns.zip us) with
    | some _ => rfl
    | none => exact absurd (show a ∈ ns.filter (fun n => ((ns.zip us).lookup n).isNone) from List.mem_filter.mpr ⟨ha, by rw [e]; rfl⟩) (by rw [z2]; simp)
  intro x hx hne
  obtain ⟨v, hv⟩ := Option.isSome_iff_exists.mp (z3 x hx)
  exact absurd (lookup_mem hv) (hne v)

noncomputable def fnCheck (fs : List String) (fn : Fn) (d : DefRec) : Bool :=
  d.params.posonlyargs.isEmpty && d.params.kwonlyargs.isEmpty && d.params.vararg.isNone && d.params.kwarg.isNone && (d.params.args.map (·.arg) == fn.params.map Str.ofString) && decide (d.scope.kind = .function) && !d.scope.isCoroutine && !d.scope.isGenerator &&
  d.scope.names.all (fun x => x.2 != .free) && fn.params.all (fun x => isLoc d.scope (Str.ofString x)) && decide fn.params.Nodup && (chkSs fs d.scope fn.body d.body).isSome
noncomputable def progCheck (p : Program) (fs : List String) (P : Prog) : Bool := fs.all fun f => match P.fn f with
  | some fn => (recsOf p).any fun d => d.name == Str.ofString f && fnCheck fs fn d
  | none => false

theorem nodup_map {l : List String} (h : l.Nodup) : (l.map Str.ofString).Nodup := by
  induction l with
  | nil => simp
  | cons a l ih =>
    rw [List.nodup_cons] at h
    rw [List.map_cons, List.nodup_cons]
    refine ⟨fun hm => ?_, ih h.2⟩
    obtain ⟨b, hb, e⟩ := List.mem_map.mp hm
    exact h.1 (ofString_inj e ▸ hb)

theorem fns_of_top {p : Program} {loose : List Str} {mean : ExcName → Option Value} {mg mb : Str → Option Value} {h : Heap} {fs : List String} {P : Prog} (T : Top p loose mean mg mb h) (ok : progCheck p fs P = true) :
    ∀ f ∈ fs, ∃ fn r o fd body, P.fn f = some fn ∧ FnOK fs mg h f fn r o fd body := by
  intro f hf
  have := List.all_eq_true.mp ok f hf
  split at this
  · rename_i fn hfn
    obtain ⟨d, hd, hc⟩ := List.any_eq_true.mp this
    simp only [Bool.and_eq_true, fnCheck, decide_eq_true_eq, List.isEmpty_iff, Option.isNone_iff_eq_none, Bool.not_eq_true'] at hc
    obtain ⟨hn, ⟨⟨⟨⟨⟨⟨⟨⟨⟨⟨⟨c1, c2⟩, c3⟩, c4⟩, c5⟩, c6⟩, c7⟩, c8⟩, c9⟩, c10⟩, c11⟩, c12⟩⟩ := hc
    obtain ⟨a, o, pm, code, doc, e1, e2, e3, e4⟩ := T.fn d hd
    have hn := beq_iff_eq.mp hn
    refine ⟨fn, a, o, _, d.body, hfn, hn ▸ e1, e2, e3, e4, rfl, rfl, rfl, rfl, c6, c7, c8, (Option.get _ c12).down, fun us hl => ?_, c10, c11, c9⟩
    refine bind_plain c1 c2 c3 c4 (beq_iff_eq.mp c5) rfl ?_ (by simpa using hl)
    exact nodup_map c11
  · cases this

noncomputable def bltNames : List String := ["len", "isinstance", "list", "tuple", "range", "int", "bool", "str", "min"]

theorem bltn_mem {x : String} {v : Value} (h : bltn x = some v) : x ∈ bltNames ∧ bootBuiltins (Str.ofString x) = some v := by
  unfold bltn at h
  split at h <;> first | (cases h; exact ⟨by decide, by rfl⟩) | cases h

noncomputable def nameCheck (p : Program) (loose : List Str) : Bool := bltNames.all fun x => let y := Str.ofString x
  !startupNames.contains y && !loose.contains y && !((recsOf p).map (·.name)).contains y && !((litsOf p).map (·.1)).contains y && !((clssOf p loose).map (·.name)).contains y

theorem names_of_top {p : Program} {loose : List Str} {mean : ExcName → Option Value} {mg mb : Str → Option Value} {h : Heap} {fs : List String} {P : Prog} (T : Top p loose mean mg mb h) (ok : progCheck p fs P = true) (ok2 : nameCheck p loose = true)
    (hg : ∀ x v, P.glob x = some v → ∃ u, mg (Str.ofString x) = some u ∧ VR [] v u) : Names P fs mg mb h := by
  refine ⟨T.g, T.b, T.nolimit, fun x v hx => ?_, hg, fun f hf => ?_⟩
  · obtain ⟨hm, hb⟩ := bltn_mem hx
    have := List.all_eq_true.mp ok2 x hm
    simp only [Bool.and_eq_true, Bool.not_eq_true', List.contains_eq_mem, decide_eq_false_iff_not] at this
    obtain ⟨⟨⟨⟨a1, a2⟩, a3⟩, a4⟩, a5⟩ := this
    refine ⟨T.free _ a1 a2 a3 a4 a5, ?_⟩
    rw [T.builtins _ (fun e => a1 (by rw [e]; decide)), hb]
  · obtain ⟨fn, r, o, fd, body, _, ok⟩ := fns_of_top T ok f hf
    exact ⟨r, o, fd, ok.named, ok.obj, ok.data⟩

theorem frozen_ints {us : List Value} {is : List Int} (h : IntsAre us is) : VRs [] (is.map .int) us := by
  induction h with
  | nil => exact .nil
  | cons n t _ ih => exact .cons (.int n t) ih

end Mine

namespace Mine
open PySem PySem.Calls PyProof.Rows PySem.W

theorem law_call {p prog : Program} {w : World} {loose : List Str} {mean : ExcName → Option Value} {mg mb : Str → Option Value} {s : Shared} {fs : List String} {P : Prog} {fa a : Addr} {us : List Value} {is : List Int} {E : Value → Shared → Prop}
    (T : Top p loose mean mg mb s.heap) (hmg : mg (Str.ofString "law") = some (.ref fa)) (hL : s.heap.IsList a us.toArray) (hI : IntsAre us is) (hlen : is.length ≤ 63) (ok : progCheck p fs P = true) (ok2 : nameCheck p loose = true)
    (hgl : ∀ x v, P.glob x = some v → ∃ u, mg (Str.ofString x) = some u ∧ VR [] v u) (hlaw : "law" ∈ fs)
    (main : ∀ is : List Int, is.length ≤ 63 → callN P false 200 "law" [.ref 0] [.frozen (is.map .int)] (fun v _ => v = .bool true) (fun _ _ => False)) :
    wpAny (model prog w) callerA (call (.ref fa) [.ref a]) (fun v s' => v = .bool true ∧ (∀ b o, s.heap.get? b = some o → s'.heap.get? b = some o) ∧ s'.os = s.os ∧ s'.gens = s.gens) E s := by
  have N := names_of_top T ok ok2 hgl
  obtain ⟨o, ho, hc, n, hd⟩ := hL
  have hf := frozen_ints hI
  refine wpAny_mono (callOK (prog := prog) (w := w) N (fns_of_top T ok) 200 "law" hlaw fa hmg _ _ _ _ (main is hlen) callerA [a] s E [.ref a] ⟨rfl, by decide, by decide⟩ ?_ (.cons (.ref rfl) .nil)) (fun v s' q => ?_) fun _ _ e => e
  · refine ⟨fun _ _ e => e, by simp, .cons (.frozen ho hc hd (VRs.mono (List.nil_prefix) hf) ?_) .nil⟩
    rw [List.length_map]; exact Nat.le_trans hlen (by decide)
  · obtain ⟨β', v', H', e, t, sr, vr⟩ := q
    subst e
    cases vr
    obtain ⟨h', tk, rfl⟩ := t.same
    exact ⟨rfl, sr.kept, rfl, rfl⟩

theorem glob_int {p : Program} {loose : List Str} {mean : ExcName → Option Value} {mg mb : Str → Option Value} {h : Heap} (T : Top p loose mean mg mb h) {x : Str} {i : Int} (e : valOf p x = some (.int i)) : ∃ u, mg x = some u ∧ VR [] (.int i) u := by
  obtain ⟨v, hv, hr⟩ := T.const x _ e
  have := hr h
  cases this with
  | int i t => exact ⟨_, hv, .int i t⟩
theorem glob_str {p : Program} {loose : List Str} {mean : ExcName → Option Value} {mg mb : Str → Option Value} {h : Heap} (T : Top p loose mean mg mb h) {x : Str} {i : Str} (e : valOf p x = some (.str i)) : ∃ u, mg x = some u ∧ VR [] (.str i) u := by
  obtain ⟨v, hv, hr⟩ := T.const x _ e
  have := hr h
  cases this with
  | str i t => exact ⟨_, hv, .str i t⟩
end Mine

namespace Mine
open PySem

theorem wFor_ind {G : Hp → Prop} {step : V → Env → Hp → SPost → Prop} {k : SPost} (I : List V → Env → Hp → Prop)
    (hstep : ∀ v rest ρ H, I (v :: rest) ρ H → G H ∧ ∀ k' : SPost, (∀ ρ' H', I rest ρ' H' → k' none ρ' H') → (∀ r ρ' H', k (some r) ρ' H' → k' (some r) ρ' H') → step v ρ H k')
    (hend : ∀ ρ H, I [] ρ H → G H ∧ k none ρ H) : ∀ {vs : List V} {ρ : Env} {H : Hp}, I vs ρ H → wFor G step vs ρ H k
  | [], ρ, H, h => by unfold wFor; exact hend ρ H h
  | v :: vs, ρ, H, h => by
    unfold wFor
    obtain ⟨g, hs⟩ := hstep v vs ρ H h
    exact ⟨g, hs _ (fun ρ' H' hI => wFor_ind I hstep hend hI) fun r ρ' H' hk => hk⟩

theorem wLoop_ind {G : Hp → Prop} {step : V → Hp → (Option V → Hp → Prop) → Prop} {k : List V → Hp → Prop} (I : List V → List V → Hp → Prop)
    (hstep : ∀ v rest acc H, I (v :: rest) acc H → G H ∧ ∀ k' : Option V → Hp → Prop, (∀ u H', I rest (acc ++ [u]) H' → k' (some u) H') → (∀ H', I rest acc H' → k' none H') → step v H k')
    (hend : ∀ acc H, I [] acc H → G H ∧ k acc H) : ∀ {vs acc : List V} {H : Hp}, I vs acc H → wLoop G step vs acc H k
  | [], acc, H, h => by unfold wLoop; exact hend acc H h
  | v :: vs, acc, H, h => by
    unfold wLoop
    obtain ⟨g, hs⟩ := hstep v vs acc H h
    exact ⟨g, hs _ (fun u H' hI => wLoop_ind I hstep hend hI) fun H' hI => wLoop_ind I hstep hend hI⟩

theorem wWhile_ind {test : Env → Hp → (Bool → Hp → Prop) → Prop} {body : Env → Hp → SPost → Prop} {k : SPost} (I : Nat → Env → Hp → Prop)
    (hstep : ∀ m ρ H, I m ρ H → ∀ k' : SPost, (∀ m' ρ' H', m' < m → I m' ρ' H' → k' none ρ' H') → (∀ r ρ' H', k (some r) ρ' H' → k' (some r) ρ' H') → test ρ H fun b H1 => wIf b (body ρ H1 k') (k none ρ H1)) :
    ∀ {n m : Nat} {ρ : Env} {H : Hp}, m < n → I m ρ H → wWhile test body n ρ H k
  | 0, _, _, _, hm, _ => absurd hm (Nat.not_lt_zero _)
  | n + 1, m, ρ, H, hm, h => by
    unfold wWhile
    exact hstep m ρ H h _ (fun m' ρ' H' hl hI => wWhile_ind I hstep (by omega) hI) fun r ρ' H' hk => hk
theorem wWhile_ex {test : Env → Hp → (Bool → Hp → Prop) → Prop} {body : Env → Hp → SPost → Prop} {k : SPost} (I : Nat → Env → Hp → Prop) {m : Nat} {ρ : Env} {H : Hp} (h : I m ρ H)
    (hstep : ∀ m ρ H, I m ρ H → ∀ k' : SPost, (∀ m' ρ' H', m' < m → I m' ρ' H' → k' none ρ' H') → (∀ r ρ' H', k (some r) ρ' H' → k' (some r) ρ' H') → test ρ H fun b H1 => wIf b (body ρ H1 k') (k none ρ H1)) :
    ∃ n, wWhile test body n ρ H k := ⟨m + 1, wWhile_ind I hstep (Nat.lt_succ_self m) h⟩

theorem pre_get {H H' : Hp} (hp : H <+: H') {a : Nat} {o : O} (h : H[a]? = some o) : H'[a]? = some o := by
  obtain ⟨t, rfl⟩ := hp
  rw [List.getElem?_append_left (List.getElem?_eq_some_iff.mp h).1]; exact h
theorem pre_new (H : Hp) (o : O) : H <+: H ++ [o] := List.prefix_append _ _
theorem get_new (H : Hp) (o : O) : (H ++ [o])[H.length]? = some o := by simp

theorem seqOf_list {H : Hp} {a : Nat} {xs : List V} (h : H[a]? = some (.list xs)) : seqOf H a = some xs := by unfold seqOf; rw [h]

theorem wIf_t {p q : Prop} : wIf true p q = p := by unfold wIf; simp
theorem wIf_f {p q : Prop} : wIf false p q = q := by unfold wIf; simp


theorem wSs_step {C : Ctx} {s : S} {ss : List S} {ρ : Env} {H : Hp} {k : SPost} {X : SXP} (h : ∀ K : SPost, (∀ ρ' H', wSs C ss ρ' H' k X → K none ρ' H') → (∀ v ρ' H', k (some v) ρ' H' → K (some v) ρ' H') → wS C s ρ H K X) : wSs C (s :: ss) ρ H k X := by
  simp only [wSs]
  exact h _ (fun _ _ q => q) fun _ _ _ q => q

theorem add_ii (H : Hp) (i j : Int) : addV (.int i) (.int j) H = some (.int (i + j), H) := rfl
theorem less_ii (H : Hp) (i j : Int) : lessV H (.int i) (.int j) = some (decide (i < j)) := rfl
theorem eqD_ii (H : Hp) (i j : Int) : eqD H (.int i) (.int j) = some (i == j) := by simp [eqD, readD, PyData.canLay0, PyData.eqv]
theorem eqD_in (H : Hp) (i : Int) : eqD H (.int i) .none = some false := by simp [eqD, readD, PyData.canLay0, PyData.eqv]
theorem eqD_ni (H : Hp) (i : Int) : eqD H .none (.int i) = some false := by simp [eqD, readD, PyData.canLay0, PyData.eqv]
theorem eqD_nn (H : Hp) : eqD H .none .none = some true := by simp [eqD, readD, PyData.canLay0, PyData.eqv]
theorem eqD_bb (H : Hp) (i j : Bool) : eqD H (.bool i) (.bool j) = some (i == j) := by simp [eqD, readD, PyData.canLay0, PyData.eqv]
theorem is_int (i : Int) : isSame (.int i) .none = some false := by simp [isSame]
theorem is_none : isSame .none .none = some true := by simp [isSame]
theorem is_bool (b : Bool) : isSame (.bool b) .none = some false := by simp [isSame]

theorem mapM_asInt : ∀ (is : List Int), (is.map V.int).mapM asInt = some is
  | [] => rfl
  | i :: is => by rw [List.map_cons, List.mapM_cons, mapM_asInt is]; rfl

theorem mapM_read (n : Nat) (H : Hp) : ∀ (is : List Int), (is.map V.int).mapM (readD n H) = some (is.map PyData.int)
  | [] => rfl
  | i :: is => by rw [List.map_cons, List.mapM_cons, mapM_read n H is]; cases n <;> rfl

theorem canLay_ints : ∀ (is : List Int), PyData.canLayAll0 (is.map PyData.int) = true
  | [] => rfl
  | i :: is => by rw [List.map_cons, PyData.canLayAll0, canLay_ints is]; rfl

theorem inD_ints (H : Hp) (x : Int) (is : List Int) : inD H (.int x) (is.map .int) = some (decide (x ∈ is)) := by
  unfold inD
  rw [mapM_read]
  simp only [readD, canLay_ints, PyData.canLay0, Bool.and_self, if_true, Option.some.injEq]
  rw [List.any_map]
  induction is with
  | nil => rfl
  | cons i is ih =>
    rw [List.any_cons, ih]
    simp only [Function.comp, PyData.eqv, List.mem_cons]
    by_cases e : i = x
    · subst e; simp
    · have : x ≠ i := fun q => e q.symm
      simp [e, this]

/-- a list of whole numbers -/
noncomputable def LI (H : Hp) (a : Nat) (is : List Int) : Prop := H[a]? = some (.list (is.map .int))
theorem LI.pre {H H' : Hp} {a : Nat} {is : List Int} (h : LI H a is) (hp : H <+: H') : LI H' a is := pre_get hp h
theorem LI.mem {H : Hp} {a : Nat} {is : List Int} (h : LI H a is) (x : Int) : Mine.mem H (.int x) (.ref a) = some (decide (x ∈ is)) := by
  unfold LI at h; simp only [Mine.mem, h]; exact inD_ints H x is
theorem LI.seq {H : Hp} {a : Nat} {is : List Int} (h : LI H a is) : seqOf H a = some (is.map .int) := seqOf_list h
theorem normIdx_nat {i n : Nat} (h : i < n) : normIdx (i : Int) n = some i := by
  unfold normIdx
  have e : ¬ (i : Int) < 0 := by omega
  simp only [e, if_false]
  rw [if_pos ⟨by omega, by omega⟩]
  simp
theorem setAt_nat {xs : List V} {i : Nat} (h : i < xs.length) (v : V) : setAtV xs (i : Int) v = some (xs.set i v) := by
  unfold setAtV
  rw [if_pos ⟨by omega, by omega⟩]; simp
theorem set_seq {H : Hp} {a : Nat} {xs : List V} {i : Nat} (h : H[a]? = some (.list xs)) (hi : i < xs.length) (v : V) : setV (.ref a) (.int (i : Int)) v H = some (H.set a (.list (xs.set i v))) := by
  simp only [setV, h, setAt_nat hi, Option.map]
theorem item_seq {H : Hp} {a : Nat} {xs : List V} {i : Nat} {v : V} (h : seqOf H a = some xs) (hi : xs[i]? = some v) : itemV (.ref a) (.int (i : Int)) H = some v := by
  unfold itemV
  have hl := (List.getElem?_eq_some_iff.mp hi).1
  simp [h, normIdx_nat hl, hi]
theorem LI.item {H : Hp} {a : Nat} {is : List Int} (h : LI H a is) {i : Nat} {x : Int} (hi : is[i]? = some x) : itemV (.ref a) (.int (i : Int)) H = some (.int x) :=
  item_seq h.seq (by rw [List.getElem?_map, hi]; rfl)

theorem cut_to {α : Type} (xs : List α) (i : Nat) : cut xs none (some (i : Int)) = xs.take i := by
  unfold cut clampIdx
  have e : ¬ (i : Int) < 0 := by omega
  simp only [Option.elim, e, if_false, List.drop_zero, Nat.sub_zero]
  by_cases h : i ≤ xs.length
  · congr 1; omega
  · rw [List.take_of_length_le (by omega), List.take_of_length_le (by omega)]
theorem LI.sliceTo {H : Hp} {a : Nat} {is : List Int} (h : LI H a is) (i : Nat) : sliceV (.ref a) none (some (i : Int)) H = some (.ref H.length, H ++ [.list ((is.take i).map .int)]) := by
  unfold LI at h
  simp only [sliceV, h, cut_to, putNew, List.map_take]
theorem LI.new (H : Hp) (is : List Int) : LI (H ++ [.list (is.map .int)]) H.length is := get_new H _

/-- a list of lists of whole numbers -/
noncomputable def WH (H : Hp) (w : Nat) (W : List (List Int)) : Prop := ∃ rs : List V, H[w]? = some (.list rs) ∧ All2 (fun r is => ∃ b, r = .ref b ∧ LI H b is) rs W
theorem WH.pre {H H' : Hp} {a : Nat} {W : List (List Int)} (h : WH H a W) (hp : H <+: H') : WH H' a W :=
  let ⟨rs, h1, h2⟩ := h; ⟨rs, pre_get hp h1, h2.mono fun _ _ ⟨b, e, q⟩ => ⟨b, e, q.pre hp⟩⟩
theorem WH.item {H : Hp} {w : Nat} {W : List (List Int)} (h : WH H w W) {i : Nat} {row : List Int} (hi : W[i]? = some row) : ∃ b, itemV (.ref w) (.int (i : Int)) H = some (.ref b) ∧ LI H b row := by
  obtain ⟨rs, h1, h2⟩ := h
  obtain ⟨r, hr, b, rfl, hl⟩ := h2.get' hi
  exact ⟨b, item_seq (seqOf_list h1) hr, hl⟩
theorem WH.len {H : Hp} {w : Nat} {W : List (List Int)} (h : WH H w W) : lenV (.ref w) H = some (W.length : Int) := by
  obtain ⟨rs, h1, h2⟩ := h
  unfold lenV; simp [seqOf_list h1, h2.length]
theorem LI.len {H : Hp} {w : Nat} {W : List Int} (h : LI H w W) : lenV (.ref w) H = some (W.length : Int) := by
  unfold lenV; simp [h.seq]
theorem LI.isList {H : Hp} {w : Nat} {W : List Int} (h : LI H w W) : isInst (.ref w) ["list"] H = true := by
  unfold LI at h; simp [isInst, typesOf, h]
theorem WH.isList {H : Hp} {w : Nat} {W : List (List Int)} (h : WH H w W) : isInst (.ref w) ["list"] H = true := by
  obtain ⟨rs, h1, h2⟩ := h
  simp [isInst, typesOf, h1]
theorem inst_int (i : Int) (H : Hp) : isInst (.int i) ["int"] H = true := by simp [isInst, typesOf]
theorem inst_int_b (i : Int) (H : Hp) : isInst (.int i) ["bool"] H = false := by simp [isInst, typesOf]
theorem inst_bool_b (i : Bool) (H : Hp) : isInst (.bool i) ["bool"] H = true := by simp [isInst, typesOf]

theorem recvL {H : Hp} {a : Nat} {xs : List V} (h : H[a]? = some (.list xs)) : recvOk .append (.ref a) H = true ∧ recvOk .pop (.ref a) H = true ∧ recvOk .index (.ref a) H = true := by
  simp [recvOk, h]

theorem lim0 : (0 ≤ lim) = True := by simp
theorem lim1 : (0 + 1 ≤ lim) = True := by simp [lim]
theorem lim2 : (0 + 1 + 1 ≤ lim) = True := by simp [lim]
theorem lim3 : (0 + 1 + 1 + 1 ≤ lim) = True := by simp [lim]

noncomputable def rng (n : Nat) : List V := (List.range n).map fun k : Nat => V.int (k : Int)
theorem rangeI_rng (n : Nat) : (rangeI 0 (n : Int) 1).map V.int = rng n := by
  unfold rangeI rng
  rw [List.map_map]
  have : (if (0 : Int) < n then ((n : Int) - 0 - 1) / 1 + 1 else 0).toNat = n := by split <;> omega
  rw [this]
  refine List.map_congr_left fun k _ => ?_
  simp
theorem rng_len (n : Nat) : (rng n).length = n := by simp [rng]
theorem rng_get {n i : Nat} {v : V} (h : (rng n)[i]? = some v) : i < n ∧ v = .int (i : Int) := by
  unfold rng at h
  rw [List.getElem?_map] at h
  obtain ⟨j, hj, rfl⟩ := Option.map_eq_some_iff.mp h
  obtain ⟨hl, e⟩ := List.getElem?_eq_some_iff.mp hj
  simp at hl e; subst e; exact ⟨hl, rfl⟩
theorem range_nat {n : Nat} (h : n ≤ lim) : rangeOf [.int (n : Int)] = some (rangeI 0 (n : Int) 1) := by
  unfold rangeOf; simp [h]

theorem wFor_idx {G : Hp → Prop} {step : V → Env → Hp → SPost → Prop} {k : SPost} {vs : List V} (I : Nat → Env → Hp → Prop) {ρ : Env} {H : Hp} (h0 : I 0 ρ H)
    (hstep : ∀ i v ρ H, vs[i]? = some v → I i ρ H → G H ∧ ∀ k' : SPost, (∀ ρ' H', I (i + 1) ρ' H' → k' none ρ' H') → (∀ r ρ' H', k (some r) ρ' H' → k' (some r) ρ' H') → step v ρ H k')
    (hend : ∀ ρ H, I vs.length ρ H → G H ∧ k none ρ H) : wFor G step vs ρ H k := by
  refine wFor_ind (fun rest ρ H => ∃ i, rest = vs.drop i ∧ i ≤ vs.length ∧ I i ρ H) (fun v rest ρ H h => ?_) (fun ρ H h => ?_) ⟨0, by simp, by simp, h0⟩
  · obtain ⟨i, e, hi, hI⟩ := h
    have hv : vs[i]? = some v := by
      have : (vs.drop i)[0]? = some v := by rw [← e]; rfl
      simpa using this
    obtain ⟨g, hs⟩ := hstep i v ρ H hv hI
    refine ⟨g, fun k' h1 h2 => hs k' (fun ρ' H' hI' => h1 ρ' H' ⟨i + 1, ?_, (List.getElem?_eq_some_iff.mp hv).1, hI'⟩) h2⟩
    have : rest = (v :: rest).drop 1 := rfl
    rw [this, e, List.drop_drop]
  · obtain ⟨i, e, hi, hI⟩ := h
    have : vs.length ≤ i := by
      have := congrArg List.length e
      simp at this; omega
    have : i = vs.length := by omega
    subst this
    exact hend ρ H hI

theorem wLoop_idx {G : Hp → Prop} {step : V → Hp → (Option V → Hp → Prop) → Prop} {k : List V → Hp → Prop} {vs : List V} (I : Nat → List V → Hp → Prop) {H : Hp} (h0 : I 0 [] H)
    (hstep : ∀ i v acc H, vs[i]? = some v → I i acc H → G H ∧ ∀ k' : Option V → Hp → Prop, (∀ u H', I (i + 1) (acc ++ [u]) H' → k' (some u) H') → (∀ H', I (i + 1) acc H' → k' none H') → step v H k')
    (hend : ∀ acc H, I vs.length acc H → G H ∧ k acc H) : wLoop G step vs [] H k := by
  refine wLoop_ind (fun rest acc H => ∃ i, rest = vs.drop i ∧ i ≤ vs.length ∧ I i acc H) (fun v rest acc H h => ?_) (fun acc H h => ?_) ⟨0, by simp, by simp, h0⟩
  · obtain ⟨i, e, hi, hI⟩ := h
    have hv : vs[i]? = some v := by
      have : (vs.drop i)[0]? = some v := by rw [← e]; rfl
      simpa using this
    obtain ⟨g, hs⟩ := hstep i v acc H hv hI
    have hd : rest = vs.drop (i + 1) := by
      have : rest = (v :: rest).drop 1 := rfl
      rw [this, e, List.drop_drop]
    exact ⟨g, fun k' h1 h2 => hs k' (fun u H' hI' => h1 u H' ⟨i + 1, hd, (List.getElem?_eq_some_iff.mp hv).1, hI'⟩) fun H' hI' => h2 H' ⟨i + 1, hd, (List.getElem?_eq_some_iff.mp hv).1, hI'⟩⟩
  · obtain ⟨i, e, hi, hI⟩ := h
    have : vs.length ≤ i := by
      have := congrArg List.length e
      simp at this; omega
    have : i = vs.length := by omega
    subst this
    exact hend acc H hI

section
variable {P : Prog} {ok : Bool} {n : Nat} {H : Hp} {Q : Post} {X : XP}

theorem s_is_guest (hP : P.fn "is_guest" = some f_is_guest) {i m : Int} (h : Q (.bool (decide (0 ≤ i ∧ i < m))) H) : callN P ok (n + 1) "is_guest" [.int i, .int m] H Q X := by
  (unfold callN; rw [hP]; refine ⟨rfl, ?_⟩; unfold f_is_guest)
  (try simp only [wSs, wS, wE, wEs, wAnd, wOr, wP, wB, wIf_t, wIf_f, prim, binV, add_ii, cmpV, putNew, true_and, less_ii, bindT, eqD_ii, eqD_in, eqD_ni, eqD_nn, eqD_bb, is_int, is_none, is_bool, inst_int, inst_int_b, inst_bool_b, rangeI_rng, lim0, lim1, lim2, lim3, Env.set, Option.map, Option.bind, Bool.not_true, Bool.not_false, Bool.true_and, Bool.false_and, Bool.true_or, Bool.false_or, beq_self_eq_true, reduceIte, String.reduceEq, String.reduceBEq, reduceCtorEq, ↓reduceIte, List.length_nil, List.length_cons, List.length_map, bindP])
  have key : ∀ b, decide (0 ≤ i ∧ i < m) = b → Q (.bool b) H := fun b e => e ▸ h
  refine ⟨fun h1 => ⟨fun h2 => key _ ?_, fun h2 => key _ ?_⟩, fun h1 => key _ ?_⟩ <;> simp at h1 <;> (try simp at h2) <;> simp <;> omega

structure RowOk (row : List Int) (g m : Int) : Prop where
  low : ∀ x ∈ row, 0 ≤ x ∧ x < m
  ne : g ∉ row
  nodup : row.Nodup
  len : row.length ≤ 6

theorem s_is_row (hP : P.fn "is_row" = some f_is_row) (hP1 : P.fn "is_guest" = some f_is_guest) {r : Nat} {row : List Int} {g m : Int} (hr : LI H r row) (ok : RowOk row g m)
    (h : ∀ H', H <+: H' → Q (.bool true) H') : callN P b (n + 2) "is_row" [.ref r, .int g, .int m] H Q X := by
  have hl : row.length ≤ lim := Nat.le_trans ok.len (by decide)
  (unfold callN; rw [hP]; refine ⟨rfl, ?_⟩; unfold f_is_row)
  (try simp only [wSs, wS, wE, wEs, wAnd, wOr, wP, wB, wIf_t, wIf_f, prim, binV, add_ii, cmpV, putNew, true_and, less_ii, bindT, eqD_ii, eqD_in, eqD_ni, eqD_nn, eqD_bb, is_int, is_none, is_bool, inst_int, inst_int_b, inst_bool_b, rangeI_rng, lim0, lim1, lim2, lim3, Env.set, Option.map, Option.bind, Bool.not_true, Bool.not_false, Bool.true_and, Bool.false_and, Bool.true_or, Bool.false_or, beq_self_eq_true, reduceIte, String.reduceEq, String.reduceBEq, reduceCtorEq, ↓reduceIte, List.length_nil, List.length_cons, List.length_map, bindP, hr.isList, hr.len, range_nat hl])
  refine wFor_idx (fun i ρ H' => H <+: H' ∧ ρ "row" = some (.ref r) ∧ ρ "guest" = some (.int g) ∧ ρ "many" = some (.int m)) ⟨List.prefix_refl _, rfl, rfl, rfl⟩ (fun i v ρ H' hv hI => ⟨trivial, fun k' h1 h2 => ?_⟩) fun ρ H' hI => ⟨trivial, ?_⟩
  · obtain ⟨hi, rfl⟩ := rng_get hv
    obtain ⟨hp, e1, e2, e3⟩ := hI
    have hr' := hr.pre hp
    obtain ⟨x, hx⟩ : ∃ x, row[i]? = some x := ⟨_, List.getElem?_eq_getElem hi⟩
    (try simp only [wSs, wS, wE, wEs, wAnd, wOr, wP, wB, wIf_t, wIf_f, prim, binV, add_ii, cmpV, putNew, true_and, less_ii, bindT, eqD_ii, eqD_in, eqD_ni, eqD_nn, eqD_bb, is_int, is_none, is_bool, inst_int, inst_int_b, inst_bool_b, rangeI_rng, lim0, lim1, lim2, lim3, Env.set, Option.map, Option.bind, Bool.not_true, Bool.not_false, Bool.true_and, Bool.false_and, Bool.true_or, Bool.false_or, beq_self_eq_true, reduceIte, String.reduceEq, String.reduceBEq, reduceCtorEq, ↓reduceIte, List.length_nil, List.length_cons, List.length_map, bindP, e1, e2, e3, hr'.item hx])
    refine s_is_guest hP1 ?_
    have hxm := List.mem_of_getElem? hx
    have q1 : decide (0 ≤ x ∧ x < m) = true := by simpa using ok.low x hxm
    have q2 : (x == g) = false := by exact beq_eq_false_iff_ne.mpr (fun e => ok.ne (e ▸ hxm))
    have q3 : decide (x ∈ row.take i) = false := by
      simp only [decide_eq_false_iff_not]
      intro hm
      obtain ⟨j, hj, e⟩ := List.mem_iff_getElem.mp hm
      have hj' : j < i := by simp at hj; omega
      rw [List.getElem_take] at e
      obtain ⟨hi', e'⟩ := List.getElem?_eq_some_iff.mp hx
      exact List.pairwise_iff_getElem.mp ok.nodup j i (by omega) hi' hj' (by rw [e, e'])
    (try simp only [wSs, wS, wE, wEs, wAnd, wOr, wP, wB, wIf_t, wIf_f, prim, binV, add_ii, cmpV, putNew, true_and, less_ii, bindT, eqD_ii, eqD_in, eqD_ni, eqD_nn, eqD_bb, is_int, is_none, is_bool, inst_int, inst_int_b, inst_bool_b, rangeI_rng, lim0, lim1, lim2, lim3, Env.set, Option.map, Option.bind, Bool.not_true, Bool.not_false, Bool.true_and, Bool.false_and, Bool.true_or, Bool.false_or, beq_self_eq_true, reduceIte, String.reduceEq, String.reduceBEq, reduceCtorEq, ↓reduceIte, List.length_nil, List.length_cons, List.length_map, bindP, q1, q2, hr'.item hx, hr'.sliceTo i, (LI.new H' (row.take i)).mem x, q3])
    refine h1 _ _ ⟨hp.trans (pre_new _ _), ?_⟩
    (try simp only [wSs, wS, wE, wEs, wAnd, wOr, wP, wB, wIf_t, wIf_f, prim, binV, add_ii, cmpV, putNew, true_and, less_ii, bindT, eqD_ii, eqD_in, eqD_ni, eqD_nn, eqD_bb, is_int, is_none, is_bool, inst_int, inst_int_b, inst_bool_b, rangeI_rng, lim0, lim1, lim2, lim3, Env.set, Option.map, Option.bind, Bool.not_true, Bool.not_false, Bool.true_and, Bool.false_and, Bool.true_or, Bool.false_or, beq_self_eq_true, reduceIte, String.reduceEq, String.reduceBEq, reduceCtorEq, ↓reduceIte, List.length_nil, List.length_cons, List.length_map, bindP, e1, e2, e3])
  · (try simp only [wSs, wS, wE, wEs, wAnd, wOr, wP, wB, wIf_t, wIf_f, prim, binV, add_ii, cmpV, putNew, true_and, less_ii, bindT, eqD_ii, eqD_in, eqD_ni, eqD_nn, eqD_bb, is_int, is_none, is_bool, inst_int, inst_int_b, inst_bool_b, rangeI_rng, lim0, lim1, lim2, lim3, Env.set, Option.map, Option.bind, Bool.not_true, Bool.not_false, Bool.true_and, Bool.false_and, Bool.true_or, Bool.false_or, beq_self_eq_true, reduceIte, String.reduceEq, String.reduceBEq, reduceCtorEq, ↓reduceIte, List.length_nil, List.length_cons, List.length_map, bindP])
    exact h H' hI.1
end
end Mine

namespace Mine
open PySem

noncomputable def row (W : List (List Int)) (i : Nat) : List Int := W.getD i []
theorem row_get {W : List (List Int)} {i : Nat} (h : i < W.length) : W[i]? = some (row W i) := by
  unfold row; rw [List.getD_eq_getElem?_getD, List.getElem?_eq_getElem h]; rfl

structure WOk (W : List (List Int)) : Prop where
  pos : 1 ≤ W.length
  le : W.length ≤ 6
  rows : ∀ i, i < W.length → RowOk (row W i) i W.length

section
variable {P : Prog} {b : Bool} {n : Nat} {H : Hp} {Q : Post} {X : XP}

theorem s_need_wishes (hP : P.fn "need_wishes" = some f_need_wishes) (hP1 : P.fn "is_row" = some f_is_row) (hP2 : P.fn "is_guest" = some f_is_guest) (hG : P.glob "MOST_GUESTS" = some (.int 6)) {w : Nat} {W : List (List Int)} (hw : WH H w W) (ok : WOk W)
    (h : ∀ H', H <+: H' → Q .none H') : callN P b (n + 3) "need_wishes" [.ref w] H Q X := by
  have l1 := ok.pos
  have l2 := ok.le
  have hl : W.length ≤ lim := Nat.le_trans ok.le (by decide)
  have d1 : decide ((1 : Int) ≤ (W.length : Int)) = true := decide_eq_true (by omega)
  have d2 : decide ((W.length : Int) ≤ 6) = true := decide_eq_true (by omega)
  (unfold callN; rw [hP]; refine ⟨rfl, ?_⟩; unfold f_need_wishes)
  (try simp only [wSs, wS, wE, wEs, wAnd, wOr, wP, wB, wIf_t, wIf_f, prim, binV, add_ii, cmpV, putNew, true_and, less_ii, bindT, eqD_ii, eqD_in, eqD_ni, eqD_nn, eqD_bb, is_int, is_none, is_bool, inst_int, inst_int_b, inst_bool_b, rangeI_rng, lim0, lim1, lim2, lim3, Env.set, Option.map, Option.bind, Bool.not_true, Bool.not_false, Bool.true_and, Bool.false_and, Bool.true_or, Bool.false_or, beq_self_eq_true, reduceIte, String.reduceEq, String.reduceBEq, reduceCtorEq, ↓reduceIte, List.length_nil, List.length_cons, List.length_map, bindP, hw.isList, hw.len, hG, d1, d2, range_nat hl])
  refine wFor_idx (fun i ρ H' => H <+: H' ∧ ρ "wishes" = some (.ref w)) ⟨List.prefix_refl _, rfl⟩ (fun i v ρ H' hv hI => ⟨trivial, fun k' h1 h2 => ?_⟩) fun ρ H' hI => ⟨trivial, ?_⟩
  · obtain ⟨hi, rfl⟩ := rng_get hv
    obtain ⟨hp, e1⟩ := hI
    have hw' := hw.pre hp
    obtain ⟨a, hit, hli⟩ := hw'.item (row_get hi)
    (try simp only [wSs, wS, wE, wEs, wAnd, wOr, wP, wB, wIf_t, wIf_f, prim, binV, add_ii, cmpV, putNew, true_and, less_ii, bindT, eqD_ii, eqD_in, eqD_ni, eqD_nn, eqD_bb, is_int, is_none, is_bool, inst_int, inst_int_b, inst_bool_b, rangeI_rng, lim0, lim1, lim2, lim3, Env.set, Option.map, Option.bind, Bool.not_true, Bool.not_false, Bool.true_and, Bool.false_and, Bool.true_or, Bool.false_or, beq_self_eq_true, reduceIte, String.reduceEq, String.reduceBEq, reduceCtorEq, ↓reduceIte, List.length_nil, List.length_cons, List.length_map, bindP, e1, hit, hw'.len])
    refine s_is_row hP1 hP2 hli (ok.rows i hi) fun H'' hp' => ?_
    (try simp only [wSs, wS, wE, wEs, wAnd, wOr, wP, wB, wIf_t, wIf_f, prim, binV, add_ii, cmpV, putNew, true_and, less_ii, bindT, eqD_ii, eqD_in, eqD_ni, eqD_nn, eqD_bb, is_int, is_none, is_bool, inst_int, inst_int_b, inst_bool_b, rangeI_rng, lim0, lim1, lim2, lim3, Env.set, Option.map, Option.bind, Bool.not_true, Bool.not_false, Bool.true_and, Bool.false_and, Bool.true_or, Bool.false_or, beq_self_eq_true, reduceIte, String.reduceEq, String.reduceBEq, reduceCtorEq, ↓reduceIte, List.length_nil, List.length_cons, List.length_map, bindP])
    exact h1 _ _ ⟨hp.trans hp', by (try simp only [wSs, wS, wE, wEs, wAnd, wOr, wP, wB, wIf_t, wIf_f, prim, binV, add_ii, cmpV, putNew, true_and, less_ii, bindT, eqD_ii, eqD_in, eqD_ni, eqD_nn, eqD_bb, is_int, is_none, is_bool, inst_int, inst_int_b, inst_bool_b, rangeI_rng, lim0, lim1, lim2, lim3, Env.set, Option.map, Option.bind, Bool.not_true, Bool.not_false, Bool.true_and, Bool.false_and, Bool.true_or, Bool.false_or, beq_self_eq_true, reduceIte, String.reduceEq, String.reduceBEq, reduceCtorEq, ↓reduceIte, List.length_nil, List.length_cons, List.length_map, bindP, e1])⟩
  · (try simp only [wSs, wS, wE, wEs, wAnd, wOr, wP, wB, wIf_t, wIf_f, prim, binV, add_ii, cmpV, putNew, true_and, less_ii, bindT, eqD_ii, eqD_in, eqD_ni, eqD_nn, eqD_bb, is_int, is_none, is_bool, inst_int, inst_int_b, inst_bool_b, rangeI_rng, lim0, lim1, lim2, lim3, Env.set, Option.map, Option.bind, Bool.not_true, Bool.not_false, Bool.true_and, Bool.false_and, Bool.true_or, Bool.false_or, beq_self_eq_true, reduceIte, String.reduceEq, String.reduceBEq, reduceCtorEq, ↓reduceIte, List.length_nil, List.length_cons, List.length_map, bindP])
    exact h H' hI.1

noncomputable def both (W : List (List Int)) (i j : Nat) : Bool := decide ((j : Int) ∈ row W i) && decide ((i : Int) ∈ row W j)

noncomputable def ov : Option Nat → V
  | none => .none
  | some i => .int (i : Int)

theorem LI.index {a : Nat} {is : List Int} (h : LI H a is) {x : Int} (hx : x ∈ is) : methV .index [.ref a, .int x] H = some (.int (is.idxOf x : Nat), H) := by
  unfold LI at h
  simp only [methV, indexV, h, mapM_asInt, Option.bind, hx, if_true]

theorem s_cell_at (hP : P.fn "_law_cell_at" = some f__law_cell_at) {a : Nat} {is : List Int} (hs : seqOf H a = some (is.map .int)) {k : Nat} (h : Q (.int (is.getD k 0)) H) : callN P b (n + 1) "_law_cell_at" [.ref a, .int (k : Int)] H Q X := by
  have hl : lenV (.ref a) H = some (is.length : Int) := by unfold lenV; simp [hs]
  (unfold callN; rw [hP]; refine ⟨rfl, ?_⟩; unfold f__law_cell_at)
  (try simp only [wSs, wS, wE, wEs, wAnd, wOr, wP, wB, wIf_t, wIf_f, prim, binV, add_ii, cmpV, putNew, true_and, less_ii, bindT, eqD_ii, eqD_in, eqD_ni, eqD_nn, eqD_bb, is_int, is_none, is_bool, inst_int, inst_int_b, inst_bool_b, rangeI_rng, lim0, lim1, lim2, lim3, Env.set, Option.map, Option.bind, Bool.not_true, Bool.not_false, Bool.true_and, Bool.false_and, Bool.true_or, Bool.false_or, beq_self_eq_true, reduceIte, String.reduceEq, String.reduceBEq, reduceCtorEq, ↓reduceIte, List.length_nil, List.length_cons, List.length_map, bindP, hl])
  refine ⟨fun q => ?_, fun q => ?_⟩
  · have hk : k < is.length := by simp at q; exact q
    have : is[k]? = some is[k] := List.getElem?_eq_getElem hk
    (try simp only [wSs, wS, wE, wEs, wAnd, wOr, wP, wB, wIf_t, wIf_f, prim, binV, add_ii, cmpV, putNew, true_and, less_ii, bindT, eqD_ii, eqD_in, eqD_ni, eqD_nn, eqD_bb, is_int, is_none, is_bool, inst_int, inst_int_b, inst_bool_b, rangeI_rng, lim0, lim1, lim2, lim3, Env.set, Option.map, Option.bind, Bool.not_true, Bool.not_false, Bool.true_and, Bool.false_and, Bool.true_or, Bool.false_or, beq_self_eq_true, reduceIte, String.reduceEq, String.reduceBEq, reduceCtorEq, ↓reduceIte, List.length_nil, List.length_cons, List.length_map, bindP, item_seq hs (i := k) (v := .int is[k]) (by rw [List.getElem?_map, this]; rfl)])
    rw [List.getD_eq_getElem?_getD, this] at h
    exact h
  · have hk : ¬ k < is.length := by simp at q; omega
    rw [List.getD_eq_getElem?_getD, List.getElem?_eq_none (by omega)] at h
    exact h

theorem get2a (H : Hp) (x y : O) : (H ++ [x, y])[H.length]? = some x := by simp
theorem get2b (H : Hp) (x y : O) : (H ++ [x, y])[H.length + 1]? = some y := by simp
theorem set2a (H : Hp) (x y z : O) : (H ++ [x, y]).set H.length z = H ++ [z, y] := by simp
theorem set2b (H : Hp) (x y z : O) : (H ++ [x, y]).set (H.length + 1) z = H ++ [x, z] := by simp

theorem rowOk_take {row : List Int} {g m : Int} (h : RowOk row g m) (k : Nat) : RowOk (row.take k) g m :=
  ⟨fun x hx => h.low x (List.mem_of_mem_take hx), fun hx => h.ne (List.mem_of_mem_take hx), h.nodup.sublist (List.take_sublist _ _), by have := h.len; rw [List.length_take]; omega⟩

theorem pop_at {a : Nat} {xs : List V} {i : Nat} {v : V} (h : H[a]? = some (.list xs)) (hi : xs[i]? = some v) : methV .pop [.ref a, .int (i : Int)] H = some (v, H.set a (.list (xs.eraseIdx i))) := by
  have hl := (List.getElem?_eq_some_iff.mp hi).1
  simp only [methV, popV, h, normIdx_nat hl, Option.bind, hi, Option.map]
theorem append_at {a : Nat} {xs : List V} {v : V} (h : H[a]? = some (.list xs)) (hl : xs.length < lim) : methV .append [.ref a, v] H = some (.none, H.set a (.list (xs ++ [v]))) := by
  simp only [methV, appendV, h, hl, if_true]

theorem fmod_nat (c : Int) {m : Nat} (hm : 0 < m) : ∃ i : Nat, i < m ∧ c.fmod (m : Int) = (i : Int) := by
  have h1 : 0 ≤ c.fmod (m : Int) := Int.fmod_nonneg_of_pos _ (by omega)
  have h2 : c.fmod (m : Int) < m := Int.fmod_lt_of_pos _ (by omega)
  exact ⟨(c.fmod m).toNat, by omega, by omega⟩

theorem map_erase (l : List Int) (i : Nat) : (l.map V.int).eraseIdx i = (l.eraseIdx i).map V.int := by
  induction l generalizing i with
  | nil => rfl
  | cons a l ih => cases i with
    | zero => rfl
    | succ i => simp [ih]

theorem erase_perm {α : Type} {x : α} : ∀ {l : List α} {i : Nat}, l[i]? = some x → List.Perm l (x :: l.eraseIdx i)
  | a :: l, 0, h => by simp at h; subst h; exact List.Perm.refl _
  | a :: l, i + 1, h => by
    have := erase_perm (l := l) (i := i) (by simpa using h)
    exact (this.cons a).trans (List.Perm.swap _ _ _)

theorem s_row_by (hP : P.fn "_law_row_by" = some f__law_row_by) {c : Int} {g m : Nat} {full : Bool} (hm : m ≤ 6)
    (h : ∀ H' r l, H <+: H' → LI H' r l → RowOk l g m → Q (.ref r) H') : callN P b (n + 1) "_law_row_by" [.int c, .int (g : Int), .int (m : Int), .bool full] H Q X := by
  have hml : m ≤ lim := Nat.le_trans hm (by decide)
  (unfold callN; rw [hP]; refine ⟨rfl, ?_⟩; unfold f__law_row_by)
  (try simp only [wSs, wS, wE, wEs, wAnd, wOr, wP, wB, wIf_t, wIf_f, prim, binV, add_ii, cmpV, putNew, true_and, less_ii, bindT, eqD_ii, eqD_in, eqD_ni, eqD_nn, eqD_bb, is_int, is_none, is_bool, inst_int, inst_int_b, inst_bool_b, rangeI_rng, lim0, lim1, lim2, lim3, Env.set, Option.map, Option.bind, Bool.not_true, Bool.not_false, Bool.true_and, Bool.false_and, Bool.true_or, Bool.false_or, beq_self_eq_true, reduceIte, String.reduceEq, String.reduceBEq, reduceCtorEq, ↓reduceIte, List.length_nil, List.length_cons, List.length_map, bindP, range_nat hml])
  refine wLoop_idx (fun i acc H' => H' = H ∧ ∃ l : List Int, acc = l.map .int ∧ l.length ≤ i ∧ l.Nodup ∧ (g : Int) ∉ l ∧ ∀ x ∈ l, 0 ≤ x ∧ x < i) ⟨rfl, [], rfl, by simp, by simp, by simp, by simp⟩ (fun i v acc H' hv hI => ⟨trivial, fun k' h1 h2 => ?_⟩) fun acc H' hI => ⟨trivial, ?_⟩
  · obtain ⟨hi, rfl⟩ := rng_get hv
    obtain ⟨rfl, l, rfl, hl, nd, hn, hlow⟩ := hI
    (try simp only [wSs, wS, wE, wEs, wAnd, wOr, wP, wB, wIf_t, wIf_f, prim, binV, add_ii, cmpV, putNew, true_and, less_ii, bindT, eqD_ii, eqD_in, eqD_ni, eqD_nn, eqD_bb, is_int, is_none, is_bool, inst_int, inst_int_b, inst_bool_b, rangeI_rng, lim0, lim1, lim2, lim3, Env.set, Option.map, Option.bind, Bool.not_true, Bool.not_false, Bool.true_and, Bool.false_and, Bool.true_or, Bool.false_or, beq_self_eq_true, reduceIte, String.reduceEq, String.reduceBEq, reduceCtorEq, ↓reduceIte, List.length_nil, List.length_cons, List.length_map, bindP])
    refine ⟨fun q => ?_, fun q => ?_⟩
    · refine h1 _ _ ⟨rfl, l ++ [(i : Int)], by simp, by simp; omega, ?_, ?_, ?_⟩
      · rw [List.nodup_append]
        refine ⟨nd, by simp, fun a ha b hb => ?_⟩
        simp at hb; subst hb
        have := hlow a ha; omega
      · simp only [List.mem_append, List.mem_singleton, not_or]
        refine ⟨hn, fun e => ?_⟩
        simp at q; omega
      · intro x hx
        rcases List.mem_append.mp hx with hx | hx
        · have := hlow x hx; omega
        · simp at hx; omega
    · exact h2 _ ⟨rfl, l, rfl, by omega, nd, hn, fun x hx => by have := hlow x hx; omega⟩
  · obtain ⟨rfl, l, rfl, hl, nd, hn, hlow⟩ := hI
    rw [rng_len] at hl hlow
    (try simp only [wSs, wS, wE, wEs, wAnd, wOr, wP, wB, wIf_t, wIf_f, prim, binV, add_ii, cmpV, putNew, true_and, less_ii, bindT, eqD_ii, eqD_in, eqD_ni, eqD_nn, eqD_bb, is_int, is_none, is_bool, inst_int, inst_int_b, inst_bool_b, rangeI_rng, lim0, lim1, lim2, lim3, Env.set, Option.map, Option.bind, Bool.not_true, Bool.not_false, Bool.true_and, Bool.false_and, Bool.true_or, Bool.false_or, beq_self_eq_true, reduceIte, String.reduceEq, String.reduceBEq, reduceCtorEq, ↓reduceIte, List.length_nil, List.length_cons, List.length_map, bindP])
    refine wWhile_ex (fun k ρ H1 => ∃ (l r : List Int) (c : Int), H1 = H' ++ [.list (l.map .int), .list (r.map .int)] ∧ k = l.length ∧ (l ++ r).length ≤ 6 ∧ (l ++ r).Nodup ∧ (g : Int) ∉ l ++ r ∧ (∀ x ∈ l ++ r, 0 ≤ x ∧ x < (m : Int)) ∧
      ρ "_law_left" = some (.ref H'.length) ∧ ρ "_law_row" = some (.ref (H'.length + 1)) ∧ ρ "_law_cell" = some (.int c) ∧ ρ "_law_full" = some (.bool full)) (m := l.length) ⟨l, [], c, by simp, rfl, by simp; omega, by simpa using nd, by simpa using hn, by simpa using hlow, by (try simp only [wSs, wS, wE, wEs, wAnd, wOr, wP, wB, wIf_t, wIf_f, prim, binV, add_ii, cmpV, putNew, true_and, less_ii, bindT, eqD_ii, eqD_in, eqD_ni, eqD_nn, eqD_bb, is_int, is_none, is_bool, inst_int, inst_int_b, inst_bool_b, rangeI_rng, lim0, lim1, lim2, lim3, Env.set, Option.map, Option.bind, Bool.not_true, Bool.not_false, Bool.true_and, Bool.false_and, Bool.true_or, Bool.false_or, beq_self_eq_true, reduceIte, String.reduceEq, String.reduceBEq, reduceCtorEq, ↓reduceIte, List.length_nil, List.length_cons, List.length_map, bindP]), by (try simp only [wSs, wS, wE, wEs, wAnd, wOr, wP, wB, wIf_t, wIf_f, prim, binV, add_ii, cmpV, putNew, true_and, less_ii, bindT, eqD_ii, eqD_in, eqD_ni, eqD_nn, eqD_bb, is_int, is_none, is_bool, inst_int, inst_int_b, inst_bool_b, rangeI_rng, lim0, lim1, lim2, lim3, Env.set, Option.map, Option.bind, Bool.not_true, Bool.not_false, Bool.true_and, Bool.false_and, Bool.true_or, Bool.false_or, beq_self_eq_true, reduceIte, String.reduceEq, String.reduceBEq, reduceCtorEq, ↓reduceIte, List.length_nil, List.length_cons, List.length_map, bindP]); simp, by (try simp only [wSs, wS, wE, wEs, wAnd, wOr, wP, wB, wIf_t, wIf_f, prim, binV, add_ii, cmpV, putNew, true_and, less_ii, bindT, eqD_ii, eqD_in, eqD_ni, eqD_nn, eqD_bb, is_int, is_none, is_bool, inst_int, inst_int_b, inst_bool_b, rangeI_rng, lim0, lim1, lim2, lim3, Env.set, Option.map, Option.bind, Bool.not_true, Bool.not_false, Bool.true_and, Bool.false_and, Bool.true_or, Bool.false_or, beq_self_eq_true, reduceIte, String.reduceEq, String.reduceBEq, reduceCtorEq, ↓reduceIte, List.length_nil, List.length_cons, List.length_map, bindP]), by (try simp only [wSs, wS, wE, wEs, wAnd, wOr, wP, wB, wIf_t, wIf_f, prim, binV, add_ii, cmpV, putNew, true_and, less_ii, bindT, eqD_ii, eqD_in, eqD_ni, eqD_nn, eqD_bb, is_int, is_none, is_bool, inst_int, inst_int_b, inst_bool_b, rangeI_rng, lim0, lim1, lim2, lim3, Env.set, Option.map, Option.bind, Bool.not_true, Bool.not_false, Bool.true_and, Bool.false_and, Bool.true_or, Bool.false_or, beq_self_eq_true, reduceIte, String.reduceEq, String.reduceBEq, reduceCtorEq, ↓reduceIte, List.length_nil, List.length_cons, List.length_map, bindP])⟩ fun k ρ H1 hI k' h1 h2 => ?_
    obtain ⟨l, r, c, rfl, rfl, hlen, nd, hn, hlow, e1, e2, e3, e4⟩ := hI
    have hL : LI (H' ++ [.list (l.map .int), .list (r.map .int)]) H'.length l := get2a _ _ _
    have hR : LI (H' ++ [.list (l.map .int), .list (r.map .int)]) (H'.length + 1) r := get2b _ _ _
    (try simp only [wSs, wS, wE, wEs, wAnd, wOr, wP, wB, wIf_t, wIf_f, prim, binV, add_ii, cmpV, putNew, true_and, less_ii, bindT, eqD_ii, eqD_in, eqD_ni, eqD_nn, eqD_bb, is_int, is_none, is_bool, inst_int, inst_int_b, inst_bool_b, rangeI_rng, lim0, lim1, lim2, lim3, Env.set, Option.map, Option.bind, Bool.not_true, Bool.not_false, Bool.true_and, Bool.false_and, Bool.true_or, Bool.false_or, beq_self_eq_true, reduceIte, String.reduceEq, String.reduceBEq, reduceCtorEq, ↓reduceIte, List.length_nil, List.length_cons, List.length_map, bindP, e1, e2, e3, e4, hL.len])
    refine ⟨fun q => ?_, fun q => ?_⟩
    · have hpos : 0 < l.length := by simp at q; exact q
      obtain ⟨i, hi, ei⟩ := fmod_nat c hpos
      have hz : ((l.length : Int) = 0) = False := by simp; intro e; simp [e] at hpos
      obtain ⟨x, hx⟩ : ∃ x, l[i]? = some x := ⟨_, List.getElem?_eq_getElem hi⟩
      have hp := pop_at (i := i) (v := .int x) hL (by rw [List.getElem?_map, hx]; rfl)
      rw [set2a, map_erase] at hp
      have hL' : LI (H' ++ [.list ((l.eraseIdx i).map .int), .list (r.map .int)]) H'.length (l.eraseIdx i) := get2a _ _ _
      have hR' : LI (H' ++ [.list ((l.eraseIdx i).map .int), .list (r.map .int)]) (H'.length + 1) r := get2b _ _ _
      have hlr : l.length + r.length ≤ 6 := by simpa using hlen
      have ha := append_at (v := .int x) hR' (by rw [List.length_map]; exact Nat.lt_of_le_of_lt (Nat.le_trans (Nat.le_add_left _ _) hlr) (by decide))
      rw [set2b] at ha
      have hL2 : LI (H' ++ [.list ((l.eraseIdx i).map .int), .list (r.map .int ++ [.int x])]) H'.length (l.eraseIdx i) := get2a _ _ _
      have hz2 : (((l.eraseIdx i).length : Int) + 1 = 0 ∨ 2 ^ 30 ≤ (((l.eraseIdx i).length : Int) + 1).natAbs) = False := by
        have : (l.eraseIdx i).length ≤ 6 := by rw [List.length_eraseIdx]; split <;> omega
        simp; omega
      (try simp only [wSs, wS, wE, wEs, wAnd, wOr, wP, wB, wIf_t, wIf_f, prim, binV, add_ii, cmpV, putNew, true_and, less_ii, bindT, eqD_ii, eqD_in, eqD_ni, eqD_nn, eqD_bb, is_int, is_none, is_bool, inst_int, inst_int_b, inst_bool_b, rangeI_rng, lim0, lim1, lim2, lim3, Env.set, Option.map, Option.bind, Bool.not_true, Bool.not_false, Bool.true_and, Bool.false_and, Bool.true_or, Bool.false_or, beq_self_eq_true, reduceIte, String.reduceEq, String.reduceBEq, reduceCtorEq, ↓reduceIte, List.length_nil, List.length_cons, List.length_map, bindP, (recvL hL).2.1, (recvL hR).1, hz, ei, hp, ha, hL2.len, e1, e3, hz2])
      have pm : List.Perm (l.eraseIdx i ++ (r ++ [x])) (l ++ r) := by
        have h1 : List.Perm l (x :: l.eraseIdx i) := erase_perm hx
        refine List.Perm.symm (List.Perm.trans (h1.append_right r) ?_)
        rw [← List.append_assoc]
        refine List.Perm.trans ?_ (List.perm_append_singleton _ _).symm
        exact List.Perm.refl _
      refine h1 (l.eraseIdx i).length _ _ (by rw [List.length_eraseIdx, if_pos hi]; omega) ⟨l.eraseIdx i, r ++ [x], c.fdiv (((l.eraseIdx i).length : Int) + 1), by simp, rfl, by rw [pm.length_eq]; exact hlen, pm.nodup_iff.mpr nd, fun hm => hn (pm.mem_iff.mp hm), fun y hy => hlow y (pm.mem_iff.mp hy), ?_⟩
      (try simp only [wSs, wS, wE, wEs, wAnd, wOr, wP, wB, wIf_t, wIf_f, prim, binV, add_ii, cmpV, putNew, true_and, less_ii, bindT, eqD_ii, eqD_in, eqD_ni, eqD_nn, eqD_bb, is_int, is_none, is_bool, inst_int, inst_int_b, inst_bool_b, rangeI_rng, lim0, lim1, lim2, lim3, Env.set, Option.map, Option.bind, Bool.not_true, Bool.not_false, Bool.true_and, Bool.false_and, Bool.true_or, Bool.false_or, beq_self_eq_true, reduceIte, String.reduceEq, String.reduceBEq, reduceCtorEq, ↓reduceIte, List.length_nil, List.length_cons, List.length_map, bindP, e1, e2, e4])
    · have hpos : l = [] := by simp at q; exact q
      subst hpos
      have rok : RowOk r g m := ⟨by simpa using hlow, by simpa using hn, by simpa using nd, by simpa using hlen⟩
      have hR' : LI (H' ++ [.list (([] : List Int).map .int), .list (r.map .int)]) (H'.length + 1) r := get2b _ _ _
      obtain ⟨i, hi, ei⟩ := fmod_nat c (m := r.length + 1) (by omega)
      have hz : ((r.length : Int) + 1 = 0) = False := by simp; omega
      have ei' : c.fmod ((r.length : Int) + 1) = (i : Int) := ei
      (try simp only [wSs, wS, wE, wEs, wAnd, wOr, wP, wB, wIf_t, wIf_f, prim, binV, add_ii, cmpV, putNew, true_and, less_ii, bindT, eqD_ii, eqD_in, eqD_ni, eqD_nn, eqD_bb, is_int, is_none, is_bool, inst_int, inst_int_b, inst_bool_b, rangeI_rng, lim0, lim1, lim2, lim3, Env.set, Option.map, Option.bind, Bool.not_true, Bool.not_false, Bool.true_and, Bool.false_and, Bool.true_or, Bool.false_or, beq_self_eq_true, reduceIte, String.reduceEq, String.reduceBEq, reduceCtorEq, ↓reduceIte, List.length_nil, List.length_cons, List.length_map, bindP, e2, e3, e4, hR'.len, hz, ei', hR'.sliceTo i])
      refine ⟨fun _ => ?_, fun _ => ?_⟩
      · exact h _ _ r (List.prefix_append _ _) hR' rok
      · exact h _ _ (r.take i) ((List.prefix_append _ _).trans (pre_new _ _)) (LI.new _ _) (rowOk_take rok i)

theorem s_wishes_by (hP : P.fn "_law_wishes_by" = some f__law_wishes_by) (hP1 : P.fn "_law_cell_at" = some f__law_cell_at) (hP2 : P.fn "_law_row_by" = some f__law_row_by) {a : Nat} {is : List Int} (hs : H[a]? = some (.frozen (is.map .int))) {m : Nat} (h1m : 1 ≤ m) (hm : m ≤ 6)
    (h : ∀ H' r W, H <+: H' → WH H' r W → WOk W → W.length = m → Q (.ref r) H') : callN P b (n + 2) "_law_wishes_by" [.ref a, .int (m : Int)] H Q X := by
  have hml : m ≤ lim := Nat.le_trans hm (by decide)
  have hseq : ∀ {H' : Hp}, H <+: H' → seqOf H' a = some (is.map .int) := fun hp => by unfold seqOf; rw [pre_get hp hs]
  (unfold callN; rw [hP]; refine ⟨rfl, ?_⟩; unfold f__law_wishes_by)
  (try simp only [wSs, wS, wE, wEs, wAnd, wOr, wP, wB, wIf_t, wIf_f, prim, binV, add_ii, cmpV, putNew, true_and, less_ii, bindT, eqD_ii, eqD_in, eqD_ni, eqD_nn, eqD_bb, is_int, is_none, is_bool, inst_int, inst_int_b, inst_bool_b, rangeI_rng, lim0, lim1, lim2, lim3, Env.set, Option.map, Option.bind, Bool.not_true, Bool.not_false, Bool.true_and, Bool.false_and, Bool.true_or, Bool.false_or, beq_self_eq_true, reduceIte, String.reduceEq, String.reduceBEq, reduceCtorEq, ↓reduceIte, List.length_nil, List.length_cons, List.length_map, bindP])
  refine s_cell_at (k := 1) hP1 (hseq (List.prefix_refl _)) ?_
  (try simp only [wSs, wS, wE, wEs, wAnd, wOr, wP, wB, wIf_t, wIf_f, prim, binV, add_ii, cmpV, putNew, true_and, less_ii, bindT, eqD_ii, eqD_in, eqD_ni, eqD_nn, eqD_bb, is_int, is_none, is_bool, inst_int, inst_int_b, inst_bool_b, rangeI_rng, lim0, lim1, lim2, lim3, Env.set, Option.map, Option.bind, Bool.not_true, Bool.not_false, Bool.true_and, Bool.false_and, Bool.true_or, Bool.false_or, beq_self_eq_true, reduceIte, String.reduceEq, String.reduceBEq, reduceCtorEq, ↓reduceIte, List.length_nil, List.length_cons, List.length_map, bindP, range_nat hml])
  rw [if_neg (by decide)]
  (try simp only [wSs, wS, wE, wEs, wAnd, wOr, wP, wB, wIf_t, wIf_f, prim, binV, add_ii, cmpV, putNew, true_and, less_ii, bindT, eqD_ii, eqD_in, eqD_ni, eqD_nn, eqD_bb, is_int, is_none, is_bool, inst_int, inst_int_b, inst_bool_b, rangeI_rng, lim0, lim1, lim2, lim3, Env.set, Option.map, Option.bind, Bool.not_true, Bool.not_false, Bool.true_and, Bool.false_and, Bool.true_or, Bool.false_or, beq_self_eq_true, reduceIte, String.reduceEq, String.reduceBEq, reduceCtorEq, ↓reduceIte, List.length_nil, List.length_cons, List.length_map, bindP])
  refine wLoop_idx (fun i acc H' => H <+: H' ∧ ∃ W : List (List Int), W.length = i ∧ All2 (fun r is => ∃ b, r = V.ref b ∧ LI H' b is) acc W ∧ ∀ j, j < i → RowOk (row W j) j m) ⟨List.prefix_refl _, [], rfl, .nil, by simp⟩ (fun i v acc H' hv hI => ⟨trivial, fun k' h1 h2 => ?_⟩) fun acc H' hI => ⟨trivial, ?_⟩
  · obtain ⟨hi, rfl⟩ := rng_get hv
    obtain ⟨hp, W, hW, hA, hR⟩ := hI
    (try simp only [wSs, wS, wE, wEs, wAnd, wOr, wP, wB, wIf_t, wIf_f, prim, binV, add_ii, cmpV, putNew, true_and, less_ii, bindT, eqD_ii, eqD_in, eqD_ni, eqD_nn, eqD_bb, is_int, is_none, is_bool, inst_int, inst_int_b, inst_bool_b, rangeI_rng, lim0, lim1, lim2, lim3, Env.set, Option.map, Option.bind, Bool.not_true, Bool.not_false, Bool.true_and, Bool.false_and, Bool.true_or, Bool.false_or, beq_self_eq_true, reduceIte, String.reduceEq, String.reduceBEq, reduceCtorEq, ↓reduceIte, List.length_nil, List.length_cons, List.length_map, bindP])
    have e : (3 : Int) + (i : Int) = ((3 + i : Nat) : Int) := by omega
    rw [e]
    refine s_cell_at (k := 3 + i) hP1 (hseq hp) ?_
    (try simp only [wSs, wS, wE, wEs, wAnd, wOr, wP, wB, wIf_t, wIf_f, prim, binV, add_ii, cmpV, putNew, true_and, less_ii, bindT, eqD_ii, eqD_in, eqD_ni, eqD_nn, eqD_bb, is_int, is_none, is_bool, inst_int, inst_int_b, inst_bool_b, rangeI_rng, lim0, lim1, lim2, lim3, Env.set, Option.map, Option.bind, Bool.not_true, Bool.not_false, Bool.true_and, Bool.false_and, Bool.true_or, Bool.false_or, beq_self_eq_true, reduceIte, String.reduceEq, String.reduceBEq, reduceCtorEq, ↓reduceIte, List.length_nil, List.length_cons, List.length_map, bindP])
    refine s_row_by hP2 hm fun H'' r l hp' hl rok => ?_
    refine h1 _ _ ⟨hp.trans hp', W ++ [l], by simp [hW], (hA.mono fun _ _ ⟨b, e, q⟩ => ⟨b, e, q.pre hp'⟩).append (.cons ⟨r, rfl, hl⟩ .nil), fun j hj => ?_⟩
    by_cases hji : j < i
    · have : row (W ++ [l]) j = row W j := by unfold row; rw [List.getD_eq_getElem?_getD, List.getD_eq_getElem?_getD, List.getElem?_append_left (by omega)]
      rw [this]; exact hR j hji
    · have : j = i := by omega
      subst this
      have : row (W ++ [l]) j = l := by unfold row; rw [List.getD_eq_getElem?_getD, ← hW]; simp
      rw [this]; exact rok
  · obtain ⟨hp, W, hW, hA, hR⟩ := hI
    rw [rng_len] at hW hR
    refine h _ _ W (hp.trans (pre_new _ _)) ⟨acc, get_new _ _, hA.mono fun _ _ ⟨b, e, q⟩ => ⟨b, e, q.pre (pre_new _ _)⟩⟩ ⟨by omega, by omega, fun j hj => ?_⟩ hW
    rw [hW]; exact hR j (by omega)

end
end Mine

namespace Mine
open PySem

noncomputable def copyE (x y : String) : E := .compS (.op .list [.var y]) (.one y) (.var x) []

theorem w_copy2 {C : Ctx} {x y : String} {ρ : Env} {H : Hp} {Q : Post} {X : XP} {w : Nat} {W : List (List Int)} (hρ : ρ x = some (.ref w)) (hw : WH H w W) (h : ∀ H' r, H <+: H' → H.length ≤ r → WH H' r W → Q (.ref r) H') : wE C (copyE x y) ρ H Q X := by
  obtain ⟨rs, h1, h2⟩ := hw
  unfold copyE
  (try simp only [wSs, wS, wE, wEs, wAnd, wOr, wP, wB, wIf_t, wIf_f, prim, binV, add_ii, cmpV, putNew, true_and, less_ii, bindT, eqD_ii, eqD_in, eqD_ni, eqD_nn, eqD_bb, is_int, is_none, is_bool, inst_int, inst_int_b, inst_bool_b, rangeI_rng, lim0, lim1, lim2, lim3, Env.set, Option.map, Option.bind, Bool.not_true, Bool.not_false, Bool.true_and, Bool.false_and, Bool.true_or, Bool.false_or, beq_self_eq_true, reduceIte, String.reduceEq, String.reduceBEq, reduceCtorEq, ↓reduceIte, List.length_nil, List.length_cons, List.length_map, bindP, hρ, seqOf_list h1])
  have hkeep : ∀ H' : Hp, H <+: H' → H'[w]? = H[w]? := fun H' hp => by rw [h1]; exact pre_get hp h1
  refine wLoop_idx (fun i acc H' => H <+: H' ∧ All2 (fun r is => ∃ b, r = V.ref b ∧ LI H' b is) acc (W.take i)) ⟨List.prefix_refl _, by rw [List.take_zero]; exact .nil⟩ (fun i v acc H' hv hI => ⟨hkeep _ hI.1, fun k' k1 k2 => ?_⟩) fun acc H' hI => ⟨hkeep _ hI.1, ?_⟩
  · obtain ⟨hp, hA⟩ := hI
    obtain ⟨l, hl, b, rfl, hb⟩ := h2.get hv
    (try simp only [wSs, wS, wE, wEs, wAnd, wOr, wP, wB, wIf_t, wIf_f, prim, binV, add_ii, cmpV, putNew, true_and, less_ii, bindT, eqD_ii, eqD_in, eqD_ni, eqD_nn, eqD_bb, is_int, is_none, is_bool, inst_int, inst_int_b, inst_bool_b, rangeI_rng, lim0, lim1, lim2, lim3, Env.set, Option.map, Option.bind, Bool.not_true, Bool.not_false, Bool.true_and, Bool.false_and, Bool.true_or, Bool.false_or, beq_self_eq_true, reduceIte, String.reduceEq, String.reduceBEq, reduceCtorEq, ↓reduceIte, List.length_nil, List.length_cons, List.length_map, bindP, (hb.pre hp).seq])
    refine k1 _ _ ⟨hp.trans (pre_new _ _), ?_⟩
    have : W.take (i + 1) = W.take i ++ [l] := by
      obtain ⟨hi, e⟩ := List.getElem?_eq_some_iff.mp hl
      rw [List.take_succ_eq_append_getElem hi, e]
    rw [this]
    exact (hA.mono fun _ _ ⟨b, e, q⟩ => ⟨b, e, q.pre (pre_new _ _)⟩).append (.cons ⟨_, rfl, LI.new _ _⟩ .nil)
  · obtain ⟨hp, hA⟩ := hI
    have : W.take rs.length = W := by rw [h2.length]; exact List.take_length
    rw [this] at hA
    exact h _ _ (hp.trans (pre_new _ _)) hp.length_le ⟨acc, get_new _ _, hA.mono fun _ _ ⟨b, e, q⟩ => ⟨b, e, q.pre (pre_new _ _)⟩⟩

theorem w_copy {C : Ctx} {x y : String} {ρ : Env} {H : Hp} {Q : Post} {X : XP} {w : Nat} {W : List (List Int)} (hρ : ρ x = some (.ref w)) (hw : WH H w W) (h : ∀ H' r, H <+: H' → WH H' r W → Q (.ref r) H') : wE C (copyE x y) ρ H Q X :=
  w_copy2 hρ hw fun H' r hp _ q => h H' r hp q

theorem WH.read {H : Hp} {w : Nat} {W : List (List Int)} (h : WH H w W) : readD 8 H (.ref w) = some (.list (W.map fun l => .list (l.map .int))) := by
  obtain ⟨rs, h1, h2⟩ := h
  have : rs.mapM (readD 7 H) = some (W.map fun l => PyData.list (l.map .int)) := by
    clear h1
    induction h2 with
    | nil => rfl
    | cons hr _ ih =>
      obtain ⟨b, rfl, hb⟩ := hr
      unfold LI at hb
      rw [List.mapM_cons, ih]
      simp only [readD, hb, mapM_read]; rfl
  simp [readD, h1, this]

theorem eqvAll_ints : ∀ l l' : List Int, PyData.eqvAll (l.map .int) (l'.map .int) = decide (l = l')
  | [], [] => rfl
  | [], _ :: _ => by simp [PyData.eqvAll]
  | _ :: _, [] => by simp [PyData.eqvAll]
  | i :: l, j :: l' => by
    simp only [List.map_cons, PyData.eqvAll, PyData.eqv, eqvAll_ints l l', List.cons.injEq]
    by_cases e : i = j <;> simp [e]
theorem eqvAll_rows : ∀ W W' : List (List Int), PyData.eqvAll (W.map fun l => .list (l.map .int)) (W'.map fun l => .list (l.map .int)) = decide (W = W')
  | [], [] => rfl
  | [], _ :: _ => by simp [PyData.eqvAll]
  | _ :: _, [] => by simp [PyData.eqvAll]
  | i :: l, j :: l' => by
    simp only [List.map_cons, PyData.eqvAll, PyData.eqv, eqvAll_rows l l', eqvAll_ints, List.cons.injEq]
    by_cases e : i = j <;> simp [e]
theorem canLay_rows : ∀ W : List (List Int), PyData.canLayAll0 (W.map fun l => .list (l.map .int)) = true
  | [] => rfl
  | l :: W => by simp [PyData.canLayAll0, PyData.canLay0, canLay_ints, canLay_rows W]
theorem WH.eq {H : Hp} {w w' : Nat} {W W' : List (List Int)} (h : WH H w W) (h' : WH H w' W') : eqD H (.ref w) (.ref w') = some (decide (W = W')) := by
  simp [eqD, h.read, h'.read, PyData.canLay0, canLay_rows, PyData.eqv, eqvAll_rows]

section
variable {P : Prog} {b : Bool} {n : Nat} {H : Hp} {Q : Post} {X : XP}

end


end Mine

namespace Mine
open PySem

/-- mates -/
noncomputable def MT (H : Hp) (a : Nat) (M : List (Option Nat)) : Prop := H[a]? = some (.list (M.map ov))
theorem MT.pre {H H' : Hp} {a : Nat} {M : List (Option Nat)} (h : MT H a M) (hp : H <+: H') : MT H' a M := pre_get hp h
theorem MT.item {H : Hp} {a : Nat} {M : List (Option Nat)} (h : MT H a M) {i : Nat} (hi : i < M.length) : itemV (.ref a) (.int (i : Int)) H = some (ov (M.getD i none)) :=
  item_seq (seqOf_list h) (by rw [List.getElem?_map, List.getElem?_eq_getElem hi, List.getD_eq_getElem?_getD, List.getElem?_eq_getElem hi]; rfl)
theorem MT.len {H : Hp} {w : Nat} {M : List (Option Nat)} (h : MT H w M) : lenV (.ref w) H = some (M.length : Int) := by
  unfold lenV; simp [seqOf_list h]
theorem MT.isList {H : Hp} {w : Nat} {M : List (Option Nat)} (h : MT H w M) : isInst (.ref w) ["list"] H = true := by
  unfold MT at h; simp [isInst, typesOf, h]

structure MOk (W : List (List Int)) (M : List (Option Nat)) : Prop where
  len : M.length = W.length
  two : ∀ i j, M.getD i none = some j → j < W.length ∧ M.getD j none = some i ∧ both W i j = true

noncomputable def PRv (H : Hp) (v : V) (p : Nat × Nat) : Prop := ∃ b, v = .ref b ∧ H[b]? = some (.tuple [.int (p.1 : Int), .int (p.2 : Int)])
/-- a list of pairs -/
noncomputable def PR (H : Hp) (r : Nat) (ps : List (Nat × Nat)) : Prop := ∃ rs, H[r]? = some (.list rs) ∧ All2 (PRv H) rs ps
theorem PRv.pre {H H' : Hp} {v : V} {p : Nat × Nat} (h : PRv H v p) (hp : H <+: H') : PRv H' v p := let ⟨b, e, q⟩ := h; ⟨b, e, pre_get hp q⟩
theorem PR.pre {H H' : Hp} {a : Nat} {ps : List (Nat × Nat)} (h : PR H a ps) (hp : H <+: H') : PR H' a ps :=
  let ⟨rs, h1, h2⟩ := h; ⟨rs, pre_get hp h1, h2.mono fun _ _ q => q.pre hp⟩
theorem PR.len {H : Hp} {w : Nat} {ps : List (Nat × Nat)} (h : PR H w ps) : lenV (.ref w) H = some (ps.length : Int) := by
  obtain ⟨rs, h1, h2⟩ := h
  unfold lenV; simp [seqOf_list h1, h2.length]
theorem PR.isList {H : Hp} {w : Nat} {ps : List (Nat × Nat)} (h : PR H w ps) : isInst (.ref w) ["list"] H = true := by
  obtain ⟨rs, h1, h2⟩ := h; simp [isInst, typesOf, h1]

theorem pre_set {H H' : Hp} (hp : H <+: H') {r : Nat} (hr : H.length ≤ r) (o : O) : H <+: H'.set r o := by
  obtain ⟨t, rfl⟩ := hp
  rw [List.set_append_right _ _ hr]; exact List.prefix_append _ _
theorem get_set_ne {H : Hp} {r b : Nat} (h : b ≠ r) (o : O) : (H.set r o)[b]? = H[b]? := List.getElem?_set_ne (Ne.symm h)
theorem get_set_eq {H : Hp} {r : Nat} {o' : O} (h : H[r]? = some o') (o : O) : (H.set r o)[r]? = some o := by
  rw [List.getElem?_set_self (List.getElem?_eq_some_iff.mp h).1]

/-- a pair put behind -/
theorem PR.push {H : Hp} {r : Nat} {ps : List (Nat × Nat)} (h : PR H r ps) (hl : ps.length < lim) {i j : Nat} : ∃ H', methV .append [.ref r, .ref H.length] (H ++ [.tuple [.int (i : Int), .int (j : Int)]]) = some (.none, H') ∧ PR H' r (ps ++ [(i, j)]) ∧
    ∀ H₀, H₀ <+: H → H₀.length ≤ r → H₀ <+: H' := by
  obtain ⟨rs, h1, h2⟩ := h
  have h1' := pre_get (pre_new H (.tuple [.int (i : Int), .int (j : Int)])) h1
  refine ⟨_, append_at h1' (by rw [h2.length]; exact hl), ⟨_, get_set_eq h1' _, ?_⟩, fun H₀ hp hr => pre_set (hp.trans (pre_new _ _)) hr _⟩
  have keep : ∀ v p, PRv H v p → PRv ((H ++ [O.tuple [.int (i : Int), .int (j : Int)]]).set r (O.list (rs ++ [V.ref H.length]))) v p := fun v p ⟨b, e, q⟩ => ⟨b, e, by
    rw [get_set_ne (by rintro rfl; rw [h1] at q; cases q)]; exact pre_get (pre_new _ _) q⟩
  refine (h2.mono keep).append (.cons ⟨H.length, rfl, ?_⟩ .nil)
  have hlt := (List.getElem?_eq_some_iff.mp h1).1
  rw [get_set_ne (by omega)]; exact get_new _ _

section
variable {P : Prog} {b : Bool} {n : Nat} {H : Hp} {Q : Post} {X : XP}

end
end Mine

namespace Mine
open PySem

section
variable {P : Prog} {b : Bool} {n : Nat} {H : Hp} {Q : Post} {X : XP}

theorem getD_set {α : Type} (l : List α) (i j : Nat) (x d : α) (hi : i < l.length) : (l.set i x).getD j d = if i = j then x else l.getD j d := by
  rw [List.getD_eq_getElem?_getD, List.getD_eq_getElem?_getD, List.getElem?_set]
  split
  · rename_i e; subst e; simp [hi]
  · rfl

theorem MOk.pair {W : List (List Int)} {M : List (Option Nat)} (h : MOk W M) {g x : Nat} (hg : g < W.length) (hx : x < W.length) (hne : x ≠ g) (eg : M.getD g none = none) (ex : M.getD x none = none) (hb : both W g x = true) : MOk W ((M.set g (some x)).set x (some g)) := by
  have hl := h.len
  have hb' : both W x g = true := by unfold both at hb ⊢; rw [Bool.and_comm]; exact hb
  refine ⟨by simp [hl], fun i j hij => ?_⟩
  rw [getD_set _ _ _ _ _ (by simp; omega), getD_set _ _ _ _ _ (by omega)] at hij
  rw [getD_set _ _ _ _ _ (by simp; omega), getD_set _ _ _ _ _ (by omega)]
  by_cases hxi : x = i
  · rw [if_pos hxi] at hij; cases hij
    subst hxi
    exact ⟨hg, by rw [if_neg hne, if_pos rfl], hb'⟩
  · rw [if_neg hxi] at hij
    by_cases hgi : g = i
    · rw [if_pos hgi] at hij; cases hij
      subst hgi
      exact ⟨hx, by rw [if_pos rfl], hb⟩
    · rw [if_neg hgi] at hij
      obtain ⟨a1, a2, a3⟩ := h.two i j hij
      have n1 : x ≠ j := by rintro rfl; rw [ex] at a2; cases a2
      have n2 : g ≠ j := by rintro rfl; rw [eg] at a2; cases a2
      exact ⟨a1, by rw [if_neg n1, if_neg n2]; exact a2, a3⟩

theorem MT.set {a : Nat} {M : List (Option Nat)} (h : MT H a M) {i : Nat} (hi : i < M.length) (x : Option Nat) : setV (.ref a) (.int (i : Int)) (ov x) H = some (H.set a (.list ((M.set i x).map ov))) ∧ MT (H.set a (.list ((M.set i x).map ov))) a (M.set i x) := by
  have h' := h
  unfold MT at h'
  have e : (M.map ov).set i (ov x) = (M.set i x).map ov := by rw [List.map_set]
  refine ⟨?_, get_set_eq h' _⟩
  rw [set_seq h' (by rw [List.length_map]; exact hi), e]

theorem s_whole (hP : P.fn "_law_whole" = some f__law_whole) {i : Int} (h : Q (.bool true) H) : callN P b (n + 1) "_law_whole" [.int i] H Q X := by
  (unfold callN; rw [hP]; refine ⟨rfl, ?_⟩; unfold f__law_whole)
  (try simp only [wSs, wS, wE, wEs, wAnd, wOr, wP, wB, wIf_t, wIf_f, prim, binV, add_ii, cmpV, putNew, true_and, less_ii, bindT, eqD_ii, eqD_in, eqD_ni, eqD_nn, eqD_bb, is_int, is_none, is_bool, inst_int, inst_int_b, inst_bool_b, rangeI_rng, lim0, lim1, lim2, lim3, Env.set, Option.map, Option.bind, Bool.not_true, Bool.not_false, Bool.true_and, Bool.false_and, Bool.true_or, Bool.false_or, beq_self_eq_true, reduceIte, String.reduceEq, String.reduceBEq, reduceCtorEq, ↓reduceIte, List.length_nil, List.length_cons, List.length_map, bindP])
  exact h
end

noncomputable def od : Option Nat → PyData
  | none => .none
  | some i => .int (i : Int)

theorem WH.readN {H : Hp} {w : Nat} {W : List (List Int)} (h : WH H w W) (n : Nat) : readD (n + 2) H (.ref w) = some (.list (W.map fun l => .list (l.map .int))) := by
  obtain ⟨rs, h1, h2⟩ := h
  have : rs.mapM (readD (n + 1) H) = some (W.map fun l => PyData.list (l.map .int)) := by
    clear h1
    induction h2 with
    | nil => rfl
    | cons hr _ ih =>
      obtain ⟨b, rfl, hb⟩ := hr
      unfold LI at hb
      rw [List.mapM_cons, ih]
      simp only [readD, hb, mapM_read]; rfl
  simp [readD, h1, this]
theorem MT.readN {H : Hp} {w : Nat} {M : List (Option Nat)} (h : MT H w M) (n : Nat) : readD (n + 1) H (.ref w) = some (.list (M.map od)) := by
  unfold MT at h
  have : ∀ M : List (Option Nat), (M.map ov).mapM (readD n H) = some (M.map od) := by
    intro M
    induction M with
    | nil => rfl
    | cons x M ih =>
      rw [List.map_cons, List.mapM_cons, ih]
      cases x <;> cases n <;> rfl
  simp only [readD, h, this]; rfl
theorem PR.readN {H : Hp} {w : Nat} {ps : List (Nat × Nat)} (h : PR H w ps) (n : Nat) : readD (n + 2) H (.ref w) = some (.list (ps.map fun p => .tuple [.int (p.1 : Int), .int (p.2 : Int)])) := by
  obtain ⟨rs, h1, h2⟩ := h
  have : rs.mapM (readD (n + 1) H) = some (ps.map fun p => PyData.tuple [.int (p.1 : Int), .int (p.2 : Int)]) := by
    clear h1
    induction h2 with
    | nil => rfl
    | @cons v p vs ps hr _ ih =>
      obtain ⟨b, rfl, hb⟩ := hr
      rw [List.mapM_cons, ih]
      have : [V.int (p.1 : Int), V.int (p.2 : Int)].mapM (readD n H) = some [.int (p.1 : Int), .int (p.2 : Int)] := mapM_read n H [(p.1 : Int), (p.2 : Int)]
      simp only [readD, hb, this]; rfl
  simp only [readD, h1, this]; rfl

theorem canLay_ps : ∀ ps : List (Nat × Nat), PyData.canLayAll0 (ps.map fun p => .tuple [.int (p.1 : Int), .int (p.2 : Int)]) = true
  | [] => rfl
  | _ :: M => by simp [PyData.canLayAll0, PyData.canLay0, canLay_ps M]
theorem eqv_ps : ∀ ps qs : List (Nat × Nat), PyData.eqvAll (ps.map fun p => .tuple [.int (p.1 : Int), .int (p.2 : Int)]) (qs.map fun p => .tuple [.int (p.1 : Int), .int (p.2 : Int)]) = decide (ps = qs)
  | [], [] => rfl
  | [], _ :: _ => by simp [PyData.eqvAll]
  | _ :: _, [] => by simp [PyData.eqvAll]
  | (a, c) :: M, (a', c') :: M' => by
    rw [List.map_cons, List.map_cons, PyData.eqvAll, eqv_ps M M']
    simp only [PyData.eqv, PyData.eqvAll, List.cons.injEq, Prod.mk.injEq]
    by_cases e : a = a'
    · by_cases e' : c = c'
      · subst e; subst e'; simp
      · have : ((c : Int) == (c' : Int)) = false := beq_eq_false_iff_ne.mpr (by omega)
        simp [e', this]
    · have : ((a : Int) == (a' : Int)) = false := beq_eq_false_iff_ne.mpr (by omega)
      simp [e, this]
theorem PR.eq {H : Hp} {w w' : Nat} {ps qs : List (Nat × Nat)} (h : PR H w ps) (h' : PR H w' qs) : eqD H (.ref w) (.ref w') = some (decide (ps = qs)) := by
  simp [eqD, h.readN 6, h'.readN 6, PyData.canLay0, canLay_ps, PyData.eqv, eqv_ps]
end Mine

namespace Mine
open PySem

noncomputable def st (l : List Nat) : Str := ⟨l.toArray⟩
theorem st_size (a : List Nat) : (st a).cps.size = a.length := by simp [st]
theorem st_len (a : List Nat) : (st a).length = a.length := by simp [st, Str.length]
theorem st_app (a b : List Nat) : st a ++ st b = st (a ++ b) := by
  show Str.append (st a) (st b) = _
  simp [Str.append, st]
theorem st_inj {a b : List Nat} (h : st a = st b) : a = b := by
  have := congrArg (fun s : Str => s.cps.toList) h
  simpa [st] using this
theorem st_beq (a b : List Nat) : (st a == st b) = decide (a = b) := by
  by_cases e : a = b
  · subst e; simp
  · rw [decide_eq_false e]; exact beq_eq_false_iff_ne.mpr fun h => e (st_inj h)
theorem st_list (a : List Nat) : (st a).cps.toList = a := by simp [st]
theorem st_of (x : Str) : st x.cps.toList = x := by simp [st]

noncomputable def jn (s : List Nat) : List (List Nat) → List Nat
  | [] => []
  | [x] => x
  | x :: y :: r => x ++ s ++ jn s (y :: r)

theorem join_st (s : List Nat) : ∀ ls : List (List Nat), Txt.join (st s) (ls.map st) = st (jn s ls) := by
  have key : ∀ ls : List (List Nat), Str.join (st s) (ls.map st) = st (jn s ls) := by
    intro ls
    induction ls with
    | nil => rfl
    | cons x r ih =>
      cases r with
      | nil => rfl
      | cons y r =>
        show st x ++ st s ++ Str.join (st s) ((y :: r).map st) = _
        rw [ih, st_app, st_app]; rfl
  intro ls
  show Builtin.Str.glued _ _ = _
  rw [StrLaws.glued_eq_join, key]

theorem jn_nil : ∀ ls : List (List Nat), jn [] ls = ls.flatten
  | [] => rfl
  | [x] => by simp [jn]
  | x :: y :: r => by rw [jn, jn_nil (y :: r)]; simp

theorem jn_uniq (c : Nat) : ∀ {A B : List (List Nat)}, A ≠ [] → B ≠ [] → (∀ l ∈ A, c ∉ l) → (∀ l ∈ B, c ∉ l) → jn [c] A = jn [c] B → A = B := by
  have cut : ∀ {x y p q : List Nat}, c ∉ x → c ∉ y → x ++ c :: p = y ++ c :: q → x = y ∧ p = q := by
    intro x
    induction x with
    | nil =>
      intro y p q _ hy h
      cases y with
      | nil => simp at h; exact ⟨rfl, h⟩
      | cons b y => simp at h; exact absurd (h.1 ▸ List.mem_cons_self) hy
    | cons a x ih =>
      intro y p q hx hy h
      cases y with
      | nil => simp at h; exact absurd (h.1 ▸ List.mem_cons_self) hx
      | cons b y =>
        simp only [List.cons_append, List.cons.injEq] at h
        obtain ⟨e1, e2⟩ := ih (fun m => hx (.tail _ m)) (fun m => hy (.tail _ m)) h.2
        exact ⟨by rw [h.1, e1], e2⟩
  intro A
  induction A with
  | nil => intro B h; exact absurd rfl h
  | cons x A ih =>
    intro B _ hB fA fB h
    cases B with
    | nil => exact absurd rfl hB
    | cons y B =>
      cases A with
      | nil =>
        cases B with
        | nil => simp only [jn] at h; rw [h]
        | cons z B =>
          simp only [jn, List.append_assoc] at h
          exact absurd (h ▸ List.mem_append_right _ (List.mem_append_left _ List.mem_cons_self)) (fA x (.head _))
      | cons w A =>
        cases B with
        | nil =>
          simp only [jn, List.append_assoc] at h
          exact absurd (h ▸ List.mem_append_right _ (List.mem_append_left _ List.mem_cons_self)) (fB y (.head _))
        | cons z B =>
          simp only [jn, List.append_assoc, List.singleton_append] at h
          obtain ⟨e1, e2⟩ := cut (fA x (.head _)) (fB y (.head _)) h
          rw [e1, ih (List.cons_ne_nil _ _) (List.cons_ne_nil _ _) (fun l hl => fA l (.tail _ hl)) (fun l hl => fB l (.tail _ hl)) e2]

theorem split_st (c : Nat) {ls : List (List Nat)} (h0 : ls ≠ []) (hf : ∀ l ∈ ls, c ∉ l) : Txt.split (st (jn [c] ls)) (st [c]) = ls.map st := by
  have h1 := StrLaws.join_split (st (jn [c] ls)) (st [c])
  have h2 : ∀ p ∈ Txt.split (st (jn [c] ls)) (st [c]), c ∉ p.cps.toList := StrLaws.split_free (st (jn [c] ls)) c
  have h3 := PyProof.Rows.split_pos (st (jn [c] ls)) (st [c])
  generalize Txt.split (st (jn [c] ls)) (st [c]) = ps at h1 h3 h2 ⊢
  obtain ⟨qs, rfl⟩ : ∃ qs : List (List Nat), ps = qs.map st := ⟨ps.map fun p => p.cps.toList, by
    rw [List.map_map]
    have : (st ∘ fun p : Str => p.cps.toList) = id := funext fun p => st_of p
    rw [this, List.map_id]⟩
  have e : jn [c] qs = jn [c] ls := by
    have := join_st [c] qs
    rw [show Txt.join (st [c]) (qs.map st) = Str.join (st [c]) (qs.map st) from StrLaws.glued_eq_join _ _, h1] at this
    exact (st_inj this).symm
  rw [jn_uniq c (fun e => by subst e; simp at h3) h0 (fun l hl => by
    have := h2 (st l) (List.mem_map.mpr ⟨l, hl, rfl⟩)
    rwa [st_list] at this) hf e]

theorem starts_st (p q : List Nat) : Txt.startswith (st (p ++ q)) (st p) = true := by
  unfold Txt.startswith Builtin.Str.subAt
  rw [st_len, st_len]
  simp [st]

theorem slice_st {l : List Nat} {i : Nat} (hi : i ≤ l.length) : Txt.slice (st l) (some (i : Int)) none = st (l.drop i) := by
  rw [PyProof.Rows.slice_from_eq (b := (l.length : Int)) (by omega) (by rw [st_len]; omega) (by rw [st_len])]
  rw [st_list, st, Int.toNat_natCast]
  congr 2
  exact List.take_of_length_le (by simp)

theorem digit_st : ∀ d : Fin 10, Str.ofString (toString (d.val : Int)) = st [48 + d.val] := by decide +kernel
theorem str_digit {x : Int} (h0 : 0 ≤ x) (h1 : x < 10) : strV (.int x) = some (.str (st [48 + x.toNat])) := by
  have := digit_st ⟨x.toNat, by omega⟩
  dsimp only at this
  rw [Int.toNat_of_nonneg h0] at this
  simp only [strV]
  rw [if_pos (by omega), this]
theorem figure_in : ∀ d : Fin 10, Txt.contains (Str.ofString "0123456789") (st [48 + d.val]) = true := by decide +kernel
theorem int_digit {x : Int} (h0 : 0 ≤ x) (h1 : x < 10) : intV (.str (st [48 + x.toNat])) = some (.int x) := by
  simp only [intV, st_list]
  rw [if_pos (by omega)]
  congr 2; omega

theorem eqD_ss (H : Hp) {x y : Str} (hx : PyData.strOk x = true) (hy : PyData.strOk y = true) : eqD H (.str x) (.str y) = some (x == y) := by simp [eqD, readD, PyData.canLay0, PyData.eqv, hx, hy]
theorem of_colon : Str.ofString ":" = st [58] := by decide +kernel
theorem of_blank : Str.ofString " " = st [32] := by decide +kernel
theorem of_end : Str.ofString "\n" = st [10] := by decide +kernel
theorem of_empty : Str.ofString "" = st [] := by decide +kernel
theorem inst_str (s : Str) (H : Hp) : isInst (.str s) ["str"] H = true := by simp [isInst, typesOf]

/-- what is written of a guest's list -/
noncomputable def wr (r : List Int) : List Nat := r.flatMap fun x => [32, 48 + x.toNat]
noncomputable def lineL (g : Nat) (r : List Int) : List Nat := [48 + g, 58] ++ wr r
theorem wr_len (r : List Int) : (wr r).length = 2 * r.length := by
  induction r with
  | nil => rfl
  | cons x r ih => simp only [wr, List.flatMap_cons, List.length_append, List.length_cons, List.length_nil] at ih ⊢; omega
theorem wr_snoc (r : List Int) (x : Int) : wr (r ++ [x]) = wr r ++ [32, 48 + x.toNat] := by simp [wr]

noncomputable def linesW (W : List (List Int)) : List (List Nat) := (List.range W.length).map fun g => lineL g (row W g)

/-- a list of texts -/
noncomputable def LS (H : Hp) (a : Nat) (ls : List (List Nat)) : Prop := H[a]? = some (.list (ls.map fun l => .str (st l)))
theorem mapM_asStr : ∀ ls : List (List Nat), (ls.map fun l => V.str (st l)).mapM asStr = some (ls.map st)
  | [] => rfl
  | i :: is => by rw [List.map_cons, List.mapM_cons, mapM_asStr is]; rfl
theorem sum_st : ∀ ls : List (List Nat), ((ls.map st).map (·.length)).sum = (ls.map (·.length)).sum
  | [] => rfl
  | l :: ls => by simp only [List.map_cons, List.sum_cons, st_len, sum_st ls]
theorem LS.join {H : Hp} {a : Nat} {ls : List (List Nat)} (h : LS H a ls) {s : List Nat} (hl : (ls.map (·.length)).sum + ls.length * s.length ≤ lim) : methV .join [.str (st s), .ref a] H = some (.str (st (jn s ls)), H) := by
  unfold LS at h
  simp only [methV, joinV, h, mapM_asStr, Option.bind]
  rw [if_pos (by rw [sum_st, List.length_map, st_len]; exact hl), join_st]
end Mine

namespace Mine
open PySem

theorem str_dig {i : Nat} (h : i < 10) : strV (.int (i : Int)) = some (.str (st [48 + i])) := by
  have := str_digit (x := (i : Int)) (by omega) (by omega)
  rwa [Int.toNat_natCast] at this
theorem add_ss (H : Hp) {a b : List Nat} (h : a.length + b.length ≤ lim) : addV (.str (st a)) (.str (st b)) H = some (.str (st (a ++ b)), H) := by
  simp only [addV]
  rw [if_pos (by rw [st_size, st_size]; exact h), st_app]
theorem recvS (s : Str) (H : Hp) : recvOk .join (.str s) H = true ∧ recvOk .split (.str s) H = true ∧ recvOk .startswith (.str s) H = true := ⟨rfl, rfl, rfl⟩
theorem ok_st {l : List Nat} (h : ∀ x ∈ l, x < 200) : PyData.strOk (st l) = true := by
  unfold PyData.strOk st
  simp only [Array.all_eq_true, decide_eq_true_eq]
  intro i hi
  have : l.toArray[i] ∈ l := by simp
  exact Nat.lt_of_lt_of_le (h _ this) (by decide)

theorem LS.pre {H H' : Hp} {a : Nat} {is : List (List Nat)} (h : LS H a is) (hp : H <+: H') : LS H' a is := pre_get hp h

theorem lineL_small {g : Nat} {r : List Int} {m : Nat} (hg : g < 10) (hr : ∀ x ∈ r, 0 ≤ x ∧ x < (m : Int)) (hm : m ≤ 6) : ∀ x ∈ lineL g r, x < 200 ∧ x ≠ 10 := by
  intro x hx
  unfold lineL wr at hx
  rcases List.mem_append.mp hx with q | q
  · simp at q; omega
  · obtain ⟨y, hy, q⟩ := List.mem_flatMap.mp q
    have := hr y hy
    simp at q; omega

theorem jn_len (s : List Nat) (c : Nat) : ∀ ls : List (List Nat), (∀ l ∈ ls, l.length ≤ c) → (ls.map (·.length)).sum + ls.length * s.length ≤ ls.length * (c + s.length)
  | [], _ => by simp
  | l :: ls, h => by
    have h1 := jn_len s c ls fun x hx => h x (.tail _ hx)
    have h2 := h l (.head _)
    simp only [List.map_cons, List.sum_cons, List.length_cons, Nat.succ_mul] at h1 ⊢
    omega

section
variable {P : Prog} {b : Bool} {n : Nat} {H : Hp} {Q : Post} {X : XP}

theorem linesW_get {W : List (List Int)} {i : Nat} (hi : i < W.length) : (linesW W).take (i + 1) = (linesW W).take i ++ [lineL i (row W i)] := by
  have hl : i < (linesW W).length := by simpa [linesW] using hi
  rw [List.take_succ_eq_append_getElem hl]
  congr 2
  simp [linesW]

theorem row_len {W : List (List Int)} (ok : WOk W) {i : Nat} (hi : i < W.length) : (row W i).length ≤ 6 := (ok.rows i hi).len

theorem linesW_len (W : List (List Int)) : (linesW W).length = W.length := by simp [linesW]
theorem linesW_mem {W : List (List Int)} {l : List Nat} (h : l ∈ linesW W) : ∃ i, i < W.length ∧ l = lineL i (row W i) := by
  obtain ⟨i, hi, e⟩ := List.mem_map.mp h
  exact ⟨i, by simpa using hi, e.symm⟩
theorem linesW_sum {W : List (List Int)} (ok : WOk W) : ((linesW W).map (·.length)).sum + (linesW W).length * [10].length ≤ lim := by
  have := jn_len [10] 14 (linesW W) fun l hl => by
    obtain ⟨i, hi, rfl⟩ := linesW_mem hl
    have := row_len ok hi
    simp only [lineL, List.length_append, List.length_cons, List.length_nil, wr_len]; omega
  rw [linesW_len] at this
  have l6 := ok.le
  have : W.length * (14 + [10].length) ≤ 6 * 15 := Nat.mul_le_mul l6 (Nat.le_refl _)
  unfold lim; rw [linesW_len]; omega

theorem push_line {H : Hp} {a : Nat} {ls : List (List Nat)} (h : LS H a ls) (hl : ls.length < lim) (l : List Nat) : methV .append [.ref a, .str (st l)] H = some (.none, H.set a (.list ((ls ++ [l]).map fun l => .str (st l)))) ∧ LS (H.set a (.list ((ls ++ [l]).map fun l => .str (st l)))) a (ls ++ [l]) := by
  refine ⟨?_, get_set_eq h _⟩
  rw [append_at h (by rw [List.length_map]; exact hl)]; simp

theorem s_shown (hP : P.fn "shown" = some f_shown) (hP1 : P.fn "need_wishes" = some f_need_wishes) (hP2 : P.fn "is_row" = some f_is_row) (hP3 : P.fn "is_guest" = some f_is_guest) (hG : P.glob "MOST_GUESTS" = some (.int 6)) {w : Nat} {W : List (List Int)} (hw : WH H w W) (ok : WOk W)
    (h : ∀ H', H <+: H' → Q (.str (st (jn [10] (linesW W)))) H') : callN P b (n + 4) "shown" [.ref w] H Q X := by
  have l6 := ok.le
  have hl : W.length ≤ lim := Nat.le_trans ok.le (by decide)
  (unfold callN; rw [hP]; refine ⟨rfl, ?_⟩; unfold f_shown)
  (try simp only [wSs, wS, wE, wEs, wAnd, wOr, wP, wB, wIf_t, wIf_f, prim, binV, add_ii, cmpV, putNew, true_and, less_ii, bindT, eqD_ii, eqD_in, eqD_ni, eqD_nn, eqD_bb, is_int, is_none, is_bool, inst_int, inst_int_b, inst_bool_b, rangeI_rng, lim0, lim1, lim2, lim3, Env.set, Option.map, Option.bind, Bool.not_true, Bool.not_false, Bool.true_and, Bool.false_and, Bool.true_or, Bool.false_or, beq_self_eq_true, reduceIte, String.reduceEq, String.reduceBEq, reduceCtorEq, ↓reduceIte, List.length_nil, List.length_cons, List.length_map, bindP])
  refine s_need_wishes hP1 hP2 hP3 hG hw ok fun H1 hp1 => ?_
  have hw1 := hw.pre hp1
  (try simp only [wSs, wS, wE, wEs, wAnd, wOr, wP, wB, wIf_t, wIf_f, prim, binV, add_ii, cmpV, putNew, true_and, less_ii, bindT, eqD_ii, eqD_in, eqD_ni, eqD_nn, eqD_bb, is_int, is_none, is_bool, inst_int, inst_int_b, inst_bool_b, rangeI_rng, lim0, lim1, lim2, lim3, Env.set, Option.map, Option.bind, Bool.not_true, Bool.not_false, Bool.true_and, Bool.false_and, Bool.true_or, Bool.false_or, beq_self_eq_true, reduceIte, String.reduceEq, String.reduceBEq, reduceCtorEq, ↓reduceIte, List.length_nil, List.length_cons, List.length_map, bindP, (hw1.pre (pre_new H1 (.list []))).len, range_nat hl])
  refine wFor_idx (fun i ρ H' => H1 <+: H' ∧ LS H' H1.length ((linesW W).take i) ∧ ρ "wishes" = some (.ref w) ∧ ρ "lines" = some (.ref H1.length)) ⟨pre_new _ _, get_new _ _, rfl, rfl⟩ (fun i v ρ H' hv hI => ⟨trivial, fun k' h1 h2 => ?_⟩) fun ρ H' hI => ⟨trivial, ?_⟩
  · obtain ⟨hi, rfl⟩ := rng_get hv
    obtain ⟨hp, hL, e1, e2⟩ := hI
    have hw' := hw1.pre hp
    obtain ⟨a, it, hli⟩ := hw'.item (row_get hi)
    have hrow := ok.rows i hi
    (try simp only [wSs, wS, wE, wEs, wAnd, wOr, wP, wB, wIf_t, wIf_f, prim, binV, add_ii, cmpV, putNew, true_and, less_ii, bindT, eqD_ii, eqD_in, eqD_ni, eqD_nn, eqD_bb, is_int, is_none, is_bool, inst_int, inst_int_b, inst_bool_b, rangeI_rng, lim0, lim1, lim2, lim3, Env.set, Option.map, Option.bind, Bool.not_true, Bool.not_false, Bool.true_and, Bool.false_and, Bool.true_or, Bool.false_or, beq_self_eq_true, reduceIte, String.reduceEq, String.reduceBEq, reduceCtorEq, ↓reduceIte, List.length_nil, List.length_cons, List.length_map, bindP, e1, e2, (recvL hL).1, str_dig (show i < 10 by omega), of_colon, of_empty, of_blank, add_ss H' (a := [48 + i]) (b := [58]) (by decide : 2 ≤ lim), (recvS _ _).1, it, hli.seq])
    refine wLoop_idx (fun j acc H'' => H'' = H' ∧ acc = (((row W i).take j).map fun x => [32, 48 + x.toNat]).map fun l => V.str (st l)) ⟨rfl, rfl⟩ (fun j v acc H'' hv hI => ⟨by rw [hI.1], fun k' k1 k2 => ?_⟩) fun acc H'' hI => ⟨by rw [hI.1], ?_⟩
    · obtain ⟨rfl, rfl⟩ := hI
      rw [List.getElem?_map] at hv
      obtain ⟨x, hx, rfl⟩ := Option.map_eq_some_iff.mp hv
      have hb := hrow.low x (List.mem_of_getElem? hx)
      (try simp only [wSs, wS, wE, wEs, wAnd, wOr, wP, wB, wIf_t, wIf_f, prim, binV, add_ii, cmpV, putNew, true_and, less_ii, bindT, eqD_ii, eqD_in, eqD_ni, eqD_nn, eqD_bb, is_int, is_none, is_bool, inst_int, inst_int_b, inst_bool_b, rangeI_rng, lim0, lim1, lim2, lim3, Env.set, Option.map, Option.bind, Bool.not_true, Bool.not_false, Bool.true_and, Bool.false_and, Bool.true_or, Bool.false_or, beq_self_eq_true, reduceIte, String.reduceEq, String.reduceBEq, reduceCtorEq, ↓reduceIte, List.length_nil, List.length_cons, List.length_map, bindP, str_digit (x := x) (by omega) (by omega), add_ss H'' (a := [32]) (b := [48 + x.toNat]) (by decide : 2 ≤ lim)])
      refine k1 _ _ ⟨rfl, ?_⟩
      obtain ⟨hj, e⟩ := List.getElem?_eq_some_iff.mp hx
      rw [List.take_succ_eq_append_getElem hj, e]; simp
    · obtain ⟨rfl, rfl⟩ := hI
      rw [List.length_map, List.take_length]
      have hls : LS (H'' ++ [O.list (((row W i).map fun x => [32, 48 + x.toNat]).map fun l => V.str (st l))]) H''.length ((row W i).map fun x => [32, 48 + x.toNat]) := get_new _ _
      have hlen : (((row W i).map fun x => [32, 48 + x.toNat]).map (·.length)).sum + ((row W i).map fun x => [32, 48 + x.toNat]).length * ([] : List Nat).length ≤ lim := by
        have := jn_len [] 2 ((row W i).map fun x => [32, 48 + x.toNat]) fun l hl => by obtain ⟨x, _, rfl⟩ := List.mem_map.mp hl; exact Nat.le_refl _
        have l6 := hrow.len
        have l7 : ((row W i).map fun x => [32, 48 + x.toNat]).length ≤ 6 := by rw [List.length_map]; exact l6
        have : ((row W i).map fun x => [32, 48 + x.toNat]).length * (2 + ([] : List Nat).length) ≤ 6 * 2 := Nat.mul_le_mul l7 (Nat.le_refl _)
        unfold lim; omega
      have ej : jn [] ((row W i).map fun x => [32, 48 + x.toNat]) = wr (row W i) := by rw [jn_nil]; rfl
      have hjoin := hls.join hlen
      rw [ej] at hjoin
      have hp2 : H'' <+: H'' ++ [O.list (((row W i).map fun x => [32, 48 + x.toNat]).map fun l => V.str (st l))] := pre_new _ _
      have hL2 := hL.pre hp2
      have hp3 := hp.trans hp2
      obtain ⟨ap1, ap2⟩ := push_line hL2 (by rw [List.length_take, linesW_len]; unfold lim; omega) (lineL i (row W i))
      have hadd : addV (.str (st [48 + i, 58])) (.str (st (wr (row W i)))) (H'' ++ [O.list (((row W i).map fun x => [32, 48 + x.toNat]).map fun l => V.str (st l))]) = some (.str (st (lineL i (row W i))), _) := add_ss _ (a := [48 + i, 58]) (by rw [wr_len]; have := hrow.len; simp only [List.length_cons, List.length_nil]; unfold lim; omega)
      simp only [hjoin]
      (try simp only [wSs, wS, wE, wEs, wAnd, wOr, wP, wB, wIf_t, wIf_f, prim, binV, add_ii, cmpV, putNew, true_and, less_ii, bindT, eqD_ii, eqD_in, eqD_ni, eqD_nn, eqD_bb, is_int, is_none, is_bool, inst_int, inst_int_b, inst_bool_b, rangeI_rng, lim0, lim1, lim2, lim3, Env.set, Option.map, Option.bind, Bool.not_true, Bool.not_false, Bool.true_and, Bool.false_and, Bool.true_or, Bool.false_or, beq_self_eq_true, reduceIte, String.reduceEq, String.reduceBEq, reduceCtorEq, ↓reduceIte, List.length_nil, List.length_cons, List.length_map, bindP, hadd, ap1, List.cons_append, List.nil_append, hjoin])
      refine h1 _ _ ⟨pre_set hp3 (Nat.le_refl _) _, ?_, by (try simp only [wSs, wS, wE, wEs, wAnd, wOr, wP, wB, wIf_t, wIf_f, prim, binV, add_ii, cmpV, putNew, true_and, less_ii, bindT, eqD_ii, eqD_in, eqD_ni, eqD_nn, eqD_bb, is_int, is_none, is_bool, inst_int, inst_int_b, inst_bool_b, rangeI_rng, lim0, lim1, lim2, lim3, Env.set, Option.map, Option.bind, Bool.not_true, Bool.not_false, Bool.true_and, Bool.false_and, Bool.true_or, Bool.false_or, beq_self_eq_true, reduceIte, String.reduceEq, String.reduceBEq, reduceCtorEq, ↓reduceIte, List.length_nil, List.length_cons, List.length_map, bindP, e1]), by (try simp only [wSs, wS, wE, wEs, wAnd, wOr, wP, wB, wIf_t, wIf_f, prim, binV, add_ii, cmpV, putNew, true_and, less_ii, bindT, eqD_ii, eqD_in, eqD_ni, eqD_nn, eqD_bb, is_int, is_none, is_bool, inst_int, inst_int_b, inst_bool_b, rangeI_rng, lim0, lim1, lim2, lim3, Env.set, Option.map, Option.bind, Bool.not_true, Bool.not_false, Bool.true_and, Bool.false_and, Bool.true_or, Bool.false_or, beq_self_eq_true, reduceIte, String.reduceEq, String.reduceBEq, reduceCtorEq, ↓reduceIte, List.length_nil, List.length_cons, List.length_map, bindP, e2])⟩
      rw [linesW_get hi]; exact ap2
  · obtain ⟨hp, hL, e1, e2⟩ := hI
    rw [rng_len, List.take_of_length_le (by rw [linesW_len]; exact Nat.le_refl _)] at hL
    (try simp only [wSs, wS, wE, wEs, wAnd, wOr, wP, wB, wIf_t, wIf_f, prim, binV, add_ii, cmpV, putNew, true_and, less_ii, bindT, eqD_ii, eqD_in, eqD_ni, eqD_nn, eqD_bb, is_int, is_none, is_bool, inst_int, inst_int_b, inst_bool_b, rangeI_rng, lim0, lim1, lim2, lim3, Env.set, Option.map, Option.bind, Bool.not_true, Bool.not_false, Bool.true_and, Bool.false_and, Bool.true_or, Bool.false_or, beq_self_eq_true, reduceIte, String.reduceEq, String.reduceBEq, reduceCtorEq, ↓reduceIte, List.length_nil, List.length_cons, List.length_map, bindP, e2, of_end, (recvS _ _).1, hL.join (linesW_sum ok)])
    exact h _ (hp1.trans hp)
end
end Mine

namespace Mine
open PySem

theorem len_st (H : Hp) {l : List Nat} (h : l.length ≤ lim) : lenV (.str (st l)) H = some (l.length : Int) := by
  unfold lenV
  simp only [st_size]
  rw [if_pos h]
theorem wr_jn (x : Int) : ∀ r : List Int, [48 + x.toNat] ++ wr r = jn [32] ((x :: r).map fun y => [48 + y.toNat])
  | [] => by simp [wr, jn]
  | y :: r => by
    have := wr_jn y r
    simp only [List.map_cons, jn] at this ⊢
    rw [← this]; simp [wr]

theorem WH.ne {H : Hp} {d : Nat} {W : List (List Int)} (h : WH H d W) {c : Nat} {is : List Int} (hc : LI H c is) (hW : W ≠ []) : c ≠ d := by
  obtain ⟨rs, h1, h2⟩ := h
  rintro rfl
  unfold LI at hc
  rw [h1] at hc
  have q : rs = is.map .int := by simpa using hc
  cases h2 with
  | nil => exact hW rfl
  | cons hr _ =>
    obtain ⟨b, rfl, _⟩ := hr
    cases is with
    | nil => simp at q
    | cons i is => simp at q

theorem WH.push {H : Hp} {d : Nat} {W : List (List Int)} (h : WH H d W) {b : Nat} {l : List Int} (hb : LI H b l) (hbd : b ≠ d) (hl : W.length < lim) : ∃ H', methV .append [.ref d, .ref b] H = some (.none, H') ∧ WH H' d (W ++ [l]) ∧ (∀ H₀, H₀ <+: H → H₀.length ≤ d → H₀ <+: H') ∧ ∀ c o, c ≠ d → H[c]? = some o → H'[c]? = some o := by
  have h' := h
  obtain ⟨rs, h1, h2⟩ := h
  refine ⟨_, append_at h1 (by rw [h2.length]; exact hl), ⟨_, get_set_eq h1 _, ?_⟩, fun H₀ hp hr => pre_set hp hr _, fun c o n q => by rw [get_set_ne n]; exact q⟩
  have keep : ∀ {c : Nat} {is : List Int}, c ≠ d → LI H c is → LI (H.set d (.list (rs ++ [.ref b]))) c is := fun n q => by unfold LI; rw [get_set_ne n]; exact q
  have keepA : ∀ {rs' : List V} {W' : List (List Int)}, (W' = [] ∨ W ≠ []) → All2 (fun r is => ∃ b, r = V.ref b ∧ LI H b is) rs' W' → All2 (fun r is => ∃ c, r = V.ref c ∧ LI (H.set d (.list (rs ++ [.ref b]))) c is) rs' W' := by
    intro rs' W' hw q
    rcases hw with rfl | hw
    · cases q; exact .nil
    · exact q.mono fun _ _ ⟨c, e, q⟩ => ⟨c, e, keep (h'.ne q hw) q⟩
  refine (keepA ?_ h2).append (.cons ⟨b, rfl, keep hbd hb⟩ .nil)
  by_cases e : W = []
  · exact .inl e
  · exact .inr e

section
variable {P : Prog} {b : Bool} {n : Nat} {H : Hp} {Q : Post} {X : XP}

theorem s_row_of (hP : P.fn "row_of" = some f_row_of) (hG : P.glob "FIGURES" = some (.str (Str.ofString "0123456789"))) {g : Nat} {r : List Int} {m : Nat} (hg : g < 10) (hr : ∀ x ∈ r, 0 ≤ x ∧ x < (m : Int)) (hm : m ≤ 6) (hl : r.length ≤ 6)
    (h : ∀ H' a, H <+: H' → H.length ≤ a → LI H' a r → Q (.ref a) H') : callN P b (n + 1) "row_of" [.str (st (lineL g r)), .int (g : Int)] H Q X := by
  have sm := lineL_small hg hr hm
  (unfold callN; rw [hP]; refine ⟨rfl, ?_⟩; unfold f_row_of)
  (try simp only [wSs, wS, wE, wEs, wAnd, wOr, wP, wB, wIf_t, wIf_f, prim, binV, add_ii, cmpV, putNew, true_and, less_ii, bindT, eqD_ii, eqD_in, eqD_ni, eqD_nn, eqD_bb, is_int, is_none, is_bool, inst_int, inst_int_b, inst_bool_b, rangeI_rng, lim0, lim1, lim2, lim3, Env.set, Option.map, Option.bind, Bool.not_true, Bool.not_false, Bool.true_and, Bool.false_and, Bool.true_or, Bool.false_or, beq_self_eq_true, reduceIte, String.reduceEq, String.reduceBEq, reduceCtorEq, ↓reduceIte, List.length_nil, List.length_cons, List.length_map, bindP, str_dig hg, of_colon, of_blank, add_ss H (a := [48 + g]) (b := [58]) (by decide : 2 ≤ lim), List.cons_append, List.nil_append,
    eqD_ss H (ok_st fun x hx => (sm x hx).1) (ok_st (l := [48 + g, 58]) fun x hx => by simp at hx; omega), st_beq])
  cases r with
  | nil =>
    have : decide (lineL g [] = [48 + g, 58]) = true := by simp [lineL, wr]
    (try simp only [wSs, wS, wE, wEs, wAnd, wOr, wP, wB, wIf_t, wIf_f, prim, binV, add_ii, cmpV, putNew, true_and, less_ii, bindT, eqD_ii, eqD_in, eqD_ni, eqD_nn, eqD_bb, is_int, is_none, is_bool, inst_int, inst_int_b, inst_bool_b, rangeI_rng, lim0, lim1, lim2, lim3, Env.set, Option.map, Option.bind, Bool.not_true, Bool.not_false, Bool.true_and, Bool.false_and, Bool.true_or, Bool.false_or, beq_self_eq_true, reduceIte, String.reduceEq, String.reduceBEq, reduceCtorEq, ↓reduceIte, List.length_nil, List.length_cons, List.length_map, bindP, this])
    exact h _ _ (pre_new _ _) (Nat.le_refl _) (LI.new H [])
  | cons x r =>
    have hne : decide (lineL g (x :: r) = [48 + g, 58]) = false := decide_eq_false (by simp [lineL, wr])
    have hst : Txt.startswith (st (lineL g (x :: r))) (st [48 + g, 58, 32]) = true := starts_st [48 + g, 58, 32] ([48 + x.toNat] ++ wr r)
    have hms : ∀ H : Hp, methV .startswith [.str (st (lineL g (x :: r))), .str (st [48 + g, 58, 32])] H = some (.bool true, H) := fun H => by
      simp only [methV, startsV, hst]
    have hlen : (lineL g (x :: r)).length ≤ 14 := by simp only [lineL, List.length_append, wr_len, List.length_cons, List.length_nil] at hl ⊢; omega
    have hsl : ∀ H : Hp, sliceV (.str (st (lineL g (x :: r)))) (some ((2 : Int) + 1)) none H = some (.str (st (jn [32] ((x :: r).map fun y => [48 + y.toNat]))), H) := fun H => by
      simp only [sliceV]
      rw [if_pos (by rw [st_len]; unfold lim; omega), show (2 : Int) + 1 = ((3 : Nat) : Int) from rfl, slice_st (by simp [lineL, wr]), ← wr_jn]
      rfl
    have hsp : ∀ H : Hp, methV .split [.str (st (jn [32] ((x :: r).map fun y => [48 + y.toNat]))), .str (st [32])] H = some (.ref H.length, H ++ [.list (((x :: r).map fun y => [48 + y.toNat]).map fun l => .str (st l))]) := fun H => by
      simp only [methV, splitV]
      rw [if_pos, split_st 32 (by simp) (fun l hl => ?_)]
      · simp [putNew]
      · obtain ⟨y, hy, rfl⟩ := List.mem_map.mp hl
        simp; omega
      · refine ⟨by rw [st_len]; rfl, ?_⟩
        rw [st_len, ← wr_jn, List.length_append, wr_len]
        simp only [List.length_cons, List.length_nil] at hl ⊢; unfold lim; omega
    (try simp only [wSs, wS, wE, wEs, wAnd, wOr, wP, wB, wIf_t, wIf_f, prim, binV, add_ii, cmpV, putNew, true_and, less_ii, bindT, eqD_ii, eqD_in, eqD_ni, eqD_nn, eqD_bb, is_int, is_none, is_bool, inst_int, inst_int_b, inst_bool_b, rangeI_rng, lim0, lim1, lim2, lim3, Env.set, Option.map, Option.bind, Bool.not_true, Bool.not_false, Bool.true_and, Bool.false_and, Bool.true_or, Bool.false_or, beq_self_eq_true, reduceIte, String.reduceEq, String.reduceBEq, reduceCtorEq, ↓reduceIte, List.length_nil, List.length_cons, List.length_map, bindP, hne, add_ss H (a := [48 + g, 58]) (b := [32]) (by decide : 3 ≤ lim), (recvS _ _).2.2, hms, List.cons_append, List.nil_append])
    (try simp only [wSs, wS, wE, wEs, wAnd, wOr, wP, wB, wIf_t, wIf_f, prim, binV, add_ii, cmpV, putNew, true_and, less_ii, bindT, eqD_ii, eqD_in, eqD_ni, eqD_nn, eqD_bb, is_int, is_none, is_bool, inst_int, inst_int_b, inst_bool_b, rangeI_rng, lim0, lim1, lim2, lim3, Env.set, Option.map, Option.bind, Bool.not_true, Bool.not_false, Bool.true_and, Bool.false_and, Bool.true_or, Bool.false_or, beq_self_eq_true, reduceIte, String.reduceEq, String.reduceBEq, reduceCtorEq, ↓reduceIte, List.length_nil, List.length_cons, List.length_map, bindP, len_st (H ++ [O.list []]) (l := [48 + g, 58]) (by decide : 2 ≤ lim), show (((0 + 1 + 1 : Nat) : Int)) = 2 from rfl, hsl, (recvS _ _).2.1, hsp])
    have g1 : (H ++ [O.list []])[H.length]? = some (.list []) := get_new _ _
    have hl1 : (H ++ [O.list []]).length = H.length + 1 := by simp
    have p1 : H <+: H ++ [O.list []] := pre_new _ _
    generalize hH1 : H ++ [O.list []] = H1 at g1 hl1 p1
    have hwd : LS (H1 ++ [O.list (((x :: r).map fun y => [48 + y.toNat]).map fun l => .str (st l))]) H1.length ((x :: r).map fun y => [48 + y.toNat]) := get_new _ _
    have g2 : LI (H1 ++ [O.list (((x :: r).map fun y => [48 + y.toNat]).map fun l => .str (st l))]) H.length [] := pre_get (pre_new _ _) g1
    have p2 : H <+: H1 ++ [O.list (((x :: r).map fun y => [48 + y.toNat]).map fun l => .str (st l))] := p1.trans (pre_new _ _)
    generalize hH2 : H1 ++ [O.list (((x :: r).map fun y => [48 + y.toNat]).map fun l => .str (st l))] = H2 at hwd g2 p2
    (try simp only [wSs, wS, wE, wEs, wAnd, wOr, wP, wB, wIf_t, wIf_f, prim, binV, add_ii, cmpV, putNew, true_and, less_ii, bindT, eqD_ii, eqD_in, eqD_ni, eqD_nn, eqD_bb, is_int, is_none, is_bool, inst_int, inst_int_b, inst_bool_b, rangeI_rng, lim0, lim1, lim2, lim3, Env.set, Option.map, Option.bind, Bool.not_true, Bool.not_false, Bool.true_and, Bool.false_and, Bool.true_or, Bool.false_or, beq_self_eq_true, reduceIte, String.reduceEq, String.reduceBEq, reduceCtorEq, ↓reduceIte, List.length_nil, List.length_cons, List.length_map, bindP, seqOf_list hwd])
    have hne2 : H1.length ≠ H.length := by omega
    refine wFor_idx (fun i ρ H' => H <+: H' ∧ LS H' H1.length ((x :: r).map fun y => [48 + y.toNat]) ∧ LI H' H.length ((x :: r).take i) ∧ ρ "row" = some (.ref H.length)) ⟨p2, hwd, g2, rfl⟩ (fun i v ρ H' hv hI => ⟨?_, fun k' h1 h2 => ?_⟩) fun ρ H' hI => ⟨?_, ?_⟩
    · rw [show H'[H1.length]? = _ from hI.2.1, show H2[H1.length]? = _ from hwd]
    · obtain ⟨hp, hLS, hLI, e1⟩ := hI
      rw [List.map_map, List.getElem?_map] at hv
      obtain ⟨y, hy, rfl⟩ := Option.map_eq_some_iff.mp hv
      have hb := hr y (List.mem_of_getElem? hy)
      have hfig : mem H' (.str (st [48 + y.toNat])) (.str (Str.ofString "0123456789")) = some true := by
        simp only [mem]; rw [figure_in ⟨y.toNat, by omega⟩]
      obtain ⟨hi, ey⟩ := List.getElem?_eq_some_iff.mp hy
      have hi7 : i < (x :: r).length := hi
      have ap := append_at (v := .int y) hLI (by rw [List.length_map, List.length_take]; have := hl; unfold lim; omega)
      (try simp only [wSs, wS, wE, wEs, wAnd, wOr, wP, wB, wIf_t, wIf_f, prim, binV, add_ii, cmpV, putNew, true_and, less_ii, bindT, eqD_ii, eqD_in, eqD_ni, eqD_nn, eqD_bb, is_int, is_none, is_bool, inst_int, inst_int_b, inst_bool_b, rangeI_rng, lim0, lim1, lim2, lim3, Env.set, Option.map, Option.bind, Bool.not_true, Bool.not_false, Bool.true_and, Bool.false_and, Bool.true_or, Bool.false_or, beq_self_eq_true, reduceIte, String.reduceEq, String.reduceBEq, reduceCtorEq, ↓reduceIte, List.length_nil, List.length_cons, List.length_map, bindP, Function.comp, len_st H' (l := [48 + y.toNat]) (by decide : 1 ≤ lim), show (((0 + 1 : Nat) : Int) == 1) = true from rfl, hG, hfig, e1, (recvL hLI).1, int_digit (x := y) (by omega) (by omega), ap])
      refine h1 _ _ ⟨pre_set hp (Nat.le_refl _) _, ?_, ?_, by (try simp only [wSs, wS, wE, wEs, wAnd, wOr, wP, wB, wIf_t, wIf_f, prim, binV, add_ii, cmpV, putNew, true_and, less_ii, bindT, eqD_ii, eqD_in, eqD_ni, eqD_nn, eqD_bb, is_int, is_none, is_bool, inst_int, inst_int_b, inst_bool_b, rangeI_rng, lim0, lim1, lim2, lim3, Env.set, Option.map, Option.bind, Bool.not_true, Bool.not_false, Bool.true_and, Bool.false_and, Bool.true_or, Bool.false_or, beq_self_eq_true, reduceIte, String.reduceEq, String.reduceBEq, reduceCtorEq, ↓reduceIte, List.length_nil, List.length_cons, List.length_map, bindP, e1])⟩
      · unfold LS; rw [get_set_ne hne2]; exact hLS
      · unfold LI; rw [get_set_eq hLI, List.take_succ_eq_append_getElem hi, ey]; simp
    · rw [show H'[H1.length]? = _ from hI.2.1, show H2[H1.length]? = _ from hwd]
    · obtain ⟨hp, hLS, hLI, e1⟩ := hI
      rw [List.length_map, List.length_map, List.take_length] at hLI
      (try simp only [wSs, wS, wE, wEs, wAnd, wOr, wP, wB, wIf_t, wIf_f, prim, binV, add_ii, cmpV, putNew, true_and, less_ii, bindT, eqD_ii, eqD_in, eqD_ni, eqD_nn, eqD_bb, is_int, is_none, is_bool, inst_int, inst_int_b, inst_bool_b, rangeI_rng, lim0, lim1, lim2, lim3, Env.set, Option.map, Option.bind, Bool.not_true, Bool.not_false, Bool.true_and, Bool.false_and, Bool.true_or, Bool.false_or, beq_self_eq_true, reduceIte, String.reduceEq, String.reduceBEq, reduceCtorEq, ↓reduceIte, List.length_nil, List.length_cons, List.length_map, bindP, e1])
      exact h _ _ hp (Nat.le_refl _) hLI

theorem s_read (hP : P.fn "read" = some f_read) (hP0 : P.fn "row_of" = some f_row_of) (hP1 : P.fn "need_wishes" = some f_need_wishes) (hP2 : P.fn "is_row" = some f_is_row) (hP3 : P.fn "is_guest" = some f_is_guest) (hG : P.glob "MOST_GUESTS" = some (.int 6)) (hG2 : P.glob "FIGURES" = some (.str (Str.ofString "0123456789")))
    {W : List (List Int)} (ok : WOk W) (h : ∀ H' a, H <+: H' → WH H' a W → Q (.ref a) H') : callN P b (n + 4) "read" [.str (st (jn [10] (linesW W)))] H Q X := by
  have l6 := ok.le
  have hsp : ∀ H : Hp, methV .split [.str (st (jn [10] (linesW W))), .str (st [10])] H = some (.ref H.length, H ++ [.list ((linesW W).map fun l => .str (st l))]) := fun H => by
    simp only [methV, splitV]
    rw [if_pos, split_st 10 (fun e => ?_) (fun l hl => ?_)]
    · simp [putNew]
    · have h0 : W.length = 0 := by rw [← linesW_len, e]; rfl
      have := ok.pos
      omega
    · obtain ⟨i, hi, rfl⟩ := linesW_mem hl
      exact fun q => (lineL_small (by omega) (ok.rows i hi).low ok.le _ q).2 rfl
    · refine ⟨by rw [st_len]; rfl, ?_⟩
      have hj : ∀ ls : List (List Nat), (jn [10] ls).length ≤ (ls.map (·.length)).sum + ls.length * [10].length := by
        intro ls
        induction ls with
        | nil => simp [jn]
        | cons x ls ih => cases ls with
          | nil => simp [jn]
          | cons y ls => simp only [jn, List.length_append, List.map_cons, List.sum_cons, List.length_cons, List.length_nil, Nat.succ_mul] at ih ⊢; omega
      have h1 := hj (linesW W)
      have h2 := jn_len [10] 14 (linesW W) fun l hl => by
        obtain ⟨i, hi, rfl⟩ := linesW_mem hl
        have := row_len ok hi
        simp only [lineL, List.length_append, List.length_cons, List.length_nil, wr_len]; omega
      rw [linesW_len] at h1 h2
      have : W.length * (14 + [10].length) ≤ 6 * 15 := Nat.mul_le_mul l6 (Nat.le_refl _)
      rw [st_len]; unfold lim; omega
  (unfold callN; rw [hP]; refine ⟨rfl, ?_⟩; unfold f_read)
  (try simp only [wSs, wS, wE, wEs, wAnd, wOr, wP, wB, wIf_t, wIf_f, prim, binV, add_ii, cmpV, putNew, true_and, less_ii, bindT, eqD_ii, eqD_in, eqD_ni, eqD_nn, eqD_bb, is_int, is_none, is_bool, inst_int, inst_int_b, inst_bool_b, rangeI_rng, lim0, lim1, lim2, lim3, Env.set, Option.map, Option.bind, Bool.not_true, Bool.not_false, Bool.true_and, Bool.false_and, Bool.true_or, Bool.false_or, beq_self_eq_true, reduceIte, String.reduceEq, String.reduceBEq, reduceCtorEq, ↓reduceIte, List.length_nil, List.length_cons, List.length_map, bindP, inst_str, of_end, (recvS _ _).2.1, hsp])
  have g1 : (H ++ [O.list []])[H.length]? = some (.list []) := get_new _ _
  have hl1 : (H ++ [O.list []]).length = H.length + 1 := by simp
  have p1 : H <+: H ++ [O.list []] := pre_new _ _
  generalize hH1 : H ++ [O.list []] = H1 at g1 hl1 p1
  have hwd : LS (H1 ++ [O.list ((linesW W).map fun l => .str (st l))]) H1.length (linesW W) := get_new _ _
  have g2 : WH (H1 ++ [O.list ((linesW W).map fun l => .str (st l))]) H.length [] := ⟨[], pre_get (pre_new _ _) g1, .nil⟩
  have p2 : H <+: H1 ++ [O.list ((linesW W).map fun l => .str (st l))] := p1.trans (pre_new _ _)
  have lt2 : H1.length < (H1 ++ [O.list ((linesW W).map fun l => .str (st l))]).length := by simp
  generalize hH2 : H1 ++ [O.list ((linesW W).map fun l => .str (st l))] = H2 at hwd g2 p2 lt2
  (try simp only [wSs, wS, wE, wEs, wAnd, wOr, wP, wB, wIf_t, wIf_f, prim, binV, add_ii, cmpV, putNew, true_and, less_ii, bindT, eqD_ii, eqD_in, eqD_ni, eqD_nn, eqD_bb, is_int, is_none, is_bool, inst_int, inst_int_b, inst_bool_b, rangeI_rng, lim0, lim1, lim2, lim3, Env.set, Option.map, Option.bind, Bool.not_true, Bool.not_false, Bool.true_and, Bool.false_and, Bool.true_or, Bool.false_or, beq_self_eq_true, reduceIte, String.reduceEq, String.reduceBEq, reduceCtorEq, ↓reduceIte, List.length_nil, List.length_cons, List.length_map, bindP, seqOf_list hwd])
  refine wFor_idx (fun i ρ H' => H <+: H' ∧ LS H' H1.length (linesW W) ∧ WH H' H.length (W.take i) ∧ ρ "wishes" = some (.ref H.length)) ⟨p2, hwd, g2, rfl⟩ (fun i v ρ H' hv hI => ⟨?_, fun k' h1 h2 => ?_⟩) fun ρ H' hI => ⟨?_, ?_⟩
  · rw [show H'[H1.length]? = _ from hI.2.1, show H2[H1.length]? = _ from hwd]
  · obtain ⟨hp, hLS, hWH, e1⟩ := hI
    rw [List.getElem?_map] at hv
    obtain ⟨l, hl, rfl⟩ := Option.map_eq_some_iff.mp hv
    obtain ⟨hi, el⟩ := List.getElem?_eq_some_iff.mp hl
    have hi' : i < W.length := by rw [linesW_len] at hi; exact hi
    have el' : l = lineL i (row W i) := by rw [← el]; simp [linesW]
    subst el'
    have hlen : ((W.take i).length : Int) = (i : Int) := by rw [List.length_take]; omega
    obtain ⟨rs, hrs, _⟩ := id hWH
    (try simp only [wSs, wS, wE, wEs, wAnd, wOr, wP, wB, wIf_t, wIf_f, prim, binV, add_ii, cmpV, putNew, true_and, less_ii, bindT, eqD_ii, eqD_in, eqD_ni, eqD_nn, eqD_bb, is_int, is_none, is_bool, inst_int, inst_int_b, inst_bool_b, rangeI_rng, lim0, lim1, lim2, lim3, Env.set, Option.map, Option.bind, Bool.not_true, Bool.not_false, Bool.true_and, Bool.false_and, Bool.true_or, Bool.false_or, beq_self_eq_true, reduceIte, String.reduceEq, String.reduceBEq, reduceCtorEq, ↓reduceIte, List.length_nil, List.length_cons, List.length_map, bindP, e1, (recvL hrs).1, hWH.len, hlen])
    refine s_row_of (g := i) (r := row W i) (m := W.length) (n := n + 2) hP0 hG2 (by omega) (ok.rows i hi').low ok.le (row_len ok hi') fun H3 a hp3 ha hLI => ?_
    have hlt : H.length < H'.length := (List.getElem?_eq_some_iff.mp hrs).1
    obtain ⟨H4, ap, hW4, pre4, keep4⟩ := (hWH.pre hp3).push hLI (by omega) (by rw [List.length_take]; unfold lim; omega)
    (try simp only [wSs, wS, wE, wEs, wAnd, wOr, wP, wB, wIf_t, wIf_f, prim, binV, add_ii, cmpV, putNew, true_and, less_ii, bindT, eqD_ii, eqD_in, eqD_ni, eqD_nn, eqD_bb, is_int, is_none, is_bool, inst_int, inst_int_b, inst_bool_b, rangeI_rng, lim0, lim1, lim2, lim3, Env.set, Option.map, Option.bind, Bool.not_true, Bool.not_false, Bool.true_and, Bool.false_and, Bool.true_or, Bool.false_or, beq_self_eq_true, reduceIte, String.reduceEq, String.reduceBEq, reduceCtorEq, ↓reduceIte, List.length_nil, List.length_cons, List.length_map, bindP, ap])
    refine h1 _ _ ⟨pre4 H (hp.trans hp3) (Nat.le_refl _), ?_, ?_, by (try simp only [wSs, wS, wE, wEs, wAnd, wOr, wP, wB, wIf_t, wIf_f, prim, binV, add_ii, cmpV, putNew, true_and, less_ii, bindT, eqD_ii, eqD_in, eqD_ni, eqD_nn, eqD_bb, is_int, is_none, is_bool, inst_int, inst_int_b, inst_bool_b, rangeI_rng, lim0, lim1, lim2, lim3, Env.set, Option.map, Option.bind, Bool.not_true, Bool.not_false, Bool.true_and, Bool.false_and, Bool.true_or, Bool.false_or, beq_self_eq_true, reduceIte, String.reduceEq, String.reduceBEq, reduceCtorEq, ↓reduceIte, List.length_nil, List.length_cons, List.length_map, bindP, e1])⟩
    · exact keep4 _ _ (by omega) (hLS.pre hp3)
    · rw [List.take_succ_eq_append_getElem hi']
      have : W[i] = row W i := by
        have := row_get hi'
        rw [List.getElem?_eq_getElem hi'] at this
        exact Option.some.inj this
      rw [this]; exact hW4
  · rw [show H'[H1.length]? = _ from hI.2.1, show H2[H1.length]? = _ from hwd]
  · obtain ⟨hp, hLS, hWH, e1⟩ := hI
    rw [List.length_map, linesW_len, List.take_length] at hWH
    (try simp only [wSs, wS, wE, wEs, wAnd, wOr, wP, wB, wIf_t, wIf_f, prim, binV, add_ii, cmpV, putNew, true_and, less_ii, bindT, eqD_ii, eqD_in, eqD_ni, eqD_nn, eqD_bb, is_int, is_none, is_bool, inst_int, inst_int_b, inst_bool_b, rangeI_rng, lim0, lim1, lim2, lim3, Env.set, Option.map, Option.bind, Bool.not_true, Bool.not_false, Bool.true_and, Bool.false_and, Bool.true_or, Bool.false_or, beq_self_eq_true, reduceIte, String.reduceEq, String.reduceBEq, reduceCtorEq, ↓reduceIte, List.length_nil, List.length_cons, List.length_map, bindP, e1])
    refine s_need_wishes hP1 hP2 hP3 hG hWH ok fun H3 hp3 => ?_
    (try simp only [wSs, wS, wE, wEs, wAnd, wOr, wP, wB, wIf_t, wIf_f, prim, binV, add_ii, cmpV, putNew, true_and, less_ii, bindT, eqD_ii, eqD_in, eqD_ni, eqD_nn, eqD_bb, is_int, is_none, is_bool, inst_int, inst_int_b, inst_bool_b, rangeI_rng, lim0, lim1, lim2, lim3, Env.set, Option.map, Option.bind, Bool.not_true, Bool.not_false, Bool.true_and, Bool.false_and, Bool.true_or, Bool.false_or, beq_self_eq_true, reduceIte, String.reduceEq, String.reduceBEq, reduceCtorEq, ↓reduceIte, List.length_nil, List.length_cons, List.length_map, bindP, e1])
    exact h _ _ (hp.trans hp3) (hWH.pre hp3)
end

set_option maxRecDepth 10000 in
theorem main11 (is : List Int) : callN prog11 false 200 "law" [.ref 0] [.frozen (is.map .int)] (fun v _ => v = .bool true) (fun _ _ => False) := by
  have hs : ∀ {H : Hp}, [O.frozen (is.map .int)] <+: H → H[0]? = some (.frozen (is.map .int)) := fun hp => pre_get hp rfl
  have hq : ∀ {H : Hp}, [O.frozen (is.map .int)] <+: H → seqOf H 0 = some (is.map .int) := fun hp => by unfold seqOf; rw [hs hp]
  have p0 : [O.frozen (is.map .int)] <+: [O.frozen (is.map .int)] := List.prefix_refl _
  (unfold callN; rw [(show prog11.fn "law" = some f_law_11 from rfl)]; refine ⟨rfl, ?_⟩; unfold f_law_11)
  rw [show E.compS (.op .list [.var "_law_row"]) (.one "_law_row") (.var "_law_wishes") [] = copyE "_law_wishes" "_law_row" from rfl]
  refine wSs_step fun K hn hr => ?_
  (try simp only [wSs, wS, wE, wEs, wAnd, wOr, wP, wB, wIf_t, wIf_f, prim, binV, add_ii, cmpV, putNew, true_and, less_ii, bindT, eqD_ii, eqD_in, eqD_ni, eqD_nn, eqD_bb, is_int, is_none, is_bool, inst_int, inst_int_b, inst_bool_b, rangeI_rng, lim0, lim1, lim2, lim3, Env.set, Option.map, Option.bind, Bool.not_true, Bool.not_false, Bool.true_and, Bool.false_and, Bool.true_or, Bool.false_or, beq_self_eq_true, reduceIte, String.reduceEq, String.reduceBEq, reduceCtorEq, ↓reduceIte, List.length_nil, List.length_cons, List.length_map, bindP])
  refine s_cell_at (k := 0) rfl (hq p0) ?_
  obtain ⟨m, hm, em⟩ := fmod_nat (is.getD 0 0) (m := 6) (by omega)
  have em' : (is.getD 0 0).fmod 6 = (m : Int) := em
  have em2 : (1 : Int) + (m : Int) = ((m + 1 : Nat) : Int) := by omega
  have z6 : ((6 : Int) = 0) = False := by simp
  (try simp only [wSs, wS, wE, wEs, wAnd, wOr, wP, wB, wIf_t, wIf_f, prim, binV, add_ii, cmpV, putNew, true_and, less_ii, bindT, eqD_ii, eqD_in, eqD_ni, eqD_nn, eqD_bb, is_int, is_none, is_bool, inst_int, inst_int_b, inst_bool_b, rangeI_rng, lim0, lim1, lim2, lim3, Env.set, Option.map, Option.bind, Bool.not_true, Bool.not_false, Bool.true_and, Bool.false_and, Bool.true_or, Bool.false_or, beq_self_eq_true, reduceIte, String.reduceEq, String.reduceBEq, reduceCtorEq, ↓reduceIte, List.length_nil, List.length_cons, List.length_map, bindP, em', em2, z6])
  refine hn _ _ ?_
  clear hn hr K
  refine wSs_step fun K hn hr => ?_
  (try simp only [wSs, wS, wE, wEs, wAnd, wOr, wP, wB, wIf_t, wIf_f, prim, binV, add_ii, cmpV, putNew, true_and, less_ii, bindT, eqD_ii, eqD_in, eqD_ni, eqD_nn, eqD_bb, is_int, is_none, is_bool, inst_int, inst_int_b, inst_bool_b, rangeI_rng, lim0, lim1, lim2, lim3, Env.set, Option.map, Option.bind, Bool.not_true, Bool.not_false, Bool.true_and, Bool.false_and, Bool.true_or, Bool.false_or, beq_self_eq_true, reduceIte, String.reduceEq, String.reduceBEq, reduceCtorEq, ↓reduceIte, List.length_nil, List.length_cons, List.length_map, bindP])
  refine s_wishes_by rfl rfl rfl rfl (by omega) (by omega) fun H1 w W hp1 hW ok hWl => ?_
  refine hn _ _ ?_
  clear hn hr K
  have l6 := ok.le
  have hml : m + 1 ≤ lim := by unfold lim; omega
  refine wSs_step fun K hn hr => ?_
  (try simp only [wSs, wS, wE, wEs, wAnd, wOr, wP, wB, wIf_t, wIf_f, prim, binV, add_ii, cmpV, putNew, true_and, less_ii, bindT, eqD_ii, eqD_in, eqD_ni, eqD_nn, eqD_bb, is_int, is_none, is_bool, inst_int, inst_int_b, inst_bool_b, rangeI_rng, lim0, lim1, lim2, lim3, Env.set, Option.map, Option.bind, Bool.not_true, Bool.not_false, Bool.true_and, Bool.false_and, Bool.true_or, Bool.false_or, beq_self_eq_true, reduceIte, String.reduceEq, String.reduceBEq, reduceCtorEq, ↓reduceIte, List.length_nil, List.length_cons, List.length_map, bindP])
  refine w_copy rfl hW fun H2 w' hp2 hw' => ?_
  refine hn _ _ ?_
  clear hn hr K
  have hW2 := hW.pre hp2
  refine wSs_step fun K hn hr => ?_
  (try simp only [wSs, wS, wE, wEs, wAnd, wOr, wP, wB, wIf_t, wIf_f, prim, binV, add_ii, cmpV, putNew, true_and, less_ii, bindT, eqD_ii, eqD_in, eqD_ni, eqD_nn, eqD_bb, is_int, is_none, is_bool, inst_int, inst_int_b, inst_bool_b, rangeI_rng, lim0, lim1, lim2, lim3, Env.set, Option.map, Option.bind, Bool.not_true, Bool.not_false, Bool.true_and, Bool.false_and, Bool.true_or, Bool.false_or, beq_self_eq_true, reduceIte, String.reduceEq, String.reduceBEq, reduceCtorEq, ↓reduceIte, List.length_nil, List.length_cons, List.length_map, bindP])
  refine s_shown rfl rfl rfl rfl rfl hw' ok fun H3 hp3 => ?_
  refine hn _ _ ?_
  clear hn hr K
  have hW3 := hW2.pre hp3
  have hw3 := hw'.pre hp3
  refine wSs_step fun K hn hr => ?_
  (try simp only [wSs, wS, wE, wEs, wAnd, wOr, wP, wB, wIf_t, wIf_f, prim, binV, add_ii, cmpV, putNew, true_and, less_ii, bindT, eqD_ii, eqD_in, eqD_ni, eqD_nn, eqD_bb, is_int, is_none, is_bool, inst_int, inst_int_b, inst_bool_b, rangeI_rng, lim0, lim1, lim2, lim3, Env.set, Option.map, Option.bind, Bool.not_true, Bool.not_false, Bool.true_and, Bool.false_and, Bool.true_or, Bool.false_or, beq_self_eq_true, reduceIte, String.reduceEq, String.reduceBEq, reduceCtorEq, ↓reduceIte, List.length_nil, List.length_cons, List.length_map, bindP])
  refine hn _ _ ?_
  clear hn hr K
  refine wSs_step fun K hn hr => ?_
  (try simp only [wSs, wS, wE, wEs, wAnd, wOr, wP, wB, wIf_t, wIf_f, prim, binV, add_ii, cmpV, putNew, true_and, less_ii, bindT, eqD_ii, eqD_in, eqD_ni, eqD_nn, eqD_bb, is_int, is_none, is_bool, inst_int, inst_int_b, inst_bool_b, rangeI_rng, lim0, lim1, lim2, lim3, Env.set, Option.map, Option.bind, Bool.not_true, Bool.not_false, Bool.true_and, Bool.false_and, Bool.true_or, Bool.false_or, beq_self_eq_true, reduceIte, String.reduceEq, String.reduceBEq, reduceCtorEq, ↓reduceIte, List.length_nil, List.length_cons, List.length_map, bindP, range_nat hml])
  refine wFor_idx (fun i ρ H' => H3 <+: H' ∧ LS H' H3.length ((linesW W).take i) ∧ ρ "_law_wishes" = some (.ref w) ∧ ρ "_law_handed" = some (.ref w') ∧ ρ "_law_lines" = some (.ref H3.length) ∧ ρ "_law_found" = some (.str (st (jn [10] (linesW W))))) ⟨pre_new _ _, get_new _ _, by (try simp only [wSs, wS, wE, wEs, wAnd, wOr, wP, wB, wIf_t, wIf_f, prim, binV, add_ii, cmpV, putNew, true_and, less_ii, bindT, eqD_ii, eqD_in, eqD_ni, eqD_nn, eqD_bb, is_int, is_none, is_bool, inst_int, inst_int_b, inst_bool_b, rangeI_rng, lim0, lim1, lim2, lim3, Env.set, Option.map, Option.bind, Bool.not_true, Bool.not_false, Bool.true_and, Bool.false_and, Bool.true_or, Bool.false_or, beq_self_eq_true, reduceIte, String.reduceEq, String.reduceBEq, reduceCtorEq, ↓reduceIte, List.length_nil, List.length_cons, List.length_map, bindP]), by (try simp only [wSs, wS, wE, wEs, wAnd, wOr, wP, wB, wIf_t, wIf_f, prim, binV, add_ii, cmpV, putNew, true_and, less_ii, bindT, eqD_ii, eqD_in, eqD_ni, eqD_nn, eqD_bb, is_int, is_none, is_bool, inst_int, inst_int_b, inst_bool_b, rangeI_rng, lim0, lim1, lim2, lim3, Env.set, Option.map, Option.bind, Bool.not_true, Bool.not_false, Bool.true_and, Bool.false_and, Bool.true_or, Bool.false_or, beq_self_eq_true, reduceIte, String.reduceEq, String.reduceBEq, reduceCtorEq, ↓reduceIte, List.length_nil, List.length_cons, List.length_map, bindP]), by (try simp only [wSs, wS, wE, wEs, wAnd, wOr, wP, wB, wIf_t, wIf_f, prim, binV, add_ii, cmpV, putNew, true_and, less_ii, bindT, eqD_ii, eqD_in, eqD_ni, eqD_nn, eqD_bb, is_int, is_none, is_bool, inst_int, inst_int_b, inst_bool_b, rangeI_rng, lim0, lim1, lim2, lim3, Env.set, Option.map, Option.bind, Bool.not_true, Bool.not_false, Bool.true_and, Bool.false_and, Bool.true_or, Bool.false_or, beq_self_eq_true, reduceIte, String.reduceEq, String.reduceBEq, reduceCtorEq, ↓reduceIte, List.length_nil, List.length_cons, List.length_map, bindP]), by (try simp only [wSs, wS, wE, wEs, wAnd, wOr, wP, wB, wIf_t, wIf_f, prim, binV, add_ii, cmpV, putNew, true_and, less_ii, bindT, eqD_ii, eqD_in, eqD_ni, eqD_nn, eqD_bb, is_int, is_none, is_bool, inst_int, inst_int_b, inst_bool_b, rangeI_rng, lim0, lim1, lim2, lim3, Env.set, Option.map, Option.bind, Bool.not_true, Bool.not_false, Bool.true_and, Bool.false_and, Bool.true_or, Bool.false_or, beq_self_eq_true, reduceIte, String.reduceEq, String.reduceBEq, reduceCtorEq, ↓reduceIte, List.length_nil, List.length_cons, List.length_map, bindP])⟩ (fun i v ρ H' hv hI => ⟨trivial, fun k' h1 h2 => ?_⟩) fun ρ H' hI => ⟨trivial, ?_⟩
  · obtain ⟨hi, rfl⟩ := rng_get hv
    obtain ⟨hp, hL, e1, e2, e3, e4⟩ := hI
    have hi' : i < W.length := by omega
    have hw' := hW3.pre hp
    obtain ⟨a, it, hli⟩ := hw'.item (row_get hi')
    have hrow := ok.rows i hi'
    (try simp only [wSs, wS, wE, wEs, wAnd, wOr, wP, wB, wIf_t, wIf_f, prim, binV, add_ii, cmpV, putNew, true_and, less_ii, bindT, eqD_ii, eqD_in, eqD_ni, eqD_nn, eqD_bb, is_int, is_none, is_bool, inst_int, inst_int_b, inst_bool_b, rangeI_rng, lim0, lim1, lim2, lim3, Env.set, Option.map, Option.bind, Bool.not_true, Bool.not_false, Bool.true_and, Bool.false_and, Bool.true_or, Bool.false_or, beq_self_eq_true, reduceIte, String.reduceEq, String.reduceBEq, reduceCtorEq, ↓reduceIte, List.length_nil, List.length_cons, List.length_map, bindP, e1, e2, e3, e4, str_dig (show i < 10 by omega), of_colon, of_blank, add_ss H' (a := [48 + i]) (b := [58]) (by decide : 2 ≤ lim), it, hli.seq, List.cons_append, List.nil_append])
    refine wFor_idx (fun j ρ H'' => H'' = H' ∧ ρ "_law_wishes" = some (.ref w) ∧ ρ "_law_handed" = some (.ref w') ∧ ρ "_law_lines" = some (.ref H3.length) ∧ ρ "_law_found" = some (.str (st (jn [10] (linesW W)))) ∧ ρ "_law_line" = some (.str (st ([48 + i, 58] ++ wr ((row W i).take j))))) ⟨rfl, by (try simp only [wSs, wS, wE, wEs, wAnd, wOr, wP, wB, wIf_t, wIf_f, prim, binV, add_ii, cmpV, putNew, true_and, less_ii, bindT, eqD_ii, eqD_in, eqD_ni, eqD_nn, eqD_bb, is_int, is_none, is_bool, inst_int, inst_int_b, inst_bool_b, rangeI_rng, lim0, lim1, lim2, lim3, Env.set, Option.map, Option.bind, Bool.not_true, Bool.not_false, Bool.true_and, Bool.false_and, Bool.true_or, Bool.false_or, beq_self_eq_true, reduceIte, String.reduceEq, String.reduceBEq, reduceCtorEq, ↓reduceIte, List.length_nil, List.length_cons, List.length_map, bindP, e1]), by (try simp only [wSs, wS, wE, wEs, wAnd, wOr, wP, wB, wIf_t, wIf_f, prim, binV, add_ii, cmpV, putNew, true_and, less_ii, bindT, eqD_ii, eqD_in, eqD_ni, eqD_nn, eqD_bb, is_int, is_none, is_bool, inst_int, inst_int_b, inst_bool_b, rangeI_rng, lim0, lim1, lim2, lim3, Env.set, Option.map, Option.bind, Bool.not_true, Bool.not_false, Bool.true_and, Bool.false_and, Bool.true_or, Bool.false_or, beq_self_eq_true, reduceIte, String.reduceEq, String.reduceBEq, reduceCtorEq, ↓reduceIte, List.length_nil, List.length_cons, List.length_map, bindP, e2]), by (try simp only [wSs, wS, wE, wEs, wAnd, wOr, wP, wB, wIf_t, wIf_f, prim, binV, add_ii, cmpV, putNew, true_and, less_ii, bindT, eqD_ii, eqD_in, eqD_ni, eqD_nn, eqD_bb, is_int, is_none, is_bool, inst_int, inst_int_b, inst_bool_b, rangeI_rng, lim0, lim1, lim2, lim3, Env.set, Option.map, Option.bind, Bool.not_true, Bool.not_false, Bool.true_and, Bool.false_and, Bool.true_or, Bool.false_or, beq_self_eq_true, reduceIte, String.reduceEq, String.reduceBEq, reduceCtorEq, ↓reduceIte, List.length_nil, List.length_cons, List.length_map, bindP, e3]), by (try simp only [wSs, wS, wE, wEs, wAnd, wOr, wP, wB, wIf_t, wIf_f, prim, binV, add_ii, cmpV, putNew, true_and, less_ii, bindT, eqD_ii, eqD_in, eqD_ni, eqD_nn, eqD_bb, is_int, is_none, is_bool, inst_int, inst_int_b, inst_bool_b, rangeI_rng, lim0, lim1, lim2, lim3, Env.set, Option.map, Option.bind, Bool.not_true, Bool.not_false, Bool.true_and, Bool.false_and, Bool.true_or, Bool.false_or, beq_self_eq_true, reduceIte, String.reduceEq, String.reduceBEq, reduceCtorEq, ↓reduceIte, List.length_nil, List.length_cons, List.length_map, bindP, e4]), by (try simp only [wSs, wS, wE, wEs, wAnd, wOr, wP, wB, wIf_t, wIf_f, prim, binV, add_ii, cmpV, putNew, true_and, less_ii, bindT, eqD_ii, eqD_in, eqD_ni, eqD_nn, eqD_bb, is_int, is_none, is_bool, inst_int, inst_int_b, inst_bool_b, rangeI_rng, lim0, lim1, lim2, lim3, Env.set, Option.map, Option.bind, Bool.not_true, Bool.not_false, Bool.true_and, Bool.false_and, Bool.true_or, Bool.false_or, beq_self_eq_true, reduceIte, String.reduceEq, String.reduceBEq, reduceCtorEq, ↓reduceIte, List.length_nil, List.length_cons, List.length_map, bindP]); rfl⟩ (fun j v ρ H'' hv hI => ⟨by rw [hI.1], fun k'' g1 g2 => ?_⟩) fun ρ H'' hI => ⟨by rw [hI.1], ?_⟩
    · obtain ⟨rfl, e1, e2, e3, e4, e5⟩ := hI
      rw [List.getElem?_map] at hv
      obtain ⟨x, hx, rfl⟩ := Option.map_eq_some_iff.mp hv
      have hb := hrow.low x (List.mem_of_getElem? hx)
      obtain ⟨hj, ex⟩ := List.getElem?_eq_some_iff.mp hx
      have hlr := hrow.len
      have a1 := add_ss H'' (a := [48 + i, 58] ++ wr ((row W i).take j)) (b := [32]) (by simp only [List.length_append, wr_len, List.length_take, List.length_cons, List.length_nil]; unfold lim; omega)
      have a2 := add_ss H'' (a := [48 + i, 58] ++ wr ((row W i).take j) ++ [32]) (b := [48 + x.toNat]) (by simp only [List.length_append, wr_len, List.length_take, List.length_cons, List.length_nil]; unfold lim; omega)
      (try simp only [wSs, wS, wE, wEs, wAnd, wOr, wP, wB, wIf_t, wIf_f, prim, binV, add_ii, cmpV, putNew, true_and, less_ii, bindT, eqD_ii, eqD_in, eqD_ni, eqD_nn, eqD_bb, is_int, is_none, is_bool, inst_int, inst_int_b, inst_bool_b, rangeI_rng, lim0, lim1, lim2, lim3, Env.set, Option.map, Option.bind, Bool.not_true, Bool.not_false, Bool.true_and, Bool.false_and, Bool.true_or, Bool.false_or, beq_self_eq_true, reduceIte, String.reduceEq, String.reduceBEq, reduceCtorEq, ↓reduceIte, List.length_nil, List.length_cons, List.length_map, bindP, e5, a1, str_digit (x := x) (by omega) (by omega), a2])
      refine g1 _ _ ⟨rfl, by (try simp only [wSs, wS, wE, wEs, wAnd, wOr, wP, wB, wIf_t, wIf_f, prim, binV, add_ii, cmpV, putNew, true_and, less_ii, bindT, eqD_ii, eqD_in, eqD_ni, eqD_nn, eqD_bb, is_int, is_none, is_bool, inst_int, inst_int_b, inst_bool_b, rangeI_rng, lim0, lim1, lim2, lim3, Env.set, Option.map, Option.bind, Bool.not_true, Bool.not_false, Bool.true_and, Bool.false_and, Bool.true_or, Bool.false_or, beq_self_eq_true, reduceIte, String.reduceEq, String.reduceBEq, reduceCtorEq, ↓reduceIte, List.length_nil, List.length_cons, List.length_map, bindP, e1]), by (try simp only [wSs, wS, wE, wEs, wAnd, wOr, wP, wB, wIf_t, wIf_f, prim, binV, add_ii, cmpV, putNew, true_and, less_ii, bindT, eqD_ii, eqD_in, eqD_ni, eqD_nn, eqD_bb, is_int, is_none, is_bool, inst_int, inst_int_b, inst_bool_b, rangeI_rng, lim0, lim1, lim2, lim3, Env.set, Option.map, Option.bind, Bool.not_true, Bool.not_false, Bool.true_and, Bool.false_and, Bool.true_or, Bool.false_or, beq_self_eq_true, reduceIte, String.reduceEq, String.reduceBEq, reduceCtorEq, ↓reduceIte, List.length_nil, List.length_cons, List.length_map, bindP, e2]), by (try simp only [wSs, wS, wE, wEs, wAnd, wOr, wP, wB, wIf_t, wIf_f, prim, binV, add_ii, cmpV, putNew, true_and, less_ii, bindT, eqD_ii, eqD_in, eqD_ni, eqD_nn, eqD_bb, is_int, is_none, is_bool, inst_int, inst_int_b, inst_bool_b, rangeI_rng, lim0, lim1, lim2, lim3, Env.set, Option.map, Option.bind, Bool.not_true, Bool.not_false, Bool.true_and, Bool.false_and, Bool.true_or, Bool.false_or, beq_self_eq_true, reduceIte, String.reduceEq, String.reduceBEq, reduceCtorEq, ↓reduceIte, List.length_nil, List.length_cons, List.length_map, bindP, e3]), by (try simp only [wSs, wS, wE, wEs, wAnd, wOr, wP, wB, wIf_t, wIf_f, prim, binV, add_ii, cmpV, putNew, true_and, less_ii, bindT, eqD_ii, eqD_in, eqD_ni, eqD_nn, eqD_bb, is_int, is_none, is_bool, inst_int, inst_int_b, inst_bool_b, rangeI_rng, lim0, lim1, lim2, lim3, Env.set, Option.map, Option.bind, Bool.not_true, Bool.not_false, Bool.true_and, Bool.false_and, Bool.true_or, Bool.false_or, beq_self_eq_true, reduceIte, String.reduceEq, String.reduceBEq, reduceCtorEq, ↓reduceIte, List.length_nil, List.length_cons, List.length_map, bindP, e4]), ?_⟩
      (try simp only [wSs, wS, wE, wEs, wAnd, wOr, wP, wB, wIf_t, wIf_f, prim, binV, add_ii, cmpV, putNew, true_and, less_ii, bindT, eqD_ii, eqD_in, eqD_ni, eqD_nn, eqD_bb, is_int, is_none, is_bool, inst_int, inst_int_b, inst_bool_b, rangeI_rng, lim0, lim1, lim2, lim3, Env.set, Option.map, Option.bind, Bool.not_true, Bool.not_false, Bool.true_and, Bool.false_and, Bool.true_or, Bool.false_or, beq_self_eq_true, reduceIte, String.reduceEq, String.reduceBEq, reduceCtorEq, ↓reduceIte, List.length_nil, List.length_cons, List.length_map, bindP])
      rw [List.take_succ_eq_append_getElem hj, ex, wr_snoc]; simp
    · obtain ⟨rfl, e1, e2, e3, e4, e5⟩ := hI
      rw [List.length_map, List.take_length] at e5
      obtain ⟨ap1, ap2⟩ := push_line hL (by rw [List.length_take, linesW_len]; unfold lim; omega) (lineL i (row W i))
      have ap1' : methV .append [.ref H3.length, .str (st ([48 + i, 58] ++ wr (row W i)))] H'' = _ := ap1
      (try simp only [wSs, wS, wE, wEs, wAnd, wOr, wP, wB, wIf_t, wIf_f, prim, binV, add_ii, cmpV, putNew, true_and, less_ii, bindT, eqD_ii, eqD_in, eqD_ni, eqD_nn, eqD_bb, is_int, is_none, is_bool, inst_int, inst_int_b, inst_bool_b, rangeI_rng, lim0, lim1, lim2, lim3, Env.set, Option.map, Option.bind, Bool.not_true, Bool.not_false, Bool.true_and, Bool.false_and, Bool.true_or, Bool.false_or, beq_self_eq_true, reduceIte, String.reduceEq, String.reduceBEq, reduceCtorEq, ↓reduceIte, List.length_nil, List.length_cons, List.length_map, bindP, e3, e5, (recvL hL).1, ap1'])
      refine h1 _ _ ⟨pre_set hp (Nat.le_refl _) _, ?_, e1, e2, e3, e4⟩
      rw [linesW_get hi']; exact ap2
  · obtain ⟨hp, hL, e1, e2, e3, e4⟩ := hI
    rw [rng_len, List.take_of_length_le (by rw [linesW_len]; omega)] at hL
    refine hn _ _ ?_
    clear hn hr K
    have hsm : ∀ x ∈ jn [10] (linesW W), x < 200 := by
      have : ∀ ls : List (List Nat), (∀ l ∈ ls, ∀ x ∈ l, x < 200) → ∀ x ∈ jn [10] ls, x < 200 := by
        intro ls
        induction ls with
        | nil => intro _ x hx; cases hx
        | cons l ls ih =>
          intro h
          cases ls with
          | nil => exact h l (.head _)
          | cons y ls =>
            intro x hx
            simp only [jn, List.append_assoc, List.mem_append] at hx
            rcases hx with q | q | q
            · exact h l (.head _) x q
            · simp at q; omega
            · exact ih (fun l hl => h l (.tail _ hl)) x q
      exact this _ fun l hl x hx => by
        obtain ⟨i, hi, rfl⟩ := linesW_mem hl
        exact (lineL_small (by omega) (ok.rows i hi).low ok.le x hx).1
    refine wSs_step fun K hn hr => ?_
    (try simp only [wSs, wS, wE, wEs, wAnd, wOr, wP, wB, wIf_t, wIf_f, prim, binV, add_ii, cmpV, putNew, true_and, less_ii, bindT, eqD_ii, eqD_in, eqD_ni, eqD_nn, eqD_bb, is_int, is_none, is_bool, inst_int, inst_int_b, inst_bool_b, rangeI_rng, lim0, lim1, lim2, lim3, Env.set, Option.map, Option.bind, Bool.not_true, Bool.not_false, Bool.true_and, Bool.false_and, Bool.true_or, Bool.false_or, beq_self_eq_true, reduceIte, String.reduceEq, String.reduceBEq, reduceCtorEq, ↓reduceIte, List.length_nil, List.length_cons, List.length_map, bindP, e1, e2, e3, e4, (hw3.pre hp).eq (hW3.pre hp), decide_true, inst_str, of_end, (recvS _ _).1, hL.join (linesW_sum ok), eqD_ss H' (ok_st hsm) (ok_st hsm)])
    refine hn _ _ ?_
    clear hn hr K
    refine wSs_step fun K hn hr => ?_
    (try simp only [wSs, wS, wE, wEs, wAnd, wOr, wP, wB, wIf_t, wIf_f, prim, binV, add_ii, cmpV, putNew, true_and, less_ii, bindT, eqD_ii, eqD_in, eqD_ni, eqD_nn, eqD_bb, is_int, is_none, is_bool, inst_int, inst_int_b, inst_bool_b, rangeI_rng, lim0, lim1, lim2, lim3, Env.set, Option.map, Option.bind, Bool.not_true, Bool.not_false, Bool.true_and, Bool.false_and, Bool.true_or, Bool.false_or, beq_self_eq_true, reduceIte, String.reduceEq, String.reduceBEq, reduceCtorEq, ↓reduceIte, List.length_nil, List.length_cons, List.length_map, bindP, e4])
    refine s_read rfl rfl rfl rfl rfl rfl rfl ok fun H4 a hp4 hA => ?_
    refine hn _ _ ?_
    clear hn hr K
    have hW4 := (hW3.pre hp).pre hp4
    refine wSs_step fun K hn hr => ?_
    (try simp only [wSs, wS, wE, wEs, wAnd, wOr, wP, wB, wIf_t, wIf_f, prim, binV, add_ii, cmpV, putNew, true_and, less_ii, bindT, eqD_ii, eqD_in, eqD_ni, eqD_nn, eqD_bb, is_int, is_none, is_bool, inst_int, inst_int_b, inst_bool_b, rangeI_rng, lim0, lim1, lim2, lim3, Env.set, Option.map, Option.bind, Bool.not_true, Bool.not_false, Bool.true_and, Bool.false_and, Bool.true_or, Bool.false_or, beq_self_eq_true, reduceIte, String.reduceEq, String.reduceBEq, reduceCtorEq, ↓reduceIte, List.length_nil, List.length_cons, List.length_map, bindP, hA.isList])
    refine hn _ _ ?_
    clear hn hr K
    have hA' := hA
    obtain ⟨rs, h1, h2⟩ := hA
    refine wSs_step fun K hn hr => ?_
    (try simp only [wSs, wS, wE, wEs, wAnd, wOr, wP, wB, wIf_t, wIf_f, prim, binV, add_ii, cmpV, putNew, true_and, less_ii, bindT, eqD_ii, eqD_in, eqD_ni, eqD_nn, eqD_bb, is_int, is_none, is_bool, inst_int, inst_int_b, inst_bool_b, rangeI_rng, lim0, lim1, lim2, lim3, Env.set, Option.map, Option.bind, Bool.not_true, Bool.not_false, Bool.true_and, Bool.false_and, Bool.true_or, Bool.false_or, beq_self_eq_true, reduceIte, String.reduceEq, String.reduceBEq, reduceCtorEq, ↓reduceIte, List.length_nil, List.length_cons, List.length_map, bindP, seqOf_list h1])
    refine wFor_idx (fun i ρ H => H4 <+: H ∧ ρ "_law_wishes" = some (.ref w) ∧ ρ "_law_again" = some (.ref a)) ⟨List.prefix_refl _, by (try simp only [wSs, wS, wE, wEs, wAnd, wOr, wP, wB, wIf_t, wIf_f, prim, binV, add_ii, cmpV, putNew, true_and, less_ii, bindT, eqD_ii, eqD_in, eqD_ni, eqD_nn, eqD_bb, is_int, is_none, is_bool, inst_int, inst_int_b, inst_bool_b, rangeI_rng, lim0, lim1, lim2, lim3, Env.set, Option.map, Option.bind, Bool.not_true, Bool.not_false, Bool.true_and, Bool.false_and, Bool.true_or, Bool.false_or, beq_self_eq_true, reduceIte, String.reduceEq, String.reduceBEq, reduceCtorEq, ↓reduceIte, List.length_nil, List.length_cons, List.length_map, bindP, e1]), by (try simp only [wSs, wS, wE, wEs, wAnd, wOr, wP, wB, wIf_t, wIf_f, prim, binV, add_ii, cmpV, putNew, true_and, less_ii, bindT, eqD_ii, eqD_in, eqD_ni, eqD_nn, eqD_bb, is_int, is_none, is_bool, inst_int, inst_int_b, inst_bool_b, rangeI_rng, lim0, lim1, lim2, lim3, Env.set, Option.map, Option.bind, Bool.not_true, Bool.not_false, Bool.true_and, Bool.false_and, Bool.true_or, Bool.false_or, beq_self_eq_true, reduceIte, String.reduceEq, String.reduceBEq, reduceCtorEq, ↓reduceIte, List.length_nil, List.length_cons, List.length_map, bindP])⟩ (fun i v ρ H hv hI => ⟨by rw [h1]; exact pre_get hI.1 h1, fun k' g1 g2 => ?_⟩) fun ρ H hI => ⟨by rw [h1]; exact pre_get hI.1 h1, ?_⟩
    · obtain ⟨hp5, e1, e2⟩ := hI
      obtain ⟨l, _, c, rfl, hc⟩ := h2.get hv
      have hc5 := hc.pre hp5
      (try simp only [wSs, wS, wE, wEs, wAnd, wOr, wP, wB, wIf_t, wIf_f, prim, binV, add_ii, cmpV, putNew, true_and, less_ii, bindT, eqD_ii, eqD_in, eqD_ni, eqD_nn, eqD_bb, is_int, is_none, is_bool, inst_int, inst_int_b, inst_bool_b, rangeI_rng, lim0, lim1, lim2, lim3, Env.set, Option.map, Option.bind, Bool.not_true, Bool.not_false, Bool.true_and, Bool.false_and, Bool.true_or, Bool.false_or, beq_self_eq_true, reduceIte, String.reduceEq, String.reduceBEq, reduceCtorEq, ↓reduceIte, List.length_nil, List.length_cons, List.length_map, bindP, hc5.isList, hc5.seq])
      refine wLoop_idx (fun j acc H' => H' = H ∧ acc = []) ⟨rfl, rfl⟩ (fun j v acc H' hv hI => ⟨by rw [hI.1], fun k'' k1 k2 => ?_⟩) fun acc H' hI => ⟨by rw [hI.1], ?_⟩
      · obtain ⟨rfl, rfl⟩ := hI
        rw [List.getElem?_map] at hv
        obtain ⟨x, hx, rfl⟩ := Option.map_eq_some_iff.mp hv
        (try simp only [wSs, wS, wE, wEs, wAnd, wOr, wP, wB, wIf_t, wIf_f, prim, binV, add_ii, cmpV, putNew, true_and, less_ii, bindT, eqD_ii, eqD_in, eqD_ni, eqD_nn, eqD_bb, is_int, is_none, is_bool, inst_int, inst_int_b, inst_bool_b, rangeI_rng, lim0, lim1, lim2, lim3, Env.set, Option.map, Option.bind, Bool.not_true, Bool.not_false, Bool.true_and, Bool.false_and, Bool.true_or, Bool.false_or, beq_self_eq_true, reduceIte, String.reduceEq, String.reduceBEq, reduceCtorEq, ↓reduceIte, List.length_nil, List.length_cons, List.length_map, bindP])
        refine s_whole rfl ?_
        (try simp only [wSs, wS, wE, wEs, wAnd, wOr, wP, wB, wIf_t, wIf_f, prim, binV, add_ii, cmpV, putNew, true_and, less_ii, bindT, eqD_ii, eqD_in, eqD_ni, eqD_nn, eqD_bb, is_int, is_none, is_bool, inst_int, inst_int_b, inst_bool_b, rangeI_rng, lim0, lim1, lim2, lim3, Env.set, Option.map, Option.bind, Bool.not_true, Bool.not_false, Bool.true_and, Bool.false_and, Bool.true_or, Bool.false_or, beq_self_eq_true, reduceIte, String.reduceEq, String.reduceBEq, reduceCtorEq, ↓reduceIte, List.length_nil, List.length_cons, List.length_map, bindP])
        exact k2 _ ⟨rfl, rfl⟩
      · obtain ⟨rfl, rfl⟩ := hI
        have hl0 : lenV (.ref H'.length) (H' ++ [O.list []]) = some 0 := by unfold lenV; simp [seqOf]
        (try simp only [wSs, wS, wE, wEs, wAnd, wOr, wP, wB, wIf_t, wIf_f, prim, binV, add_ii, cmpV, putNew, true_and, less_ii, bindT, eqD_ii, eqD_in, eqD_ni, eqD_nn, eqD_bb, is_int, is_none, is_bool, inst_int, inst_int_b, inst_bool_b, rangeI_rng, lim0, lim1, lim2, lim3, Env.set, Option.map, Option.bind, Bool.not_true, Bool.not_false, Bool.true_and, Bool.false_and, Bool.true_or, Bool.false_or, beq_self_eq_true, reduceIte, String.reduceEq, String.reduceBEq, reduceCtorEq, ↓reduceIte, List.length_nil, List.length_cons, List.length_map, bindP, hl0, show decide ((0 : Int) < 0) = false from rfl])
        exact g1 _ _ ⟨hp5.trans (pre_new _ _), by (try simp only [wSs, wS, wE, wEs, wAnd, wOr, wP, wB, wIf_t, wIf_f, prim, binV, add_ii, cmpV, putNew, true_and, less_ii, bindT, eqD_ii, eqD_in, eqD_ni, eqD_nn, eqD_bb, is_int, is_none, is_bool, inst_int, inst_int_b, inst_bool_b, rangeI_rng, lim0, lim1, lim2, lim3, Env.set, Option.map, Option.bind, Bool.not_true, Bool.not_false, Bool.true_and, Bool.false_and, Bool.true_or, Bool.false_or, beq_self_eq_true, reduceIte, String.reduceEq, String.reduceBEq, reduceCtorEq, ↓reduceIte, List.length_nil, List.length_cons, List.length_map, bindP, e1]), by (try simp only [wSs, wS, wE, wEs, wAnd, wOr, wP, wB, wIf_t, wIf_f, prim, binV, add_ii, cmpV, putNew, true_and, less_ii, bindT, eqD_ii, eqD_in, eqD_ni, eqD_nn, eqD_bb, is_int, is_none, is_bool, inst_int, inst_int_b, inst_bool_b, rangeI_rng, lim0, lim1, lim2, lim3, Env.set, Option.map, Option.bind, Bool.not_true, Bool.not_false, Bool.true_and, Bool.false_and, Bool.true_or, Bool.false_or, beq_self_eq_true, reduceIte, String.reduceEq, String.reduceBEq, reduceCtorEq, ↓reduceIte, List.length_nil, List.length_cons, List.length_map, bindP, e2])⟩
    · obtain ⟨hp5, e1, e2⟩ := hI
      refine hn _ _ ?_
      (try simp only [wSs, wS, wE, wEs, wAnd, wOr, wP, wB, wIf_t, wIf_f, prim, binV, add_ii, cmpV, putNew, true_and, less_ii, bindT, eqD_ii, eqD_in, eqD_ni, eqD_nn, eqD_bb, is_int, is_none, is_bool, inst_int, inst_int_b, inst_bool_b, rangeI_rng, lim0, lim1, lim2, lim3, Env.set, Option.map, Option.bind, Bool.not_true, Bool.not_false, Bool.true_and, Bool.false_and, Bool.true_or, Bool.false_or, beq_self_eq_true, reduceIte, String.reduceEq, String.reduceBEq, reduceCtorEq, ↓reduceIte, List.length_nil, List.length_cons, List.length_map, bindP, e1, e2, (hA'.pre hp5).eq (hW4.pre hp5), decide_true])
end Mine

open PySem PySem.W PyProof.Rows
namespace Mine
noncomputable def fs11 : List String := ["is_guest", "is_row", "need_wishes", "shown", "row_of", "read", "_law_cell_at", "_law_row_by", "_law_wishes_by", "_law_whole", "law"]
end Mine

set_option maxRecDepth 100000 in
set_option maxHeartbeats 8000000 in
theorem PySem.Challenge.cw_uf030033_11_holds : PySem.Challenge.rw_uf030033_11.Holds := by
  w_on
  refine holds_law (by decide +kernel) fun said => ?_
  o_head Hook.none
  case hw => w_witness2
  intro w s₀ s₁ mg mb G Y fa o pm cd doc dV kV ho hd hcd hD hmg hg args vals as hpre hlay hrd hwl hlo
  refine Ground.open G ?_
  intro T B D TE TW
  clear hd hcd hD
  wrow_args hpre hlay hrd hwl hlo
  refine wpAny_mono (Mine.law_call (fs := Mine.fs11) (P := Mine.prog11) T hmg (by assumption) (by assumption) (by omega) (by decide +kernel) (by decide +kernel) (fun x v h => ?_) (by decide) fun is _ => Mine.main11 is) (fun v s' q => ?_) fun _ _ e => e
  · unfold Mine.prog11 at h
    dsimp only at h
    split at h
    · cases h; exact Mine.glob_int T (by kernel_rfl)
    · cases h; exact Mine.glob_str T (by kernel_rfl)
    · cases h
  · obtain ⟨rfl, k1, k2, k3⟩ := q
    refine GoodW.toG ⟨.inl ⟨.bool true, .bool true, [], rfl, raisesW_false ?_, .bool true, ?_, unshared_nil⟩, k1, k2, k3.trans hg⟩
    · wrow_none_raised
    · wrow_post


