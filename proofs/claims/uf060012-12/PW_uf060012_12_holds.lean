import PyProof.Rows.All
import Wide.All
import Open.Line
import Wide.FinOn
import PySem.Syntax
import PySem.PyData
import PyProof.P3Statements
import PyProof.Rules3
import PyProof.Cells
import PyProof.DefCall
import PyProof.CompFree
import PyProof.WalksMore
import PyProof.Rows.TupIn
import PyProof.Rows.IntRules
import PyProof.Rows.RuleB_mul
import PyProof.Rows.RuleB_floordiv
import PyProof.Rows.RuleB_mod
import PyProof.Rows.RuleB_sub
import PyProof.Rows.RuleB_pow
import PyProof.Rows.RuleC_int
import PyProof.Rows.RuleU_int
import PyProof.Rows.RuleN_abs
import PyProof.Rows.StrTemp
import PyProof.Rows.Tup
import PyProof.Rows.TupSub
import PyProof.ListIndexNeg
import PyProof.SliceList
import PyProof.ListOps
import PyProof.ListMulAny
import PyProof.ListMulRoad
import PyProof.WalkInts
import PyProof.Methods
import PyProof.TupleOps
import PyProof.EqAt
import PyProof.IsiPairs
import PyProof.IsiNone
import PyProof.IsiHeapPairs
import PyProof.EqLayable
import PyProof.Rows.SortShell
import PyProof.ListCopy
import PyProof.TupleOfSeq
import PyProof.Rows.SumAny
import PyProof.Rows.SetFrom
import PyProof.Rows.SortWalk
import PyProof.SliceMore
import PyProof.SetRoads
import PyProof.Rows.Chain
import PyProof.Rows.Nodes
import PyProof.CallType
import PyProof.CallRoads
import PyProof.ForRange
import PyProof.RangeFor
import PyProof.EnumMake
import PyProof.EnumStmt
import PyProof.EnumFor
import PyProof.ForAny
import PyProof.ForAppend
import KE.KRevIter
import PyProof.Rows.GenSrcRange
import PyProof.CompMap
import PyProof.SliceSyntax
import PyProof.Rows.TupAssign
import PyProof.CompUse
import PyProof.ZipIter
import PyProof.TupleIter
import KE.KLcPair
import Lean
import PySem.Challenge.RW_uf060012_12
set_option Elab.async false
set_option linter.all false
set_option genSizeOf false
set_option genInjectivity false
open PySem
namespace Mine

/-! ## the abstract values, the abstract heap -/
inductive V where
  | none
  | bool (b : Bool)
  | int (i : Int)
  | str (s : Str)
  | tup (vs : List V)
  | ref (k : Nat)
  | frz (xs : List Int)

abbrev Hp := List (List V)

/-- a list of zl, as values -/
noncomputable def zl (xs : List Int) : List V := xs.map V.int

noncomputable def zl? : List V → Option (List Int)
  | [] => some []
  | .int i :: r => (zl? r).map (i :: ·)
  | _ :: _ => Option.none

/-! ## the language -/
inductive U where
  | neg | len | list | tuple | sum | sorted | abs | nset | rev
  | isInt | isBool | isList | isTuple
  | set | reversed | upto | enumerate   -- no meaning by themselves
  deriving DecidableEq

inductive B where
  | add | sub | mul | fdiv | mod | pow
  | eq | ne | lt | le | gt | ge | isin | notin | is_ | isnot
  | item | max | min
  | range | zip   -- no meaning by themselves
  deriving DecidableEq

inductive It where
  | range | seq | enum | rev
  deriving DecidableEq

inductive X where
  | none
  | bool (b : Bool)
  | int (i : Int)
  | str (s : Str)
  | glob (s : Str)   -- no meaning by itself
  | var (i : Nat)
  | un (op : U) (e : X)
  | bin (op : B) (a b : X)
  | chain (op₁ op₂ : B) (a b c : X)
  | not (e : X)
  | and (a b : X)
  | or (a b : X)
  | ite (t a b : X)
  | call (f : Nat) (args : List X)
  | list (es : List X)
  | tup (es : List X)
  | slice (e : X) (lo hi : X)
  | comp (elt : X) (n : Nat) (it : It) (a b : X) (cond : X)
  | zcomp (elt : X) (a b : X)

inductive S where
  | assign (i : Nat) (e : X)
  | unpack (is : List Nat) (e : X)
  | setItem (a i v : X)
  | append (a v : X)
  | expr (e : X)
  | ite (t : X) (b c : List S)
  | loop (t : X) (b : List S)
  | each (is : List Nat) (it : It) (a c : X) (b : List S)
  | ret (e : X)
  | raise

/-! ## what the operations give -/
abbrev Small (a : Int) : Prop := -9223372036854775808 ≤ a ∧ a ≤ 9223372036854775807

noncomputable def truth : V → Option Bool
  | .bool b => some b
  | .none => some false
  | _ => Option.none

/-- a value read to its depth -/
noncomputable def deepL (d : V → Option PyData) : List V → Option (List PyData)
  | [] => some []
  | v :: r => match d v, deepL d r with
    | some x, some xs => some (x :: xs)
    | _, _ => Option.none
noncomputable def deep : Nat → Hp → V → Option PyData
  | _, _, .none => some .none
  | _, _, .bool b => some (.bool b)
  | _, _, .int i => some (.int i)
  | _, _, .str _ => Option.none
  | _, _, .frz _ => Option.none
  | n + 1, H, .tup vs => (deepL (deep n H) vs).map .tuple
  | n + 1, H, .ref k => match H[k]? with
    | some vs => (deepL (deep n H) vs).map .list
    | Option.none => Option.none
  | 0, _, .tup _ => Option.none
  | 0, _, .ref _ => Option.none

noncomputable def room : Nat := 16777216

/-- where an index points -/
noncomputable def place (i : Int) (n : Nat) : Option Nat :=
  if 0 ≤ i ∧ i < n then some i.toNat
  else if i < 0 ∧ -(n : Int) ≤ i then some (i + n).toNat else Option.none

abbrev PV := V → Hp → Prop

/-! ### selectors -/
noncomputable def optV {α : Type} (o : Option α) (F : α → Prop) : Prop := match o with
  | some x => F x
  | Option.none => False
theorem optV_elim {α : Type} {o : Option α} {F : α → Prop} (h : optV o F) : ∃ x, o = some x ∧ F x := by
  cases o with
  | none => exact h.elim
  | some x => exact ⟨x, rfl, h⟩
theorem optV_mono {α : Type} {o : Option α} {F G : α → Prop} (h : ∀ x, F x → G x) (q : optV o F) : optV o G := by
  cases o with
  | none => exact q.elim
  | some x => exact h x q
noncomputable def int? : V → Option Int
  | .int a => some a
  | .none => Option.none
  | .bool _ => Option.none
  | .str _ => Option.none
  | .tup _ => Option.none
  | .ref _ => Option.none
  | .frz _ => Option.none
theorem int_eq {v : V} {a : Int} (h : int? v = some a) : v = .int a := by
  cases v <;> first | (cases h; done) | (cases h; rfl)
noncomputable def ref? : V → Option Nat
  | .ref k => some k
  | .none => Option.none
  | .bool _ => Option.none
  | .str _ => Option.none
  | .tup _ => Option.none
  | .int _ => Option.none
  | .frz _ => Option.none
theorem ref_eq {v : V} {k : Nat} (h : ref? v = some k) : v = .ref k := by
  cases v <;> first | (cases h; done) | (cases h; rfl)
noncomputable def intV (v : V) (F : Int → Prop) : Prop := optV (int? v) F
theorem intV_elim {v : V} {F : Int → Prop} (h : intV v F) : ∃ a, v = .int a ∧ F a := by
  obtain ⟨a, e, h⟩ := optV_elim h
  exact ⟨a, int_eq e, h⟩
noncomputable def refV (v : V) (H : Hp) (F : List V → Prop) : Prop := optV (ref? v) fun k => optV H[k]? F
theorem refV_elim {v : V} {H : Hp} {F : List V → Prop} (h : refV v H F) : ∃ k vs, v = .ref k ∧ H[k]? = some vs ∧ F vs := by
  obtain ⟨k, e, h⟩ := optV_elim h
  obtain ⟨vs, e', h⟩ := optV_elim h
  exact ⟨k, vs, ref_eq e, e', h⟩
noncomputable def isIntB : V → Bool
  | .int _ => true
  | .bool _ => true
  | .none => false
  | .str _ => false
  | .tup _ => false
  | .ref _ => false
  | .frz _ => false
noncomputable def isBoolB : V → Bool
  | .bool _ => true
  | .int _ => false
  | .none => false
  | .str _ => false
  | .tup _ => false
  | .ref _ => false
  | .frz _ => false
noncomputable def isListB : V → Bool
  | .ref _ => true
  | .frz _ => true
  | .bool _ => false
  | .int _ => false
  | .none => false
  | .str _ => false
  | .tup _ => false
noncomputable def isTupB : V → Bool
  | .tup _ => true
  | .ref _ => false
  | .frz _ => false
  | .bool _ => false
  | .int _ => false
  | .none => false
  | .str _ => false
noncomputable def isNoneB : V → Bool
  | .none => true
  | .tup _ => false
  | .ref _ => false
  | .frz _ => false
  | .bool _ => false
  | .int _ => false
  | .str _ => false
noncomputable def lenV (v : V) (H : Hp) (F : Nat → Prop) : Prop := match v with
  | .ref k => optV H[k]? fun vs => F vs.length
  | .tup vs => F vs.length
  | .frz xs => F xs.length
  | .none => False
  | .bool _ => False
  | .int _ => False
  | .str _ => False
noncomputable def seqV (v : V) (H : Hp) (F : List V → Prop) : Prop := match v with
  | .ref k => optV H[k]? F
  | .tup vs => F vs
  | .frz _ => False
  | .none => False
  | .bool _ => False
  | .int _ => False
  | .str _ => False
noncomputable def addV (v w : V) (H : Hp) (P : PV) : Prop := match v with
  | .int a => intV w fun b => P (.int (a + b)) H
  | .ref k => optV H[k]? fun xs => refV w H fun ys => xs.length + ys.length ≤ room ∧ P (.ref H.length) (H ++ [xs ++ ys])
  | .tup _ => False
  | .frz _ => False
  | .none => False
  | .bool _ => False
  | .str _ => False
noncomputable def lone : List V → Option V
  | [] => Option.none
  | x :: r => match r with
    | [] => some x
    | _ :: _ => Option.none
theorem lone_eq {l : List V} {x : V} (h : lone l = some x) : l = [x] := by
  cases l with
  | nil => cases h
  | cons y r => cases r with
    | nil => cases h; rfl
    | cons _ _ => cases h
noncomputable def mulV (v w : V) (H : Hp) (P : PV) : Prop := match v with
  | .int a => intV w fun b => (Small a ∨ Small b) ∧ P (.int (a * b)) H
  | .ref k => optV H[k]? fun vs => optV (lone vs) fun x => intV w fun b => 0 ≤ b ∧ b ≤ 512 ∧ P (.ref H.length) (H ++ [List.replicate b.toNat x])
  | .tup _ => False
  | .frz _ => False
  | .none => False
  | .bool _ => False
  | .str _ => False
noncomputable def itemV (v : V) (i : Int) (H : Hp) (P : PV) : Prop := match v with
  | .ref k => optV H[k]? fun vs => optV (place i vs.length) fun j => optV vs[j]? fun x => P x H
  | .tup vs => optV (place i vs.length) fun j => optV vs[j]? fun x => P x H
  | .frz xs => optV (place i xs.length) fun j => optV xs[j]? fun x => P (.int x) H
  | .none => False
  | .bool _ => False
  | .int _ => False
  | .str _ => False

noncomputable def wpU (op : U) (v : V) (H : Hp) (P : PV) : Prop := match op with
  | .neg => intV v fun a => P (.int (-a)) H
  | .abs => intV v fun a => P (.int (if a < 0 then -a else a)) H
  | .len => lenV v H fun n => P (.int n) H
  | .list => seqV v H fun vs => P (.ref H.length) (H ++ [vs])
  | .tuple => refV v H fun vs => P (.tup vs) H
  | .rev => refV v H fun vs => P (.ref H.length) (H ++ [vs.reverse])
  | .sum => refV v H fun vs => optV (zl? vs) fun is => P (.int is.sum) H
  | .sorted => refV v H fun vs => optV (zl? vs) fun is => is.length < 64 ∧ ∀ js : List Int, js.Perm is → js.Pairwise (· ≤ ·) → P (.ref H.length) (H ++ [zl js])
  | .nset => refV v H fun vs => optV (zl? vs) fun is => is.length < 4000 ∧ ∀ n : Nat, (is.Nodup → n = is.length) → (¬ is.Nodup → n < is.length) → P (.int n) H
  | .isInt => P (.bool (isIntB v)) H
  | .isBool => P (.bool (isBoolB v)) H
  | .isList => P (.bool (isListB v)) H
  | .isTuple => P (.bool (isTupB v)) H
  | .set => False
  | .reversed => False
  | .upto => False
  | .enumerate => False

noncomputable def wpB (op : B) (v w : V) (H : Hp) (P : PV) : Prop := match op with
  | .add => addV v w H P
  | .sub => intV v fun a => intV w fun b => P (.int (a - b)) H
  | .mul => mulV v w H P
  | .fdiv => intV v fun a => intV w fun b => 0 < b ∧ b < 1000000000 ∧ P (.int (a / b)) H
  | .mod => intV v fun a => intV w fun b => 0 < b ∧ P (.int (a % b)) H
  | .pow => intV v fun a => intV w fun b => a = 10 ∧ b = 20 ∧ P (.int 100000000000000000000) H
  | .eq => optV (deep 4 H v) fun x => optV (deep 4 H w) fun y => P (.bool (PyData.eqv x y)) H
  | .ne => optV (deep 4 H v) fun x => optV (deep 4 H w) fun y => P (.bool (!PyData.eqv x y)) H
  | .lt => intV v fun a => intV w fun b => P (.bool (decide (a < b))) H
  | .le => intV v fun a => intV w fun b => P (.bool (decide (a ≤ b))) H
  | .gt => intV v fun a => intV w fun b => P (.bool (decide (b < a))) H
  | .ge => intV v fun a => intV w fun b => P (.bool (decide (b ≤ a))) H
  | .isin => intV v fun a => refV w H fun vs => optV (zl? vs) fun is => P (.bool (decide (a ∈ is))) H
  | .notin => intV v fun a => refV w H fun vs => optV (zl? vs) fun is => P (.bool (!decide (a ∈ is))) H
  | .is_ => isNoneB w = true ∧ P (.bool (isNoneB v)) H
  | .isnot => isNoneB w = true ∧ P (.bool (!isNoneB v)) H
  | .item => intV w fun i => itemV v i H P
  | .max => intV v fun a => intV w fun b => P (.int (if a < b then b else a)) H
  | .min => intV v fun a => intV w fun b => P (.int (if b < a then b else a)) H
  | .range => False
  | .zip => False

/-- what a loop walks over: its items, and what must stay meanwhile -/
noncomputable def pairs (xs ys : List V) : List V := (xs.zip ys).map fun p => .tup [p.1, p.2]
noncomputable def nums (lo : Int) (n : Nat) : List V := (List.range n).map fun (i : Nat) => .int (lo + i)

noncomputable def seqOf (H : Hp) : V → Option (List V × List (Nat × List V))
  | .ref k => match H[k]? with | some vs => some (vs, [(k, vs)]) | Option.none => Option.none
  | .tup vs => some (vs, [])
  | _ => Option.none

noncomputable def items (it : It) (v w : V) (H : Hp) : Option (List V × List (Nat × List V)) := match it with
  | .range => (match v, w with
    | .int a, .int b => if -1000000 ≤ a ∧ a ≤ 1000000 ∧ -1000000 ≤ b ∧ b ≤ 1000000 then some (nums a (b - a).toNat, []) else Option.none
    | _, _ => Option.none)
  | .seq => seqOf H v
  | .enum => (match v with
    | .ref k => (match H[k]? with | some vs => some (pairs (nums 0 vs.length) vs, [(k, vs)]) | Option.none => Option.none)
    | _ => Option.none)
  | .rev => (match v with
    | .ref k => (match H[k]? with | some vs => some (vs.reverse, [(k, vs)]) | Option.none => Option.none)
    | _ => Option.none)

noncomputable def Still (src : List (Nat × List V)) (H : Hp) : Prop := ∀ p ∈ src, H[p.1]? = some p.2

/-! ## expressions -/
abbrev Loc := List (Option V)
/-- the calls of the text's own functions -/
abbrev Calls := Nat → List V → Hp → PV → Prop

noncomputable def wpComp (cond elt : V → Hp → PV → Prop) (src : List (Nat × List V)) : List V → List V → Hp → PV → Prop
  | [], acc, H, P => Still src H ∧ P (.ref H.length) (H ++ [acc])
  | v :: r, acc, H, P => Still src H ∧ cond v H fun c H₁ => match truth c with
    | some true => elt v H₁ fun y H₂ => wpComp cond elt src r (acc ++ [y]) H₂ P
    | some false => wpComp cond elt src r acc H₁ P
    | Option.none => False

/-- two rows of zl, walked abreast by an expression over two zl -/
noncomputable def wpZip (elt : Int → Int → (V → Prop) → Prop) : List Int → List Int → List V → (List V → Prop) → Prop
  | x :: xs, y :: ys, acc, P => elt x y fun v => match v with
    | .int i => wpZip elt xs ys (acc ++ [.int i]) P
    | _ => False
  | _, _, acc, P => P acc

noncomputable def tup? : V → Option (List V)
  | .tup vs => some vs
  | .none => Option.none
  | .bool _ => Option.none
  | .str _ => Option.none
  | .int _ => Option.none
  | .ref _ => Option.none
  | .frz _ => Option.none
theorem tup_eq {v : V} {vs : List V} (h : tup? v = some vs) : v = .tup vs := by
  cases v <;> first | (cases h; done) | (cases h; rfl)
/-- a tuple and a list of as many ints -/
noncomputable def zipV (elt : Int → Int → (V → Prop) → Prop) (v z : V) (H : Hp) (P : PV) : Prop :=
  optV (tup? v) fun us => refV z H fun vs => optV (zl? us) fun xs => optV (zl? vs) fun ys => xs.length = ys.length ∧ wpZip elt xs ys [] fun acc => P (.ref H.length) (H ++ [acc])

/-- the names that a target binds -/
noncomputable def bound (n : Nat) (v : V) : Option Loc := match n, v with
  | 1, v => some [some v]
  | 2, .tup [a, b] => some [some a, some b]
  | _, _ => Option.none

noncomputable def clip (n : Nat) (i : Int) : Nat := (max 0 (min (if i < 0 then i + n else i) n)).toNat
noncomputable def part? : V → Option (Option Int)
  | .none => some Option.none
  | .int i => some (some i)
  | _ => Option.none
noncomputable def picked (vs : List V) (lo hi : Option Int) : List V :=
  (vs.drop (lo.elim 0 (clip vs.length))).take (hi.elim vs.length (clip vs.length) - lo.elim 0 (clip vs.length))

mutual
noncomputable def wpE (C : Calls) : X → Loc → Hp → PV → Prop
  | .none, _, H, P => P .none H
  | .bool b, _, H, P => P (.bool b) H
  | .int i, _, H, P => P (.int i) H
  | .str s, _, H, P => P (.str s) H
  | .glob _, _, _, _ => False
  | .var i, m, H, P => match m[i]? with | some (some v) => P v H | _ => False
  | .un op e, m, H, P => wpE C e m H fun v H₁ => wpU op v H₁ P
  | .bin op a b, m, H, P => wpE C a m H fun v H₁ => wpE C b m H₁ fun w H₂ => wpB op v w H₂ P
  | .chain op₁ op₂ a b c, m, H, P => wpE C a m H fun v H₁ => wpE C b m H₁ fun w H₂ => wpB op₁ v w H₂ fun t H₃ => match truth t with
    | some true => wpE C c m H₃ fun z H₄ => wpB op₂ w z H₄ P
    | some false => P t H₃
    | Option.none => False
  | .not e, m, H, P => wpE C e m H fun v H₁ => match truth v with | some b => P (.bool !b) H₁ | Option.none => False
  | .and a b, m, H, P => wpE C a m H fun v H₁ => match truth v with
    | some true => wpE C b m H₁ P
    | some false => P v H₁
    | Option.none => False
  | .or a b, m, H, P => wpE C a m H fun v H₁ => match truth v with
    | some true => P v H₁
    | some false => wpE C b m H₁ P
    | Option.none => False
  | .ite t a b, m, H, P => wpE C t m H fun v H₁ => match truth v with
    | some true => wpE C a m H₁ P
    | some false => wpE C b m H₁ P
    | Option.none => False
  | .call f args, m, H, P => wpEs C args m H fun vs H₁ => C f vs H₁ P
  | .list es, m, H, P => wpEs C es m H fun vs H₁ => P (.ref H₁.length) (H₁ ++ [vs])
  | .tup es, m, H, P => wpEs C es m H fun vs H₁ => P (.tup vs) H₁
  | .slice e lo hi, m, H, P => wpE C e m H fun v H₁ => wpE C lo m H₁ fun a H₂ => wpE C hi m H₂ fun b H₃ => match v, part? a, part? b with
    | .ref k, some l, some h => (match H₃[k]? with
      | some vs => P (.ref H₃.length) (H₃ ++ [picked vs l h])
      | Option.none => False)
    | _, _, _ => False
  | .comp elt n it a b cond, m, H, P => wpE C a m H fun v H₁ => wpE C b m H₁ fun w H₂ => match items it v w H₂ with
    | some (vs, src) => wpComp (fun x H P => match bound n x with | some l => wpE C cond (m ++ l) H P | Option.none => False)
        (fun x H P => match bound n x with | some l => wpE C elt (m ++ l) H P | Option.none => False) src vs [] H₂ P
    | Option.none => False
  | .zcomp elt a b, m, H, P => wpE C a m H fun v H₁ => wpE C b m H₁ fun w H₂ => zipV (fun x y P' => wpE C elt [some (.int x), some (.int y)] [] fun v _ => P' v) v w H₂ P
noncomputable def wpEs (C : Calls) : List X → Loc → Hp → (List V → Hp → Prop) → Prop
  | [], _, H, P => P [] H
  | e :: r, m, H, P => wpE C e m H fun v H₁ => wpEs C r m H₁ fun vs H₂ => P (v :: vs) H₂
end

/-! ## statements -/
inductive Fl where
  | next
  | ret (v : V)
abbrev PF := Fl → Loc → Hp → Prop

noncomputable def wpLoop (test : Loc → Hp → PV → Prop) (body : Loc → Hp → PF → Prop) (Q : PF) : Nat → Loc → Hp → Prop
  | 0, _, _ => False
  | n + 1, m, H => test m H fun c H₁ => match truth c with
    | some true => body m H₁ fun f m' H' => match f with | .next => wpLoop test body Q n m' H' | .ret v => Q (.ret v) m' H'
    | some false => Q .next m H₁
    | Option.none => False

/-- the slots of a target -/
noncomputable def put : List Nat → V → Loc → Option Loc
  | [i], v, m => some (m.set i (some v))
  | [i, j], .tup [v, w], m => some ((m.set i (some v)).set j (some w))
  | _, _, _ => Option.none

noncomputable def wpEach (is : List Nat) (body : Loc → Hp → PF → Prop) (src : List (Nat × List V)) (Q : PF) : List V → Loc → Hp → Prop
  | [], m, H => Still src H ∧ Q .next m H
  | v :: r, m, H => Still src H ∧ match put is v m with
    | some m₁ => body m₁ H fun f m' H' => match f with | .next => wpEach is body src Q r m' H' | .ret x => Q (.ret x) m' H'
    | Option.none => False

mutual
noncomputable def wpS (C : Calls) : S → Loc → Hp → PF → Prop
  | .assign i e, m, H, Q => wpE C e m H fun v H₁ => Q .next (m.set i (some v)) H₁
  | .unpack is e, m, H, Q => wpE C e m H fun v H₁ => match put is v m with | some m₁ => Q .next m₁ H₁ | Option.none => False
  | .setItem a i e, m, H, Q => wpE C e m H fun v H₁ => wpE C a m H₁ fun r H₂ => wpE C i m H₂ fun w H₃ => match r, w with
    | .ref k, .int j => (match H₃[k]? with
      | some vs => 0 ≤ j ∧ j < vs.length ∧ Q .next m (H₃.set k (vs.set j.toNat v))
      | Option.none => False)
    | _, _ => False
  | .append a e, m, H, Q => wpE C a m H fun r H₁ => match r with
    | .ref k => wpE C e m H₁ fun v H₂ => (match H₂[k]? with
      | some vs => vs.length < room ∧ Q .next m (H₂.set k (vs ++ [v]))
      | Option.none => False)
    | _ => False
  | .expr e, m, H, Q => wpE C e m H fun v H₁ => match v with | .none => Q .next m H₁ | _ => False
  | .ite t b c, m, H, Q => wpE C t m H fun v H₁ => match truth v with
    | some true => wpSs C b m H₁ Q
    | some false => wpSs C c m H₁ Q
    | Option.none => False
  | .loop t b, m, H, Q => ∃ n, wpLoop (wpE C t) (fun m H Q => wpSs C b m H Q) Q n m H
  | .each is it a c b, m, H, Q => wpE C a m H fun v H₁ => wpE C c m H₁ fun w H₂ => match items it v w H₂ with
    | some (vs, src) => wpEach is (fun m H Q => wpSs C b m H Q) src Q vs m H₂
    | Option.none => False
  | .ret e, m, H, Q => wpE C e m H fun v H₁ => Q (.ret v) m H₁
  | .raise, _, _, _ => False
noncomputable def wpSs (C : Calls) : List S → Loc → Hp → PF → Prop
  | [], m, H, Q => Q .next m H
  | s :: r, m, H, Q => wpS C s m H fun f m' H' => match f with
    | .next => wpSs C r m' H' Q
    | .ret v => Q (.ret v) m' H'
end

/-! ### one by one -/
theorem VN : ∀ C r0 H P, wpE C (.none) r0 H P = (P .none H) := fun _ _ _ _ => rfl
theorem VJ : ∀ C b r0 H P, wpE C (.bool b) r0 H P = (P (.bool b) H) := fun _ _ _ _ _ => rfl
theorem VU : ∀ C i r0 H P, wpE C (.int i) r0 H P = (P (.int i) H) := fun _ _ _ _ _ => rfl
theorem VS : ∀ C s r0 H P, wpE C (.str s) r0 H P = (P (.str s) H) := fun _ _ _ _ _ => rfl
theorem VO : ∀ C u0 r0 r1 r2, wpE C (.glob u0) r0 r1 r2 = (False) := fun _ _ _ _ _ => rfl
theorem VT : ∀ C i m H P, wpE C (.var i) m H P = (match m[i]? with | some (some v) => P v H | _ => False) := fun _ _ _ _ _ => rfl
theorem Wc : ∀ C op e m H P, wpE C (.un op e) m H P = (wpE C e m H fun v H₁ => wpU op v H₁ P) := fun _ _ _ _ _ _ => rfl
theorem VW : ∀ C op a b m H P, wpE C (.bin op a b) m H P = (wpE C a m H fun v H₁ => wpE C b m H₁ fun w H₂ => wpB op v w H₂ P) := fun _ _ _ _ _ _ _ => rfl
theorem VF : ∀ C op₁ op₂ a b c m H P, wpE C (.chain op₁ op₂ a b c) m H P = (wpE C a m H fun v H₁ => wpE C b m H₁ fun w H₂ => wpB op₁ v w H₂ fun t H₃ => match truth t with
    | some true => wpE C c m H₃ fun z H₄ => wpB op₂ w z H₄ P
    | some false => P t H₃
    | Option.none => False) := fun _ _ _ _ _ _ _ _ _ => rfl
theorem VY : ∀ C e m H P, wpE C (.not e) m H P = (wpE C e m H fun v H₁ => match truth v with | some b => P (.bool !b) H₁ | Option.none => False) := fun _ _ _ _ _ => rfl
theorem VV : ∀ C a b m H P, wpE C (.and a b) m H P = (wpE C a m H fun v H₁ => match truth v with
    | some true => wpE C b m H₁ P
    | some false => P v H₁
    | Option.none => False) := fun _ _ _ _ _ _ => rfl
theorem Wb : ∀ C a b m H P, wpE C (.or a b) m H P = (wpE C a m H fun v H₁ => match truth v with
    | some true => P v H₁
    | some false => wpE C b m H₁ P
    | Option.none => False) := fun _ _ _ _ _ _ => rfl
theorem VZ : ∀ C t a b m H P, wpE C (.ite t a b) m H P = (wpE C t m H fun v H₁ => match truth v with
    | some true => wpE C a m H₁ P
    | some false => wpE C b m H₁ P
    | Option.none => False) := fun _ _ _ _ _ _ _ => rfl
theorem VM : ∀ C f args m H P, wpE C (.call f args) m H P = (wpEs C args m H fun vs H₁ => C f vs H₁ P) := fun _ _ _ _ _ _ => rfl
theorem VK : ∀ C es m H P, wpE C (.list es) m H P = (wpEs C es m H fun vs H₁ => P (.ref H₁.length) (H₁ ++ [vs])) := fun _ _ _ _ _ => rfl
theorem VX : ∀ C es m H P, wpE C (.tup es) m H P = (wpEs C es m H fun vs H₁ => P (.tup vs) H₁) := fun _ _ _ _ _ => rfl
theorem VE : ∀ C e lo hi m H P, wpE C (.slice e lo hi) m H P = (wpE C e m H fun v H₁ => wpE C lo m H₁ fun a H₂ => wpE C hi m H₂ fun b H₃ => match v, part? a, part? b with
    | .ref k, some l, some h => (match H₃[k]? with
      | some vs => P (.ref H₃.length) (H₃ ++ [picked vs l h])
      | Option.none => False)
    | _, _, _ => False) := fun _ _ _ _ _ _ _ => rfl
theorem VL : ∀ C elt n it a b cond m H P, wpE C (.comp elt n it a b cond) m H P = (wpE C a m H fun v H₁ => wpE C b m H₁ fun w H₂ => match items it v w H₂ with
    | some (vs, src) => wpComp (fun x H P => match bound n x with | some l => wpE C cond (m ++ l) H P | Option.none => False)
        (fun x H P => match bound n x with | some l => wpE C elt (m ++ l) H P | Option.none => False) src vs [] H₂ P
    | Option.none => False) := fun _ _ _ _ _ _ _ _ _ _ => rfl
theorem VD : ∀ C elt a b m H P, wpE C (.zcomp elt a b) m H P = (wpE C a m H fun v H₁ => wpE C b m H₁ fun w H₂ => zipV (fun x y P' => wpE C elt [some (.int x), some (.int y)] [] fun v _ => P' v) v w H₂ P) := fun _ _ _ _ _ _ _ => rfl
theorem wes_nil : ∀ C r0 H P, wpEs C ([]) r0 H P = (P [] H) := fun _ _ _ _ => rfl
theorem wes_cons : ∀ C e r m H P, wpEs C (e :: r) m H P = (wpE C e m H fun v H₁ => wpEs C r m H₁ fun vs H₂ => P (v :: vs) H₂) := fun _ _ _ _ _ _ => rfl
theorem ws_assign : ∀ C i e m H Q, wpS C (.assign i e) m H Q = (wpE C e m H fun v H₁ => Q .next (m.set i (some v)) H₁) := fun _ _ _ _ _ _ => rfl
theorem ws_unpack : ∀ C is e m H Q, wpS C (.unpack is e) m H Q = (wpE C e m H fun v H₁ => match put is v m with | some m₁ => Q .next m₁ H₁ | Option.none => False) := fun _ _ _ _ _ _ => rfl
theorem ws_setItem : ∀ C a i e m H Q, wpS C (.setItem a i e) m H Q = (wpE C e m H fun v H₁ => wpE C a m H₁ fun r H₂ => wpE C i m H₂ fun w H₃ => match r, w with
    | .ref k, .int j => (match H₃[k]? with
      | some vs => 0 ≤ j ∧ j < vs.length ∧ Q .next m (H₃.set k (vs.set j.toNat v))
      | Option.none => False)
    | _, _ => False) := fun _ _ _ _ _ _ _ => rfl
theorem ws_append : ∀ C a e m H Q, wpS C (.append a e) m H Q = (wpE C a m H fun r H₁ => match r with
    | .ref k => wpE C e m H₁ fun v H₂ => (match H₂[k]? with
      | some vs => vs.length < room ∧ Q .next m (H₂.set k (vs ++ [v]))
      | Option.none => False)
    | _ => False) := fun _ _ _ _ _ _ => rfl
theorem ws_expr : ∀ C e m H Q, wpS C (.expr e) m H Q = (wpE C e m H fun v H₁ => match v with | .none => Q .next m H₁ | _ => False) := fun _ _ _ _ _ => rfl
theorem ws_ite : ∀ C t b c m H Q, wpS C (.ite t b c) m H Q = (wpE C t m H fun v H₁ => match truth v with
    | some true => wpSs C b m H₁ Q
    | some false => wpSs C c m H₁ Q
    | Option.none => False) := fun _ _ _ _ _ _ _ => rfl
theorem ws_loop : ∀ C t b m H Q, wpS C (.loop t b) m H Q = (∃ n, wpLoop (wpE C t) (fun m H Q => wpSs C b m H Q) Q n m H) := fun _ _ _ _ _ _ => rfl
theorem ws_each : ∀ C is it a c b m H Q, wpS C (.each is it a c b) m H Q = (wpE C a m H fun v H₁ => wpE C c m H₁ fun w H₂ => match items it v w H₂ with
    | some (vs, src) => wpEach is (fun m H Q => wpSs C b m H Q) src Q vs m H₂
    | Option.none => False) := fun _ _ _ _ _ _ _ _ _ => rfl
theorem ws_ret : ∀ C e m H Q, wpS C (.ret e) m H Q = (wpE C e m H fun v H₁ => Q (.ret v) m H₁) := fun _ _ _ _ _ => rfl
theorem ws_raise : ∀ C r0 r1 r2, wpS C (.raise) r0 r1 r2 = (False) := fun _ _ _ _ => rfl
theorem wss_nil : ∀ C m H Q, wpSs C ([]) m H Q = (Q .next m H) := fun _ _ _ _ => rfl
theorem wss_cons : ∀ C s r m H Q, wpSs C (s :: r) m H Q = (wpS C s m H fun f m' H' => match f with
    | .next => wpSs C r m' H' Q
    | .ret v => Q (.ret v) m' H') := fun _ _ _ _ _ _ => rfl

/-! ## functions -/
structure Fn where
  params : Nat
  locals : Nat
  body : List S

noncomputable def entry (f : Fn) (vs : List V) : Loc := vs.map some ++ List.replicate (f.locals - f.params) Option.none

/-- the calls of a table of functions, to a depth -/
noncomputable def run (T : Nat → Option Fn) : Nat → Calls
  | 0, _, _, _, _ => False
  | n + 1, f, vs, H, P => match T f with
    | some d => vs.length = d.params ∧ d.params ≤ d.locals ∧ wpSs (run T n) d.body (entry d vs) H fun fl _ H' => match fl with | .next => P .none H' | .ret v => P v H'
    | Option.none => False

end Mine

open PySem
namespace Mine

/-! ## from the text to the language -/
structure Tabs where
  fids : List (Str × Nat)
  consts : List (Str × Int)
  zips : Bool := false
  revs : Bool := false

/-- the slot of a name; the newest name stands first -/
noncomputable def slot : List Str → Str → Option Nat
  | [], _ => none
  | x :: r, y => if x == y then some r.length else slot r y

noncomputable def isVar (sc : Scope) (x : Str) : Bool := match sc.names.lookup x with
  | some .local | some .cell | some .free => true
  | _ => false
noncomputable def isOwn (sc : Scope) (x : Str) : Bool := match sc.names.lookup x with
  | some .local | some .cell => true
  | _ => false
noncomputable def isGlob (sc : Scope) (x : Str) : Bool := match sc.names.lookup x with
  | some .globalImplicit => true
  | _ => false

noncomputable def opOf : Operator → Option B
  | .Add => some .add | .Sub => some .sub | .Mult => some .mul | .Mod => some .mod | .FloorDiv => some .fdiv | .Pow => some .pow
  | _ => none
noncomputable def cmpOf : CmpOp → B
  | .Eq => .eq | .NotEq => .ne | .Lt => .lt | .LtE => .le | .Gt => .gt | .GtE => .ge | .In => .isin | .NotIn => .notin | .Is => .is_ | .IsNot => .isnot

/-- the built-in functions of one argument, of two -/
noncomputable def tab1 : List (Str × U) := [("tuple", .tuple), ("sum", .sum), ("sorted", .sorted), ("abs", .abs), ("set", .set), ("reversed", .reversed), ("range", .upto), ("enumerate", .enumerate)]
noncomputable def tab2 : List (Str × B) := [("max", .max), ("min", .min), ("range", .range), ("zip", .zip)]
noncomputable def call1 (D : Tabs) (f : Str) (a : X) : Option X :=
  if f == ("len" : Str) then (match a with | .un .set e => some (.un .nset e) | a => some (.un .len a))
  else if f == ("list" : Str) then (match a with | .un .reversed e => if D.revs then some (.un .rev e) else none | a => some (.un .list a))
  else (tab1.lookup f).map fun u => .un u a
noncomputable def isiOf (f : Str) : Option U :=
  if f == ("int" : Str) then some .isInt else if f == ("bool" : Str) then some .isBool else if f == ("list" : Str) then some .isList
  else if f == ("tuple" : Str) then some .isTuple else none
noncomputable def call2 (f : Str) (a b : X) : Option X :=
  if f == ("isinstance" : Str) then (match b with | .glob t => (isiOf t).map fun u => .un u a | _ => none)
  else (tab2.lookup f).map fun o => .bin o a b
noncomputable def mkCall (D : Tabs) (f : Str) (as : List X) : Option X := match D.fids.lookup f with
  | some k => some (.call k as)
  | none => match as with
    | [a] => call1 D f a
    | [a, b] => call2 f a b
    | _ => none

/-- what is walked over -/
noncomputable def itOf : X → It × X × X
  | .un .upto a => (.range, .int 0, a)
  | .bin .range a b => (.range, a, b)
  | .un .enumerate a => (.enum, a, .none)
  | .un .reversed a => (.rev, a, .none)
  | e => (.seq, e, .none)

/-- a comprehension's block has no names of its own but its targets -/
noncomputable def okOwn (csc : Scope) (Γ xs : List Str) : Bool := csc.names.all fun p => match p.2 with
  | .local | .cell => xs.contains p.1 || (slot Γ p.1).isNone
  | _ => true

noncomputable def okIt : It → Nat → Bool
  | .enum, n => n == 2
  | _, n => n == 1

/-- a block's names are told once each; what is free stands in a cell around -/
noncomputable def okScope (sc : Scope) : Bool := sc.kind == .function && sc.names.all fun p => sc.names.lookup p.1 == some p.2
noncomputable def okComp (sc csc : Scope) : Bool := okScope csc && csc.names.all fun p => match p.2 with
  | .free => (match sc.names.lookup p.1 with | some .cell | some .free => true | _ => false)
  | _ => true

noncomputable def opt2 {α β γ : Type} (a : Option α) (b : Option β) (f : α → β → Option γ) : Option γ := a.bind fun x => b.bind fun y => f x y
theorem opt2_some {α β γ : Type} {a : Option α} {b : Option β} {f : α → β → Option γ} {z : γ} (h : opt2 a b f = some z) : ∃ x y, a = some x ∧ b = some y ∧ f x y = some z := by
  cases a with
  | none => cases h
  | some x => cases b with
    | none => cases h
    | some y => exact ⟨x, y, rfl, rfl, h⟩
noncomputable def opt3 {α β γ δ : Type} (a : Option α) (b : Option β) (c : Option δ) (f : α → β → δ → Option γ) : Option γ := opt2 a b fun x y => c.bind fun z => f x y z
theorem opt3_some {α β γ δ : Type} {a : Option α} {b : Option β} {c : Option δ} {f : α → β → δ → Option γ} {z : γ} (h : opt3 a b c f = some z) : ∃ x y w, a = some x ∧ b = some y ∧ c = some w ∧ f x y w = some z := by
  obtain ⟨x, y, h1, h2, h3⟩ := opt2_some h
  cases c with
  | none => cases h3
  | some w => exact ⟨x, y, w, h1, h2, rfl, h3⟩
theorem if_some {α : Type} {c : Bool} {x : Option α} {y : α} (h : (if c = true then x else none) = some y) : c = true ∧ x = some y := by
  cases c with
  | false => cases h
  | true => exact ⟨rfl, h⟩
theorem ite_some {α : Type} {c : Prop} [Decidable c] {x : Option α} {y : α} (h : (if c then x else none) = some y) : c ∧ x = some y := by
  by_cases q : c
  · rw [if_pos q] at h; exact ⟨q, h⟩
  · rw [if_neg q] at h; cases h
noncomputable def one? {α : Type} : List α → Option α
  | [] => none
  | a :: r => match r with
    | [] => some a
    | _ :: _ => none
theorem one_eq {α : Type} {l : List α} {a : α} (h : one? l = some a) : l = [a] := by
  cases l with
  | nil => cases h
  | cons b r => cases r with
    | nil => cases h; rfl
    | cons _ _ => cases h
noncomputable def two? {α : Type} : List α → Option (α × α)
  | [] => none
  | a :: r => (one? r).map fun b => (a, b)
theorem two_eq {α : Type} {l : List α} {a b : α} (h : two? l = some (a, b)) : l = [a, b] := by
  cases l with
  | nil => cases h
  | cons c r =>
    obtain ⟨d, h1, h2⟩ := Option.map_eq_some_iff.mp h
    cases h2
    rw [one_eq h1]
theorem none_ne {α : Type} {x : α} {M : Prop} (h : none = some x) : M := nomatch h
/-- the trees that are told apart by their form alone -/
noncomputable def sel {α : Type} (e : Expr) (n : Str → Option α) (t : List Expr → Option α) (s : Expr → Expr → Option α) (a : Expr → Str → Pos → Option α) (c : Expr → List Expr → List Keyword → Pos → Option α) : Option α := match e with
  | .Name f _ => n f
  | .Tuple es _ _ => t es
  | .Subscript o i _ => s o i
  | .Attribute o m p => a o m p
  | .Call f args kw p => c f args kw p
  | _ => none
noncomputable def nameOf (e : Expr) : Option Str := sel e some (fun _ => none) (fun _ _ => none) (fun _ _ _ => none) (fun _ _ _ _ => none)
theorem nameOf_eq {e : Expr} {f : Str} (h : nameOf e = some f) : ∃ p, e = .Name f p := by
  cases e with
  | Name g p => cases h; exact ⟨p, rfl⟩
  | _ => exact none_ne h
noncomputable def tupOf (e : Expr) : Option (List Expr) := sel e (fun _ => none) some (fun _ _ => none) (fun _ _ _ => none) (fun _ _ _ _ => none)
theorem tupOf_eq {e : Expr} {es : List Expr} (h : tupOf e = some es) : ∃ k p, e = .Tuple es k p := by
  cases e with
  | Tuple es k p => cases h; exact ⟨k, p, rfl⟩
  | _ => exact none_ne h
noncomputable def subOf (e : Expr) : Option (Expr × Expr) := sel e (fun _ => none) (fun _ => none) (fun o i => some (o, i)) (fun _ _ _ => none) (fun _ _ _ _ => none)
theorem subOf_eq {e o i : Expr} (h : subOf e = some (o, i)) : ∃ p, e = .Subscript o i p := by
  cases e with
  | Subscript o i p => cases h; exact ⟨p, rfl⟩
  | _ => exact none_ne h
noncomputable def attrOf (e : Expr) : Option (Expr × Str × Pos) := sel e (fun _ => none) (fun _ => none) (fun _ _ => none) (fun o m p => some (o, m, p)) (fun _ _ _ _ => none)
theorem attrOf_eq {e o : Expr} {m : Str} {p : Pos} (h : attrOf e = some (o, m, p)) : e = .Attribute o m p := by
  cases e with
  | Attribute o m p => cases h; rfl
  | _ => exact none_ne h
/-- a call without keywords -/
noncomputable def callOf (e : Expr) : Option (Expr × List Expr × Pos) := sel e (fun _ => none) (fun _ => none) (fun _ _ => none) (fun _ _ _ => none) fun f args kw p => match kw with
  | [] => some (f, args, p)
  | _ :: _ => none
theorem callOf_eq {e f : Expr} {args : List Expr} {p : Pos} (h : callOf e = some (f, args, p)) : e = .Call f args [] p := by
  cases e with
  | Call f args kw p => cases kw with
    | nil => cases h; rfl
    | cons _ _ => exact none_ne h
  | _ => exact none_ne h
noncomputable def pairOf (e : Expr) : Option (Str × Str) := (tupOf e).bind fun es => (two? es).bind fun p => opt2 (nameOf p.1) (nameOf p.2) fun x y => some (x, y)
theorem pairOf_eq {e : Expr} {x y : Str} (h : pairOf e = some (x, y)) : ∃ p q k p', e = .Tuple [.Name x p, .Name y q] k p' := by
  obtain ⟨es, h1, h⟩ := Option.bind_eq_some_iff.mp h
  obtain ⟨⟨a, b⟩, h2, h⟩ := Option.bind_eq_some_iff.mp h
  obtain ⟨x', y', h3, h4, h⟩ := opt2_some h
  cases h
  obtain ⟨k, p', rfl⟩ := tupOf_eq h1
  obtain ⟨p, rfl⟩ := nameOf_eq h3
  obtain ⟨q, rfl⟩ := nameOf_eq h4
  rw [two_eq h2]
  exact ⟨p, q, k, p', rfl⟩
/-- the names of a target -/
noncomputable def tgts (e : Expr) : Option (List Str) := match nameOf e with
  | some x => some [x]
  | none => (pairOf e).bind fun p => if p.1 == p.2 then none else some [p.1, p.2]
noncomputable def slots (Γ : List Str) : List Str → Option (List Nat)
  | [] => some []
  | x :: r => match slot Γ x, slots Γ r with | some i, some is => some (i :: is) | _, _ => none

noncomputable def cConst : Const → Option X
  | .none => some .none
  | .bool b => some (.bool b)
  | .int i => some (.int i)
  | .str s => some (.str s)
  | _ => none
noncomputable def cName (D : Tabs) (sc : Scope) (Γ : List Str) (x : Str) : Option X :=
  if x == ("__debug__" : Str) || x == ("__classdict__" : Str) then none
    else if isVar sc x then (slot Γ x).map .var
    else if isGlob sc x then (match D.consts.lookup x with | some i => some (.int i) | none => some (.glob x)) else none
noncomputable def cUn (op : PySem.UnaryOp) (x : Option X) : Option X := match op with
  | .USub => x.map (.un .neg)
  | .Not => x.map .not
  | _ => none
noncomputable def cBool (op : PySem.BoolOp) (v a o : Option X) : Option X := match op with
  | .And => opt2 v a fun x y => some (.and x y)
  | .Or => opt2 v o fun x y => some (.or x y)
noncomputable def zipOf : X → Option (X × X)
  | .bin o a b => if o = .zip then some (a, b) else none
  | _ => none
theorem zipOf_eq {x a b : X} (h : zipOf x = some (a, b)) : x = .bin .zip a b := by
  cases x with
  | bin o a b => obtain ⟨rfl, h⟩ := ite_some h; cases h; rfl
  | _ => exact none_ne h
noncomputable def cComp (D : Tabs) (sc : Scope) (Γ : List Str) (_elt tg _iter : Expr) (ifs : List Expr) (csc : Scope) (it : Option X) (ez ci ei : List Str → Option X) : Option X := opt2 (tgts tg) it fun xs ix =>
  if okComp sc csc && okOwn csc Γ xs && xs.all (isOwn csc) then match zipOf ix with
    | some p => if D.zips && xs.length == 2 && ifs.isEmpty then (ez xs).map fun e => .zcomp e p.1 p.2 else none
    | none => if xs.length == 1 && okIt (itOf ix).1 xs.length then opt2 (ci xs) (ei xs) fun c e => some (.comp e xs.length (itOf ix).1 (itOf ix).2.1 (itOf ix).2.2 c) else none
  else none
theorem cComp_cases {D : Tabs} {sc : Scope} {Γ : List Str} {elt tg iter : Expr} {ifs : List Expr} {csc : Scope} {it : Option X} {ez ci ei : List Str → Option X} {x : X} (h : cComp D sc Γ elt tg iter ifs csc it ez ci ei = some x) :
    ∃ xs, tgts tg = some xs ∧ (okComp sc csc = true ∧ okOwn csc Γ xs = true ∧ ∀ z ∈ xs, isOwn csc z = true) ∧
      ((∃ a b e, it = some (.bin .zip a b) ∧ D.zips = true ∧ xs.length = 2 ∧ ifs = [] ∧ ez xs = some e ∧ True ∧ x = .zcomp e a b) ∨
      ∃ ix c e, it = some ix ∧ xs.length = 1 ∧ okIt (itOf ix).1 xs.length = true ∧ ci xs = some c ∧ ei xs = some e ∧ x = .comp e xs.length (itOf ix).1 (itOf ix).2.1 (itOf ix).2.2 c) := by
  obtain ⟨xs, ix, h1, h2, h⟩ := opt2_some h
  obtain ⟨hc, h⟩ := if_some h
  simp only [Bool.and_eq_true, List.all_eq_true] at hc
  refine ⟨xs, h1, ⟨hc.1.1, hc.1.2, hc.2⟩, ?_⟩
  cases hz : zipOf ix with
  | some p =>
    rw [hz] at h
    obtain ⟨hd, h⟩ := if_some h
    simp only [Bool.and_eq_true, beq_iff_eq, List.isEmpty_iff] at hd
    obtain ⟨e, q1, q2⟩ := Option.map_eq_some_iff.mp h
    exact .inl ⟨p.1, p.2, e, by rw [h2, zipOf_eq hz], hd.1.1, hd.1.2, hd.2, q1, trivial, q2.symm⟩
  | none =>
    rw [hz] at h
    obtain ⟨hd, h⟩ := if_some h
    simp only [Bool.and_eq_true, beq_iff_eq] at hd
    obtain ⟨c, e, q1, q2, q3⟩ := opt2_some h
    exact .inr ⟨ix, c, e, h2, hd.1, hd.2, q1, q2, (Option.some.inj q3).symm⟩
noncomputable def cCmp (ops : List CmpOp) (l : Option X) (rs : Option (List X)) : Option X := opt2 l rs fun a bs => match one? ops with
  | some op => (one? bs).bind fun b => some (.bin (cmpOf op) a b)
  | none => opt2 (two? ops) (two? bs) fun o p => some (.chain (cmpOf o.1) (cmpOf o.2) a p.1 p.2)
mutual
noncomputable def cE (D : Tabs) (sc : Scope) (Γ : List Str) : Expr → Option X
  | .Constant c _ _ => cConst c
  | .Name x _ => cName D sc Γ x
  | .BinOp l op r _ => opt3 (opOf op) (cE D sc Γ l) (cE D sc Γ r) fun o a b => some (.bin o a b)
  | .UnaryOp op e _ => cUn op (cE D sc Γ e)
  | .BoolOp op vs _ => match vs with
    | v :: vs => cBool op (cE D sc Γ v) (cAnd D sc Γ vs) (cOr D sc Γ vs)
    | [] => none
  | .IfExp t a b _ => opt3 (cE D sc Γ t) (cE D sc Γ a) (cE D sc Γ b) fun t a b => some (.ite t a b)
  | .Compare l ops rs _ => cCmp ops (cE D sc Γ l) (cEs D sc Γ rs)
  | .List es _ => if es.length ≤ 1000 then (cEs D sc Γ es).map .list else none
  | .Tuple es _ _ => if es.length ≤ 1000 then (cEs D sc Γ es).map .tup else none
  | .Subscript e i _ => match i with
    | .Slice lo hi st _ => match st with
      | none => opt3 (cE D sc Γ e) (cO D sc Γ lo) (cO D sc Γ hi) fun a l h => some (.slice a l h)
      | some _ => none
    | i => opt2 (cE D sc Γ e) (cE D sc Γ i) fun a b => some (.bin .item a b)
  | .Call f args kw _ => match kw with
    | [] => (nameOf f).bind fun f => if !(f == ("__debug__" : Str)) && isGlob sc f then (cEs D sc Γ args).bind fun as => mkCall D f as else none
    | _ :: _ => none
  | .ListComp elt gens csc _ => match gens with
    | [] => none
    | ⟨tg, iter, ifs, as⟩ :: r => match r with
      | [] => if as == 0 then cComp D sc Γ elt tg iter ifs csc (cE D sc Γ iter) (fun xs => cE D csc xs.reverse elt) (fun xs => cIf D csc (xs.reverse ++ Γ) ifs) (fun xs => cE D csc (xs.reverse ++ Γ) elt) else none
      | _ :: _ => none
  | _ => none
noncomputable def cO (D : Tabs) (sc : Scope) (Γ : List Str) : Option Expr → Option X
  | none => some .none
  | some e => cE D sc Γ e
noncomputable def cIf (D : Tabs) (sc : Scope) (Γ : List Str) : List Expr → Option X
  | [] => some (.bool true)
  | [e] => cE D sc Γ e
  | _ => none
noncomputable def cEs (D : Tabs) (sc : Scope) (Γ : List Str) : List Expr → Option (List X)
  | [] => some []
  | e :: r => opt2 (cE D sc Γ e) (cEs D sc Γ r) fun a as => some (a :: as)
noncomputable def cAnd (D : Tabs) (sc : Scope) (Γ : List Str) : List Expr → Option X
  | [] => none
  | [e] => cE D sc Γ e
  | e :: r => opt2 (cE D sc Γ e) (cAnd D sc Γ r) fun a b => some (.and a b)
noncomputable def cOr (D : Tabs) (sc : Scope) (Γ : List Str) : List Expr → Option X
  | [] => none
  | [e] => cE D sc Γ e
  | e :: r => opt2 (cE D sc Γ e) (cOr D sc Γ r) fun a b => some (.or a b)
end

section
variable {D : Tabs} {sc : Scope} {Γ : List Str}
theorem cEs_nil : cEs D sc Γ [] = some [] := rfl
theorem cEs_two {e : Expr} {r : List Expr} : cEs D sc Γ (e :: r) = opt2 (cE D sc Γ e) (cEs D sc Γ r) fun a as => some (a :: as) := rfl
theorem cO_none : cO D sc Γ none = some .none := rfl
theorem cIf_nil : cIf D sc Γ [] = some (.bool true) := rfl
theorem cIf_one {e : Expr} : cIf D sc Γ [e] = cE D sc Γ e := rfl
theorem cIf_two {e e' : Expr} {r : List Expr} : cIf D sc Γ (e :: e' :: r) = none := rfl
theorem cAnd_nil : cAnd D sc Γ [] = none := rfl
theorem cAnd_one {e : Expr} : cAnd D sc Γ [e] = cE D sc Γ e := rfl
theorem cAnd_two {e e' : Expr} {r : List Expr} : cAnd D sc Γ (e :: e' :: r) = opt2 (cE D sc Γ e) (cAnd D sc Γ (e' :: r)) fun a b => some (.and a b) := rfl
theorem cOr_nil : cOr D sc Γ [] = none := rfl
theorem cOr_one {e : Expr} : cOr D sc Γ [e] = cE D sc Γ e := rfl
theorem cOr_two {e e' : Expr} {r : List Expr} : cOr D sc Γ (e :: e' :: r) = opt2 (cE D sc Γ e) (cOr D sc Γ (e' :: r)) fun a b => some (.or a b) := rfl
end

noncomputable def plainBase (e : Expr) : Bool := (nameOf e).isSome || (subOf e).isSome

/-- no pair of locals is told by a written pair (the stores would be exchanged) -/
noncomputable def plainPair (sc : Scope) (x y : Str) (e : Expr) : Bool := (tupOf e).isNone || !(sc.names.lookup x == some .local) || !(sc.names.lookup y == some .local)

noncomputable def cAssign (D : Tabs) (sc : Scope) (Γ : List Str) (tgs : List Expr) (v : Expr) : Option S := (one? tgs).bind fun t => match nameOf t with
  | some x => if isOwn sc x then opt2 (slot Γ x) (cE D sc Γ v) fun i e => some (.assign i e) else none
  | none => match subOf t with
    | some oi => opt3 (cE D sc Γ v) (cE D sc Γ oi.1) (cE D sc Γ oi.2) fun e a j => some (.setItem a j e)
    | none => (pairOf t).bind fun p => if isOwn sc p.1 && isOwn sc p.2 && !(p.1 == p.2) && plainPair sc p.1 p.2 v then
        opt3 (slot Γ p.1) (slot Γ p.2) (cE D sc Γ v) fun i j e => some (.unpack [i, j] e) else none
noncomputable def cExpr (D : Tabs) (sc : Scope) (Γ : List Str) (e : Expr) : Option S := (callOf e).bind fun c => match attrOf c.1 with
  | some a => (one? c.2.1).bind fun g => if a.2.1 == ("append" : Str) && a.2.2.endLine == c.2.2.line && plainBase a.1 then opt2 (cE D sc Γ a.1) (cE D sc Γ g) fun a e => some (.append a e) else none
  | none => (nameOf c.1).bind fun _ => (cE D sc Γ e).map .expr
mutual
noncomputable def cS (D : Tabs) (sc : Scope) (Γ : List Str) : Stmt → Option S
  | .Assign tgs v _ => cAssign D sc Γ tgs v
  | .Expr e _ => cExpr D sc Γ e
  | .If t b c _ => opt3 (cE D sc Γ t) (cSs D sc Γ b) (cSs D sc Γ c) fun t b c => some (.ite t b c)
  | .While t b el _ => match el with
    | [] => opt2 (cE D sc Γ t) (cSs D sc Γ b) fun t b => some (.loop t b)
    | _ :: _ => none
  | .For tg iter b el _ => match el with
    | [] => opt3 (tgts tg) (cE D sc Γ iter) (cSs D sc Γ b) fun xs ix b => if xs.all (isOwn sc) && okIt (itOf ix).1 xs.length then (slots Γ xs).bind fun is => some (.each is (itOf ix).1 (itOf ix).2.1 (itOf ix).2.2 b) else none
    | _ :: _ => none
  | .Return e _ => e.bind fun e => (cE D sc Γ e).map .ret
  | .Raise _ _ _ => some .raise
  | _ => none
noncomputable def cSs (D : Tabs) (sc : Scope) (Γ : List Str) : List Stmt → Option (List S)
  | [] => some []
  | s :: r => opt2 (cS D sc Γ s) (cSs D sc Γ r) fun a as => some (a :: as)
end

theorem cSs_nil {D : Tabs} {sc : Scope} {Γ : List Str} : cSs D sc Γ [] = some [] := rfl
theorem cSs_two {D : Tabs} {sc : Scope} {Γ : List Str} {e : Stmt} {r : List Stmt} : cSs D sc Γ (e :: r) = opt2 (cS D sc Γ e) (cSs D sc Γ r) fun a as => some (a :: as) := rfl

/-- the names of a def's own, the newest first -/
noncomputable def ownNames (sc : Scope) : List Str := ((sc.names.filter fun p => p.2 == .local || p.2 == .cell).map (·.1)).reverse
noncomputable def cFn (D : Tabs) (sc : Scope) (params : List Str) (body : List Stmt) : Option Fn :=
  if okScope sc && !sc.isGenerator && !sc.isCoroutine && (ownNames sc).reverse.take params.length == params && sc.names.all (fun p => p.2 != .free) && decide (ownNames sc).Nodup then
    (cSs D sc (ownNames sc) body).map fun b => ⟨params.length, (ownNames sc).length, b⟩
  else none
/-- a compiled comprehension -/
theorem inv_comp {D : Tabs} {sc : Scope} {Γ : List Str} {elt : Expr} {gens : List Comprehension} {csc : Scope} {p : Pos} {x : X} (h : cE D sc Γ (.ListComp elt gens csc p) = some x) :
    ∃ tg iter ifs, gens = [⟨tg, iter, ifs, 0⟩] ∧ cComp D sc Γ elt tg iter ifs csc (cE D sc Γ iter) (fun xs => cE D csc xs.reverse elt) (fun xs => cIf D csc (xs.reverse ++ Γ) ifs) (fun xs => cE D csc (xs.reverse ++ Γ) elt) = some x := by
  cases gens with
  | nil => exact none_ne h
  | cons g r =>
    obtain ⟨tg, iter, ifs, as⟩ := g
    cases r with
    | nil =>
      obtain ⟨q, h⟩ := if_some (show (if (as == 0) = true then cComp D sc Γ elt tg iter ifs csc (cE D sc Γ iter) (fun xs => cE D csc xs.reverse elt) (fun xs => cIf D csc (xs.reverse ++ Γ) ifs) (fun xs => cE D csc (xs.reverse ++ Γ) elt) else none) = some x from h)
      cases eq_of_beq q
      exact ⟨tg, iter, ifs, rfl, h⟩
    | cons _ _ => exact none_ne h
section
variable {D : Tabs} {sc : Scope} {Γ : List Str}
/-- the cases of a compiled tree -/
theorem cE_elim {M : Expr → X → Prop} (h1 : ∀ c k p x, cConst c = some x → M (.Constant c k p) x) (h2 : ∀ y p x, cName D sc Γ y = some x → M (.Name y p) x)
    (h3 : ∀ l op r p o a b, opOf op = some o → cE D sc Γ l = some a → cE D sc Γ r = some b → M (.BinOp l op r p) (.bin o a b))
    (h4 : ∀ op e p x, cUn op (cE D sc Γ e) = some x → M (.UnaryOp op e p) x) (h5 : ∀ op v vs p x, cBool op (cE D sc Γ v) (cAnd D sc Γ vs) (cOr D sc Γ vs) = some x → M (.BoolOp op (v :: vs) p) x)
    (h6 : ∀ t a b p t' a' b', cE D sc Γ t = some t' → cE D sc Γ a = some a' → cE D sc Γ b = some b' → M (.IfExp t a b p) (.ite t' a' b'))
    (h7 : ∀ l ops rs p x, cCmp ops (cE D sc Γ l) (cEs D sc Γ rs) = some x → M (.Compare l ops rs p) x)
    (h8 : ∀ es p xs, es.length ≤ 1000 → cEs D sc Γ es = some xs → M (.List es p) (.list xs)) (h9 : ∀ es k p xs, es.length ≤ 1000 → cEs D sc Γ es = some xs → M (.Tuple es k p) (.tup xs))
    (h10 : ∀ e lo hi q p a l h, cE D sc Γ e = some a → cO D sc Γ lo = some l → cO D sc Γ hi = some h → M (.Subscript e (.Slice lo hi none q) p) (.slice a l h))
    (h11 : ∀ e i p a b, (∀ lo hi q, i ≠ .Slice lo hi none q) → cE D sc Γ e = some a → cE D sc Γ i = some b → M (.Subscript e i p) (.bin .item a b))
    (h12 : ∀ f p args pos as x, (f == ("__debug__" : Str)) = false → isGlob sc f = true → cEs D sc Γ args = some as → mkCall D f as = some x → M (.Call (.Name f p) args [] pos) x)
    (h13 : ∀ elt tg iter ifs csc p x, cComp D sc Γ elt tg iter ifs csc (cE D sc Γ iter) (fun xs => cE D csc xs.reverse elt) (fun xs => cIf D csc (xs.reverse ++ Γ) ifs) (fun xs => cE D csc (xs.reverse ++ Γ) elt) = some x → M (.ListComp elt [⟨tg, iter, ifs, 0⟩] csc p) x) :
    ∀ e x, cE D sc Γ e = some x → M e x := fun e x h => by
  cases e with
  | Constant c k p => exact h1 _ _ _ _ h
  | Name y p => exact h2 _ _ _ h
  | BinOp l op r p => obtain ⟨_, _, _, q1, q2, q3, q4⟩ := opt3_some (show opt3 (opOf op) (cE D sc Γ l) (cE D sc Γ r) (fun o a b => some (.bin o a b)) = some x from h); cases q4; exact h3 _ _ _ _ _ _ _ q1 q2 q3
  | UnaryOp op e p => exact h4 _ _ _ _ h
  | BoolOp op vs p => cases vs with
    | nil => exact none_ne h
    | cons v vs => exact h5 _ _ _ _ _ h
  | IfExp t a b p => obtain ⟨_, _, _, q1, q2, q3, q4⟩ := opt3_some (show opt3 (cE D sc Γ t) (cE D sc Γ a) (cE D sc Γ b) (fun t a b => some (.ite t a b)) = some x from h); cases q4; exact h6 _ _ _ _ _ _ _ q1 q2 q3
  | Compare l ops rs p => exact h7 _ _ _ _ _ h
  | List es p =>
    obtain ⟨hz, h⟩ := ite_some (show (if es.length ≤ 1000 then (cEs D sc Γ es).map X.list else none) = some x from h)
    obtain ⟨xs, hxs, rfl⟩ := Option.map_eq_some_iff.mp h
    exact h8 _ _ _ hz hxs
  | Tuple es k p =>
    obtain ⟨hz, h⟩ := ite_some (show (if es.length ≤ 1000 then (cEs D sc Γ es).map X.tup else none) = some x from h)
    obtain ⟨xs, hxs, rfl⟩ := Option.map_eq_some_iff.mp h
    exact h9 _ _ _ _ hz hxs
  | Subscript e i p =>
    have item : (∀ lo hi st q, i ≠ .Slice lo hi st q) → opt2 (cE D sc Γ e) (cE D sc Γ i) (fun a b => some (.bin .item a b)) = some x → M (.Subscript e i p) x := fun hns h => by
      obtain ⟨_, _, q1, q2, q3⟩ := opt2_some h; cases q3; exact h11 _ _ _ _ _ (fun lo hi q e => hns lo hi none q e) q1 q2
    cases i with
    | Slice lo hi st q => cases st with
      | none => obtain ⟨_, _, _, q1, q2, q3, q4⟩ := opt3_some (show opt3 (cE D sc Γ e) (cO D sc Γ lo) (cO D sc Γ hi) (fun a l h => some (.slice a l h)) = some x from h); cases q4; exact h10 _ _ _ _ _ _ _ _ q1 q2 q3
      | some _ => exact none_ne h
    | _ => exact item (fun _ _ _ _ => Expr.noConfusion) h
  | Call f args kw p => cases kw with
    | cons _ _ => exact none_ne h
    | nil =>
      obtain ⟨f, hf, h⟩ := Option.bind_eq_some_iff.mp (show ((nameOf f).bind fun f => if !(f == ("__debug__" : Str)) && isGlob sc f then (cEs D sc Γ args).bind fun as => mkCall D f as else none) = some x from h)
      obtain ⟨p, rfl⟩ := nameOf_eq hf
      obtain ⟨hn, h⟩ := if_some h
      obtain ⟨as, has, h⟩ := Option.bind_eq_some_iff.mp h
      simp only [Bool.and_eq_true, Bool.not_eq_true'] at hn
      exact h12 _ _ _ _ _ _ hn.1 hn.2 has h
  | ListComp elt gens csc p =>
    obtain ⟨tg, iter, ifs, rfl, q⟩ := inv_comp h
    exact h13 _ _ _ _ _ _ _ q
  | _ => exact none_ne h
end
theorem cEs_cons {D : Tabs} {sc : Scope} {Γ : List Str} {e : Expr} {r : List Expr} {xs : List X} (h : cEs D sc Γ (e :: r) = some xs) : ∃ a as, cE D sc Γ e = some a ∧ cEs D sc Γ r = some as ∧ xs = a :: as := by
  rw [cEs_two] at h
  obtain ⟨a, as, h1, h2, h3⟩ := opt2_some h
  cases h3
  exact ⟨a, as, h1, h2, rfl⟩
theorem cSs_cons {D : Tabs} {sc : Scope} {Γ : List Str} {e : Stmt} {r : List Stmt} {xs : List S} (h : cSs D sc Γ (e :: r) = some xs) : ∃ a as, cS D sc Γ e = some a ∧ cSs D sc Γ r = some as ∧ xs = a :: as := by
  rw [cSs_two] at h
  obtain ⟨a, as, h1, h2, h3⟩ := opt2_some h
  cases h3
  exact ⟨a, as, h1, h2, rfl⟩
/-- the cases of a compiled statement -/
theorem cS_elim {D : Tabs} {sc : Scope} {Γ : List Str} {M : Stmt → S → Prop} (h1 : ∀ tgs v p x, cAssign D sc Γ tgs v = some x → M (.Assign tgs v p) x) (h2 : ∀ e p x, cExpr D sc Γ e = some x → M (.Expr e p) x)
    (h3 : ∀ t b c p t' b' c', cE D sc Γ t = some t' → cSs D sc Γ b = some b' → cSs D sc Γ c = some c' → M (.If t b c p) (.ite t' b' c'))
    (h4 : ∀ t b p t' b', cE D sc Γ t = some t' → cSs D sc Γ b = some b' → M (.While t b [] p) (.loop t' b'))
    (h5 : ∀ tg iter b p xs ix b' is, tgts tg = some xs → cE D sc Γ iter = some ix → cSs D sc Γ b = some b' → (xs.all (isOwn sc) && okIt (itOf ix).1 xs.length) = true → slots Γ xs = some is → M (.For tg iter b [] p) (.each is (itOf ix).1 (itOf ix).2.1 (itOf ix).2.2 b'))
    (h6 : ∀ e p e', cE D sc Γ e = some e' → M (.Return (some e) p) (.ret e')) (h7 : ∀ a b p, M (.Raise a b p) .raise) :
    ∀ s x, cS D sc Γ s = some x → M s x := fun s x h => by
  cases s with
  | Assign tgs v p => exact h1 _ _ _ _ h
  | Expr e p => exact h2 _ _ _ h
  | If t b c p => obtain ⟨_, _, _, q1, q2, q3, q4⟩ := opt3_some (show opt3 (cE D sc Γ t) (cSs D sc Γ b) (cSs D sc Γ c) (fun t b c => some (.ite t b c)) = some x from h); cases q4; exact h3 _ _ _ _ _ _ _ q1 q2 q3
  | While t b el p => cases el with
    | nil => obtain ⟨_, _, q1, q2, q3⟩ := opt2_some (show opt2 (cE D sc Γ t) (cSs D sc Γ b) (fun t b => some (.loop t b)) = some x from h); cases q3; exact h4 _ _ _ _ _ q1 q2
    | cons _ _ => exact none_ne h
  | For tg iter b el p => cases el with
    | nil =>
      obtain ⟨_, _, _, q1, q2, q3, q4⟩ := opt3_some (show opt3 (tgts tg) (cE D sc Γ iter) (cSs D sc Γ b) (fun xs ix b => if xs.all (isOwn sc) && okIt (itOf ix).1 xs.length then (slots Γ xs).bind fun is => some (.each is (itOf ix).1 (itOf ix).2.1 (itOf ix).2.2 b) else none) = some x from h)
      obtain ⟨q5, q6⟩ := if_some q4
      obtain ⟨is, q7, q8⟩ := Option.bind_eq_some_iff.mp q6
      cases q8
      exact h5 _ _ _ _ _ _ _ _ q1 q2 q3 q5 q7
    | cons _ _ => exact none_ne h
  | Return e p => cases e with
    | none => exact none_ne h
    | some e =>
      obtain ⟨e', q1, rfl⟩ := Option.map_eq_some_iff.mp (show (cE D sc Γ e).map S.ret = some x from h)
      exact h6 _ _ _ q1
  | Raise a b p => cases (show some S.raise = some x from h); exact h7 _ _ _
  | _ => exact none_ne h
theorem Vz {α : Type} {l l' : List α} (p : l <+: l') {k : Nat} {a : α} (e : l[k]? = some a) : l'[k]? = some a := by
  obtain ⟨t, rfl⟩ := p
  have hk : k < l.length := by
    rcases Nat.lt_or_ge k l.length with q | q
    · exact q
    · rw [List.getElem?_eq_none q] at e; cases e
  rw [List.getElem?_append_left hk]; exact e
end Mine

open PySem
namespace Mine

/-! ## how the machine's heap bears the abstract values -/
mutual
noncomputable def Rep (base : Heap) (φ : List Addr) (h : Heap) : V → Value → Prop
  | .none, v => v = .none
  | .bool b, v => v = .bool b
  | .int i, v => ∃ t, v = .int i t
  | .str s, v => ∃ t, v = .str s t
  | .ref k, v => ∃ a, v = .ref a ∧ φ[k]? = some a
  | .tup xs, v => ∃ a vs, v = .ref a ∧ h.IsTuple a vs.toArray ∧ RepL base φ h xs vs ∧ xs.length ≤ room
  | .frz xs, v => ∃ a vs, v = .ref a ∧ base.IsList a vs.toArray ∧ PyProof.Rows.IntsAre vs xs ∧ xs.length ≤ room
noncomputable def RepL (base : Heap) (φ : List Addr) (h : Heap) : List V → List Value → Prop
  | [], vs => vs = []
  | x :: xs, vs => ∃ v r, vs = v :: r ∧ Rep base φ h x v ∧ RepL base φ h xs r
end

noncomputable def TupObj (o : Obj) : Prop := o.cls = .type "tuple" ∧ ∃ vs n, o.data = .seq vs n

section
variable {base : Heap} {φ φ' : List Addr} {h h' : Heap}


mutual
theorem Rep.mono (hφ : φ <+: φ') (ht : ∀ a o, h.get? a = some o → TupObj o → h'.get? a = some o) :
    ∀ (x : V) (v : Value), Rep base φ h x v → Rep base φ' h' x v
  | .none, _, r => r
  | .bool _, _, r => r
  | .int _, _, r => r
  | .str _, _, r => r
  | .ref _, _, ⟨a, e, k⟩ => ⟨a, e, Vz hφ k⟩
  | .tup xs, _, ⟨a, vs, e, ⟨o, ho, hc, n, hd⟩, r, z⟩ => ⟨a, vs, e, ⟨o, ht a o ho ⟨hc, _, n, hd⟩, hc, n, hd⟩, RepL.mono hφ ht xs vs r, z⟩
  | .frz _, _, r => r
theorem RepL.mono (hφ : φ <+: φ') (ht : ∀ a o, h.get? a = some o → TupObj o → h'.get? a = some o) :
    ∀ (xs : List V) (vs : List Value), RepL base φ h xs vs → RepL base φ' h' xs vs
  | [], _, r => r
  | x :: xs, _, ⟨v, r, e, hv, hr⟩ => ⟨v, r, e, Rep.mono hφ ht x v hv, RepL.mono hφ ht xs r hr⟩
end

theorem RepL.length : ∀ {xs : List V} {vs : List Value}, RepL base φ h xs vs → vs.length = xs.length
  | [], _, r => by rw [show _ = [] from r]; rfl
  | _ :: _, _, ⟨_, _, e, _, hr⟩ => by rw [e, List.length_cons, List.length_cons, RepL.length hr]

theorem RepL.get : ∀ {xs : List V} {vs : List Value}, RepL base φ h xs vs → ∀ {i : Nat} {x : V}, xs[i]? = some x → ∃ v, vs[i]? = some v ∧ Rep base φ h x v
  | [], _, _, _, _, e => by simp at e
  | _ :: _, _, ⟨v, r, e, hv, hr⟩, 0, x, q => by
    simp only [List.getElem?_cons_zero, Option.some.injEq] at q
    subst q; subst e; exact ⟨v, rfl, hv⟩
  | _ :: _, _, ⟨v, r, e, hv, hr⟩, i + 1, x, q => by
    simp only [List.getElem?_cons_succ] at q
    subst e
    obtain ⟨w, hw, rw⟩ := RepL.get hr q
    exact ⟨w, by simpa using hw, rw⟩

theorem RepL.append : ∀ {xs ys : List V} {vs ws : List Value}, RepL base φ h xs vs → RepL base φ h ys ws → RepL base φ h (xs ++ ys) (vs ++ ws)
  | [], _, _, _, r, r' => by rw [show _ = [] from r]; exact r'
  | _ :: _, _, _, _, ⟨v, r, e, hv, hr⟩, r' => by subst e; exact ⟨v, _, rfl, hv, RepL.append hr r'⟩

theorem RepL.set : ∀ {xs : List V} {vs : List Value}, RepL base φ h xs vs → ∀ {i : Nat} {x : V} {v : Value}, Rep base φ h x v → RepL base φ h (xs.set i x) (vs.set i v)
  | [], _, r, _, _, _, _ => by rw [show _ = [] from r]; rfl
  | _ :: _, _, ⟨v, r, e, hv, hr⟩, 0, x, w, hw => by subst e; exact ⟨w, r, rfl, hw, hr⟩
  | _ :: _, _, ⟨v, r, e, hv, hr⟩, i + 1, x, w, hw => by subst e; exact ⟨v, _, rfl, hv, RepL.set hr hw⟩

theorem RepL.take : ∀ (n : Nat) {xs : List V} {vs : List Value}, RepL base φ h xs vs → RepL base φ h (xs.take n) (vs.take n)
  | 0, _, _, _ => by simp [RepL]
  | n + 1, [], _, r => by rw [show _ = [] from r]; rfl
  | n + 1, _ :: _, _, ⟨v, r, e, hv, hr⟩ => by subst e; exact ⟨v, _, rfl, hv, RepL.take n hr⟩
theorem RepL.drop : ∀ (n : Nat) {xs : List V} {vs : List Value}, RepL base φ h xs vs → RepL base φ h (xs.drop n) (vs.drop n)
  | 0, _, _, r => by simpa using r
  | n + 1, [], _, r => by rw [show _ = [] from r]; rfl
  | n + 1, _ :: _, _, ⟨v, r, e, hv, hr⟩ => by subst e; simpa using RepL.drop n hr
theorem RepL.reverse : ∀ {xs : List V} {vs : List Value}, RepL base φ h xs vs → RepL base φ h xs.reverse vs.reverse
  | [], _, r => by rw [show _ = [] from r]; rfl
  | _ :: _, _, ⟨v, r, e, hv, hr⟩ => by
    subst e
    rw [List.reverse_cons, List.reverse_cons]
    exact RepL.append (RepL.reverse hr) ⟨v, [], rfl, hv, rfl⟩
theorem RepL.replicate {x : V} {v : Value} (r : Rep base φ h x v) : ∀ n : Nat, RepL base φ h (List.replicate n x) (List.replicate n v)
  | 0 => rfl
  | n + 1 => ⟨v, _, rfl, r, RepL.replicate r n⟩

theorem ints_areL : ∀ {xs : List V} {is : List Int} {vs : List Value}, zl? xs = some is → RepL base φ h xs vs → PyProof.Rows.IntsAre vs is
  | [], _, _, e, r => by
    simp only [zl?, Option.some.injEq] at e
    subst e; rw [show _ = [] from r]; exact .nil
  | .int i :: xs, is, _, e, ⟨v, r, hv, ⟨t, hi⟩, hr⟩ => by
    simp only [zl?, Option.map_eq_some_iff] at e
    obtain ⟨js, hjs, rfl⟩ := e
    subst hv; subst hi
    exact .cons _ _ (ints_areL hjs hr)
  | .none :: _, _, _, e, _ => by simp [zl?] at e
  | .bool _ :: _, _, _, e, _ => by simp [zl?] at e
  | .str _ :: _, _, _, e, _ => by simp [zl?] at e
  | .tup _ :: _, _, _, e, _ => by simp [zl?] at e
  | .ref _ :: _, _, _, e, _ => by simp [zl?] at e
  | .frz _ :: _, _, _, e, _ => by simp [zl?] at e

theorem ints_repL : ∀ {is : List Int} {vs : List Value}, PyProof.Rows.IntsAre vs is → RepL base φ h (zl is) vs
  | _, _, .nil => rfl
  | _, _, .cons _ _ r => ⟨_, _, rfl, ⟨_, rfl⟩, ints_repL r⟩
end

theorem nodup_get {α : Type} : ∀ {l : List α}, l.Nodup → ∀ {i j : Nat} {a : α}, l[i]? = some a → l[j]? = some a → i = j
  | [], _, _, _, _, e, _ => by simp at e
  | x :: r, N, 0, 0, _, _, _ => rfl
  | x :: r, N, 0, j + 1, a, e, e' => by
    simp only [List.getElem?_cons_zero, Option.some.injEq, List.getElem?_cons_succ] at e e'
    subst e; exact absurd (List.mem_of_getElem? e') (List.nodup_cons.mp N).1
  | x :: r, N, i + 1, 0, a, e, e' => by
    simp only [List.getElem?_cons_zero, Option.some.injEq, List.getElem?_cons_succ] at e e'
    subst e'; exact absurd (List.mem_of_getElem? e) (List.nodup_cons.mp N).1
  | x :: r, N, i + 1, j + 1, a, e, e' => by
    simp only [List.getElem?_cons_succ] at e e'
    rw [nodup_get (List.nodup_cons.mp N).2 e e']

/-! ## the relation -/
structure Rel (base : Heap) (φ : List Addr) (H : Hp) (h : Heap) : Prop where
  keep : ∀ a o, base.get? a = some o → h.get? a = some o
  len : φ.length = H.length
  nodup : φ.Nodup
  fresh : ∀ a ∈ φ, base.get? a = none
  small : ∀ xs ∈ H, xs.length ≤ room
  lists : ∀ (k : Nat) (a : Addr), φ[k]? = some a → ∃ vs n xs, h.get? a = some ⟨.type "list", none, .seq vs.toArray n, #[]⟩ ∧ H[k]? = some xs ∧ RepL base φ h xs vs

/-- from a state to a later one: the lists φ and what is `own` may turn, all else stays -/
structure Step (own φ φ' : List Addr) (s s' : Shared) : Prop where
  pre : φ <+: φ'
  new : ∀ a ∈ φ', a ∉ φ → s.heap.get? a = none
  evo : ∀ a o, s.heap.get? a = some o → a ∉ φ → a ∉ own → s'.heap.get? a = some o
  live : ∀ a, (s.heap.get? a).isSome → (s'.heap.get? a).isSome
  same : ∃ h tk, s' = { s with heap := h, toks := tk }

theorem Step.refl (own φ : List Addr) (s : Shared) : Step own φ φ s s :=
  ⟨List.prefix_refl _, fun _ h h' => absurd h h', fun _ _ e _ _ => e, fun _ e => e, ⟨s.heap, s.toks, rfl⟩⟩

theorem Step.trans {own φ φ' φ'' : List Addr} {s s' s'' : Shared} (x : Step own φ φ' s s') (y : Step own φ' φ'' s' s'') : Step own φ φ'' s s'' := by
  have old : ∀ a ∈ φ'', a ∉ φ → s.heap.get? a = none := fun a ha hn => by
    by_cases h' : a ∈ φ'
    · exact x.new a h' hn
    · cases q : s.heap.get? a with
      | none => rfl
      | some o =>
        have := x.live a (by rw [q]; rfl)
        rw [y.new a ha h'] at this; cases this
  refine ⟨x.pre.trans y.pre, old, fun a o e hn ho => ?_, fun a e => y.live a (x.live a e), ?_⟩
  · refine y.evo a o (x.evo a o e hn ho) (fun q => ?_) ho
    have := x.new a q hn
    rw [e] at this; cases this
  · obtain ⟨h, t, e⟩ := x.same
    obtain ⟨h', t', e'⟩ := y.same
    exact ⟨h', t', by rw [e', e]⟩

theorem Step.weaken {own own' φ φ' : List Addr} {s s' : Shared} (x : Step own φ φ' s s') (h : ∀ a ∈ own, a ∈ own') : Step own' φ φ' s s' :=
  ⟨x.pre, x.new, fun a o e h1 h2 => x.evo a o e h1 fun q => h2 (h a q), x.live, x.same⟩

/-- nothing but new things -/
theorem Step.grow {own φ : List Addr} {s : Shared} {h : Heap} {tk : Nat} (hk : ∀ a o, s.heap.get? a = some o → h.get? a = some o) : Step own φ φ s { s with heap := h, toks := tk } :=
  ⟨List.prefix_refl _, fun _ h h' => absurd h h', fun a o e _ _ => hk a o e, fun a e => by
    obtain ⟨o, ho⟩ := Option.isSome_iff_exists.mp e
    rw [show ({ s with heap := h, toks := tk } : Shared).heap.get? a = some o from hk a o ho]; rfl, ⟨h, tk, rfl⟩⟩

/-- a new list -/
theorem Step.alloc {own φ : List Addr} {s : Shared} {h : Heap} {tk : Nat} {a : Addr} (hk : ∀ a o, s.heap.get? a = some o → h.get? a = some o) (hn : s.heap.get? a = none) : Step own φ (φ ++ [a]) s { s with heap := h, toks := tk } :=
  ⟨List.prefix_append _ _, fun b hb hb' => by
    rcases List.mem_append.mp hb with q | q
    · exact absurd q hb'
    · simp only [List.mem_singleton] at q; rw [q]; exact hn, (Step.grow (own := own) (φ := φ) (tk := tk) hk).evo, (Step.grow (own := own) (φ := φ) (tk := tk) hk).live, ⟨h, tk, rfl⟩⟩

/-- one of the lists turned -/
theorem Step.turn {own φ : List Addr} {s : Shared} {h : Heap} {tk : Nat} {a : Addr} (ha : a ∈ φ) (hs : (h.get? a).isSome) (hk : ∀ b o, b ≠ a → s.heap.get? b = some o → h.get? b = some o) : Step own φ φ s { s with heap := h, toks := tk } :=
  ⟨List.prefix_refl _, fun _ h h' => absurd h h', fun b o e hb _ => hk b o (fun q => hb (q ▸ ha)) e, fun b e => by
    by_cases q : b = a
    · rw [q]; exact hs
    · obtain ⟨o, ho⟩ := Option.isSome_iff_exists.mp e
      rw [show ({ s with heap := h, toks := tk } : Shared).heap.get? b = some o from hk b o q ho]; rfl, ⟨h, tk, rfl⟩⟩

section
variable {base : Heap} {φ φ' : List Addr} {H H' : Hp} {h h' h'' : Heap} {own : List Addr}

theorem Rel.list (R : Rel base φ H h) {k : Nat} {xs : List V} {v : Value} (hk : H[k]? = some xs) (hv : Rep base φ h (.ref k) v) :
    ∃ a vs n, v = .ref a ∧ φ[k]? = some a ∧ h.get? a = some ⟨.type "list", none, .seq vs.toArray n, #[]⟩ ∧ RepL base φ h xs vs := by
  obtain ⟨a, rfl, ha⟩ := hv
  obtain ⟨vs, n, ys, h1, h2, h3⟩ := R.lists k a ha
  rw [hk] at h2; cases h2
  exact ⟨a, vs, n, rfl, ha, h1, h3⟩

theorem Rel.mem_list (R : Rel base φ H h) {a : Addr} (ha : a ∈ φ) : ∃ vs n, h.get? a = some ⟨.type "list", none, .seq vs n, #[]⟩ := by
  obtain ⟨k, hk, e⟩ := List.getElem_of_mem ha
  obtain ⟨vs, n, _, q, _⟩ := R.lists k a (by rw [List.getElem?_eq_getElem hk, e])
  exact ⟨_, n, q⟩

/-- a tuple is no list -/
theorem Rel.tuple_not (R : Rel base φ H h) {a : Addr} {o : Obj} (ho : h.get? a = some o) (hc : TupObj o) : a ∉ φ := fun ha => by
  obtain ⟨_, _, q⟩ := R.mem_list ha
  rw [ho] at q; cases q
  simp [TupObj] at hc

theorem Rel.none_not (R : Rel base φ H h) {a : Addr} (ho : h.get? a = none) : a ∉ φ := fun ha => by
  obtain ⟨_, _, q⟩ := R.mem_list ha
  rw [ho] at q; cases q

/-- what is borne stays borne -/
theorem Rel.mono {s s' : Shared} (R : Rel base φ H s.heap) (st : Step [] φ φ' s s') {x : V} {v : Value} (r : Rep base φ s.heap x v) : Rep base φ' s'.heap x v :=
  Rep.mono st.pre (fun a o e c => st.evo a o e (R.tuple_not e c) (by simp)) x v r
theorem Rel.monoL {s s' : Shared} (R : Rel base φ H s.heap) (st : Step [] φ φ' s s') {xs : List V} {vs : List Value} (r : RepL base φ s.heap xs vs) : RepL base φ' s'.heap xs vs :=
  RepL.mono st.pre (fun a o e c => st.evo a o e (R.tuple_not e c) (by simp)) xs vs r

/-- nothing but new things: the lists stay too -/
theorem Rel.grow (R : Rel base φ H h) (hk : ∀ a o, h.get? a = some o → h'.get? a = some o) : Rel base φ H h' :=
  ⟨fun a o e => hk a o (R.keep a o e), R.len, R.nodup, R.fresh, R.small, fun k a e => by
    obtain ⟨vs, n, xs, h1, h2, h3⟩ := R.lists k a e
    exact ⟨vs, n, xs, hk _ _ h1, h2, RepL.mono (List.prefix_refl _) (fun a o e _ => hk a o e) xs vs h3⟩⟩

/-- a new list -/
theorem Rel.alloc (R : Rel base φ H h) (hk : ∀ a o, h.get? a = some o → h'.get? a = some o) {a : Addr} {vs : List Value} {n : Nat} {xs : List V}
    (hnew : h.get? a = none) (ha : h'.get? a = some ⟨.type "list", none, .seq vs.toArray n, #[]⟩) (hr : RepL base φ h xs vs) (hz : xs.length ≤ room) :
    Rel base (φ ++ [a]) (H ++ [xs]) h' ∧ Rep base (φ ++ [a]) h' (.ref H.length) (.ref a) := by
  have hna : a ∉ φ := R.none_not hnew
  have hp : φ <+: φ ++ [a] := List.prefix_append _ _
  have mono : ∀ {ys : List V} {ws : List Value}, RepL base φ h ys ws → RepL base (φ ++ [a]) h' ys ws := fun {ys ws} r => RepL.mono hp (fun a o e _ => hk a o e) ys ws r
  refine ⟨⟨fun b o e => hk b o (R.keep b o e), by simp [R.len], ?_, ?_, fun ys hy => ?_, fun k b e => ?_⟩, ⟨a, rfl, ?_⟩⟩
  · exact List.nodup_append.mpr ⟨R.nodup, by simp, fun x hx y hy => by
      simp only [List.mem_singleton] at hy; subst hy; intro q; exact hna (q ▸ hx)⟩
  · intro b hb
    rcases List.mem_append.mp hb with q | q
    · exact R.fresh b q
    · simp only [List.mem_singleton] at q; subst q
      cases hq : base.get? b with
      | none => rfl
      | some o => rw [R.keep b o hq] at hnew; cases hnew
  · rcases List.mem_append.mp hy with q | q
    · exact R.small ys q
    · simp only [List.mem_singleton] at q; rw [q]; exact hz
  · rcases Nat.lt_or_ge k φ.length with q | q
    · rw [List.getElem?_append_left q] at e
      obtain ⟨ws, m, ys, h1, h2, h3⟩ := R.lists k b e
      exact ⟨ws, m, ys, hk _ _ h1, by rw [List.getElem?_append_left (by have := R.len; lia)]; exact h2, mono h3⟩
    · rw [List.getElem?_append_right q] at e
      have hk0 : k = φ.length := by
        rcases Nat.lt_or_ge φ.length k with z | z
        · rw [List.getElem?_eq_none (by simp; lia)] at e; cases e
        · lia
      subst hk0
      simp only [Nat.sub_self, List.getElem?_cons_zero, Option.some.injEq] at e
      subst e
      refine ⟨vs, n, xs, ha, ?_, mono hr⟩
      rw [R.len, List.getElem?_append_right (Nat.le_refl _)]; simp
  · rw [← R.len, List.getElem?_append_right (Nat.le_refl _)]; simp

/-- a list turned -/
theorem Rel.turn (R : Rel base φ H h) {k : Nat} {a : Addr} {vs : List Value} {n : Nat} {xs : List V} (hk : φ[k]? = some a)
    (ha : h'.get? a = some ⟨.type "list", none, .seq vs.toArray n, #[]⟩) (hb : ∀ b o, b ≠ a → h.get? b = some o → h'.get? b = some o) (hr : RepL base φ h xs vs) (hz : xs.length ≤ room) :
    Rel base φ (H.set k xs) h' := by
  have hmem : a ∈ φ := List.mem_of_getElem? hk
  have mono : ∀ {ys : List V} {ws : List Value}, RepL base φ h ys ws → RepL base φ h' ys ws := fun {ys ws} r =>
    RepL.mono (List.prefix_refl _) (fun b o e c => hb b o (fun q => R.tuple_not e c (q ▸ hmem)) e) ys ws r
  refine ⟨fun b o e => hb b o (fun q => ?_) (R.keep b o e), by simp [R.len], R.nodup, R.fresh, fun ys hy => ?_, fun j b e => ?_⟩
  · have := R.fresh a hmem; rw [← q, e] at this; cases this
  · rcases List.mem_or_eq_of_mem_set hy with q | q
    · exact R.small ys q
    · rw [q]; exact hz
  · by_cases q : j = k
    · subst q
      rw [hk] at e; cases e
      obtain ⟨_, _, ys, _, h2, _⟩ := R.lists j a hk
      refine ⟨vs, n, xs, ha, ?_, mono hr⟩
      rw [List.getElem?_set_self]
      rcases Nat.lt_or_ge j H.length with y | y
      · exact y
      · rw [List.getElem?_eq_none y] at h2; cases h2
    · obtain ⟨ws, m, ys, h1, h2, h3⟩ := R.lists j b e
      have hne : b ≠ a := fun z => q (nodup_get R.nodup e (by rw [z]; exact hk))
      exact ⟨ws, m, ys, hb _ _ hne h1, by rw [List.getElem?_set_ne (Ne.symm q)]; exact h2, mono h3⟩

/-- something turned that is neither a list of ours, nor a tuple, nor the base's -/
theorem Rel.but (R : Rel base φ H h) {a : Addr} (ha : a ∉ φ) (hb : base.get? a = none) (hk : ∀ b o, b ≠ a → h.get? b = some o → h'.get? b = some o)
    (hn : ∀ o, h.get? a = some o → ¬ TupObj o) : Rel base φ H h' :=
  ⟨fun b o e => hk b o (fun q => by rw [q, hb] at e; cases e) (R.keep b o e), R.len, R.nodup, R.fresh, R.small, fun k b e => by
    obtain ⟨vs, n, xs, h1, h2, h3⟩ := R.lists k b e
    exact ⟨vs, n, xs, hk _ _ (fun q => ha (q ▸ List.mem_of_getElem? e)) h1, h2, RepL.mono (List.prefix_refl _) (fun c o e c' => hk c o (fun q => hn o (q ▸ e) c') e) xs vs h3⟩⟩
theorem Rep.but {a : Addr} (hk : ∀ b o, b ≠ a → h.get? b = some o → h'.get? b = some o) (hn : ∀ o, h.get? a = some o → ¬ TupObj o) {x : V} {v : Value} (r : Rep base φ h x v) : Rep base φ h' x v :=
  Rep.mono (List.prefix_refl _) (fun c o e c' => hk c o (fun q => hn o (q ▸ e) c') e) x v r
theorem Step.but {φ : List Addr} {s : Shared} {h : Heap} {tk : Nat} {a : Addr} {own : List Addr} (ha : a ∈ own) (hs : (h.get? a).isSome) (hk : ∀ b o, b ≠ a → s.heap.get? b = some o → h.get? b = some o) : Step own φ φ s { s with heap := h, toks := tk } :=
  ⟨List.prefix_refl _, fun _ h h' => absurd h h', fun b o e _ hb => hk b o (fun q => hb (q ▸ ha)) e, fun b e => by
    by_cases q : b = a
    · rw [q]; exact hs
    · obtain ⟨o, ho⟩ := Option.isSome_iff_exists.mp e
      rw [show ({ s with heap := h, toks := tk } : Shared).heap.get? b = some o from hk b o q ho]; rfl, ⟨h, tk, rfl⟩⟩
end
end Mine

open PySem
namespace Mine

/-! ## the frame -/
noncomputable def KindOk : Option NameKind → Option NameKind → Prop
  | some .local, k => k = some .local
  | some .cell, k => k = some .cell
  | some .free, k => k = some .cell ∨ k = some .free
  | some .globalImplicit, k => k = some .globalImplicit
  | _, _ => True

noncomputable def own (env : Env) : List Addr := env.locals :: env.cells.map (·.2)

structure EnvR (base : Heap) (φ : List Addr) (sc : Scope) (env : Env) (Γ : List Str) (m : Loc) (h : Heap) : Prop where
  kind : env.scope.kind = .function
  glob : env.globals = mainGlobals
  blt : env.builtins = builtinsNs
  len : m.length = Γ.length
  kinds : ∀ x, KindOk (sc.names.lookup x) (env.kindOf x)
  fresh : base.get? env.locals = none
  ns : ∃ mm, h.Ns env.locals mm ∧ ∀ x i v, slot Γ x = some i → m[i]? = some (some v) → env.kindOf x = some .local → ∃ w, mm x = some w ∧ Rep base φ h v w
  cellat : ∀ p ∈ env.cells, base.get? p.2 = none ∧ ∃ v, h.IsCell p.2 v
  cellv : ∀ x i v, slot Γ x = some i → m[i]? = some (some v) → (env.kindOf x = some .cell ∨ env.kindOf x = some .free) → ∃ c w, env.cells.lookup x = some c ∧ h.IsCell c (some w) ∧ Rep base φ h v w
  inj : ∀ x y c, env.cells.lookup x = some c → env.cells.lookup y = some c → x = y
  has : ∀ x, (env.kindOf x = some .cell ∨ env.kindOf x = some .free) → ∃ c, env.cells.lookup x = some c

theorem slot_lt : ∀ {Γ : List Str} {x : Str} {i : Nat}, slot Γ x = some i → i < Γ.length
  | y :: r, x, i, e => by
    unfold slot at e
    split at e
    · cases e; simp
    · have := slot_lt e; simp; lia
theorem slot_inj : ∀ {Γ : List Str} {x y : Str} {i : Nat}, slot Γ x = some i → slot Γ y = some i → x = y
  | z :: r, x, y, i, e, e' => by
    unfold slot at e e'
    split at e <;> split at e'
    · rename_i h h'; rw [← beq_iff_eq.mp h, ← beq_iff_eq.mp h']
    · cases e; have := slot_lt e'; lia
    · cases e'; have := slot_lt e; lia
    · exact slot_inj e e'

theorem ns_not_tup {h : Heap} {a : Addr} {mm : Str → Option Value} (n : h.Ns a mm) : ∀ o, h.get? a = some o → ¬ TupObj o := fun o e ⟨_, vs, k, hd⟩ => by
  obtain ⟨o', es, ep, ho, hd', _⟩ := n
  rw [e] at ho; cases ho; rw [hd] at hd'; cases hd'
theorem cell_not_tup {h : Heap} {a : Addr} {v : Option Value} (n : h.IsCell a v) : ∀ o, h.get? a = some o → ¬ TupObj o := fun o e ⟨_, vs, k, hd⟩ => by
  obtain ⟨o', ho, hd'⟩ := n
  rw [e] at ho; cases ho; rw [hd] at hd'; cases hd'

section
variable {base : Heap} {φ φ' : List Addr} {H H' : Hp} {sc : Scope} {env : Env} {Γ : List Str} {m : Loc}

theorem Rel.ns_not {h : Heap} (R : Rel base φ H h) {a : Addr} {mm : Str → Option Value} (n : h.Ns a mm) : a ∉ φ := fun ha => by
  obtain ⟨_, _, q⟩ := R.mem_list ha
  obtain ⟨o', es, ep, ho, hd', _⟩ := n
  rw [q] at ho; cases ho; cases hd'
theorem Rel.cell_not {h : Heap} (R : Rel base φ H h) {a : Addr} {v : Option Value} (n : h.IsCell a v) : a ∉ φ := fun ha => by
  obtain ⟨_, _, q⟩ := R.mem_list ha
  obtain ⟨o', ho, hd'⟩ := n
  rw [q] at ho; cases ho; cases hd'

/-- an expression's step leaves the frame -/
theorem EnvR.step {s s' : Shared} (W : EnvR base φ sc env Γ m s.heap) (R : Rel base φ H s.heap) (st : Step [] φ φ' s s') : EnvR base φ' sc env Γ m s'.heap := by
  obtain ⟨mm, hn, hm⟩ := W.ns
  have hL := R.ns_not hn
  have cell : ∀ {c : Addr} {v : Option Value}, s.heap.IsCell c v → s'.heap.IsCell c v := fun {c v} hc => by
    obtain ⟨o, ho, hd⟩ := hc
    exact ⟨o, st.evo c o ho (R.cell_not ⟨o, ho, hd⟩) (by simp), hd⟩
  refine ⟨W.kind, W.glob, W.blt, W.len, W.kinds, W.fresh, ⟨mm, ?_, fun x i v h1 h2 h3 => ?_⟩, fun p e => ?_, fun x i v h1 h2 h3 => ?_, W.inj, W.has⟩
  · obtain ⟨o, es, ep, ho, r⟩ := hn
    exact ⟨o, es, ep, st.evo _ o ho hL (by simp), r⟩
  · obtain ⟨w, e, r⟩ := hm x i v h1 h2 h3
    exact ⟨w, e, R.mono st r⟩
  · obtain ⟨h1, v, hv⟩ := W.cellat p e
    exact ⟨h1, v, cell hv⟩
  · obtain ⟨c, w, e, hc, r⟩ := W.cellv x i v h1 h2 h3
    exact ⟨c, w, e, cell hc, R.mono st r⟩

theorem own_cell {x : Str} {c : Addr} (e : env.cells.lookup x = some c) : c ∈ own env :=
  List.mem_cons_of_mem _ (List.mem_map.mpr ⟨(x, c), mem_of_lookup e, rfl⟩)

/-- a name is stored -/
theorem EnvR.store {M : Model} {A : Around} {E : Value → Shared → Prop} {s : Shared} {Q : Unit → Shared → Prop} {x : Str} {i : Nat} {v : V} {w : Value}
    (W : EnvR base φ sc env Γ m s.heap) (R : Rel base φ H s.heap) (hx : isOwn sc x = true) (hi : slot Γ x = some i) (rv : Rep base φ s.heap v w)
    (h : ∀ s' a, (a = env.locals ∨ (env.kindOf x = some .cell ∧ env.cells.lookup x = some a)) → Step [a] φ φ s s' → (∀ b o, b ≠ a → s.heap.get? b = some o → s'.heap.get? b = some o) → Rel base φ H s'.heap → EnvR base φ sc env Γ (m.set i (some v)) s'.heap → Q () s') : wpAny M A (storeName env x w) Q E s := by
  obtain ⟨mm, hn, hm⟩ := W.ns
  have hil : i < m.length := by rw [W.len]; exact slot_lt hi
  have hget : ∀ (j : Nat) (u : V), (m.set i (some v))[j]? = some (some u) → (j = i ∧ u = v) ∨ (j ≠ i ∧ m[j]? = some (some u)) := fun j u e => by
    by_cases q : j = i
    · subst q; rw [List.getElem?_set_self hil] at e
      exact .inl ⟨rfl, by simpa using e.symm⟩
    · rw [List.getElem?_set_ne (Ne.symm q)] at e; exact .inr ⟨q, e⟩
  have kd := W.kinds x
  have hk : env.kindOf x = some .local ∨ env.kindOf x = some .cell := by
    unfold isOwn at hx
    split at hx
    · rename_i e; rw [e] at kd; exact .inl kd
    · rename_i e; rw [e] at kd; exact .inr kd
    · cases hx
  rcases hk with hk | hk
  · refine wpAny_storeName_local hk hn (fun h' hn' hs => ?_) (by rw [W.kind]; rfl)
    have hL := R.ns_not hn
    have nt := ns_not_tup hn
    have kp : ∀ b o, b ≠ env.locals → s.heap.get? b = some o → h'.get? b = some o := hs.extBut
    refine h _ env.locals (.inl rfl) (Step.but (List.mem_cons_self ..) (by obtain ⟨o, _, _, ho, _⟩ := hn'; rw [ho]; rfl) kp) kp (R.but hL W.fresh kp nt) ?_
    have cell : ∀ {c : Addr} {v : Option Value}, s.heap.IsCell c v → h'.IsCell c v := fun {c v} hc => by
      obtain ⟨o, ho, hd⟩ := hc
      refine ⟨o, kp c o (fun q => ?_) ho, hd⟩
      obtain ⟨o', es, ep, ho', hd', _⟩ := hn
      rw [← q, ho] at ho'; cases ho'; rw [hd] at hd'; cases hd'
    refine ⟨W.kind, W.glob, W.blt, by simp [W.len], W.kinds, W.fresh, ⟨_, hn', fun y j u h1 h2 h3 => ?_⟩, fun p e => ?_, fun y j u h1 h2 h3 => ?_, W.inj, W.has⟩
    · rcases hget j u h2 with ⟨q, rfl⟩ | ⟨q, e⟩
      · subst q
        have := slot_inj h1 hi; subst this
        exact ⟨w, by simp, rv.but kp nt⟩
      · have hy : y ≠ x := fun z => q (by rw [z, hi] at h1; exact (Option.some.inj h1).symm)
        obtain ⟨u', e', r⟩ := hm y j u h1 e h3
        exact ⟨u', by simp [hy, e'], r.but kp nt⟩
    · obtain ⟨h1, v, hv⟩ := W.cellat p e
      exact ⟨h1, v, cell hv⟩
    · rcases hget j u h2 with ⟨q, rfl⟩ | ⟨q, e⟩
      · subst q
        have := slot_inj h1 hi; subst this
        rw [hk] at h3; rcases h3 with h3 | h3 <;> cases h3
      · obtain ⟨c, w', e', hc, r⟩ := W.cellv y j u h1 e h3
        exact ⟨c, w', e', cell hc, r.but kp nt⟩
  · obtain ⟨c, hc⟩ := W.has x (.inl hk)
    obtain ⟨hb, v₀, hv₀⟩ := W.cellat (x, c) (mem_of_lookup hc)
    refine wpAny_storeName_cell W.kind hk hc hv₀ fun h' hc' hs => ?_
    have hL := R.cell_not hv₀
    have nt := cell_not_tup hv₀
    have kp : ∀ b o, b ≠ c → s.heap.get? b = some o → h'.get? b = some o := hs.extBut
    have hLc : env.locals ≠ c := fun q => by
      obtain ⟨o', es, ep, ho', hd', _⟩ := hn
      obtain ⟨o, ho, hd⟩ := hv₀
      rw [q, ho] at ho'; cases ho'; rw [hd] at hd'; cases hd'
    refine h { s with heap := h' } c (.inr ⟨hk, hc⟩) (Step.but (tk := s.toks) (List.mem_cons_self ..) (by obtain ⟨o, ho, _⟩ := hc'; rw [ho]; rfl) kp) kp (R.but hL hb kp nt) ?_
    refine ⟨W.kind, W.glob, W.blt, by simp [W.len], W.kinds, W.fresh, ⟨mm, hn.sameBut hs hLc, fun y j u h1 h2 h3 => ?_⟩, fun p e => ?_, fun y j u h1 h2 h3 => ?_, W.inj, W.has⟩
    · rcases hget j u h2 with ⟨q, rfl⟩ | ⟨q, e⟩
      · subst q
        have := slot_inj h1 hi; subst this
        rw [hk] at h3; cases h3
      · obtain ⟨u', e', r⟩ := hm y j u h1 e h3
        exact ⟨u', e', r.but kp nt⟩
    · obtain ⟨h1, u, hu⟩ := W.cellat p e
      by_cases q : p.2 = c
      · exact ⟨h1, _, q ▸ hc'⟩
      · obtain ⟨o, ho, hd⟩ := hu
        exact ⟨h1, u, o, kp _ o q ho, hd⟩
    · rcases hget j u h2 with ⟨q, rfl⟩ | ⟨q, e⟩
      · subst q
        have := slot_inj h1 hi; subst this
        exact ⟨c, w, hc, hc', rv.but kp nt⟩
      · have hy : y ≠ x := fun z => q (by rw [z, hi] at h1; exact (Option.some.inj h1).symm)
        obtain ⟨d, w', e', ⟨o, ho, hd⟩, r⟩ := W.cellv y j u h1 e h3
        have hne : d ≠ c := fun q => hy (W.inj y x c (q ▸ e') hc)
        exact ⟨d, w', e', ⟨o, kp d o hne ho, hd⟩, r.but kp nt⟩

theorem own_of {x : Str} {a : Addr} (h : a = env.locals ∨ (env.kindOf x = some .cell ∧ env.cells.lookup x = some a)) : a ∈ own env :=
  h.elim (fun e => by rw [e]; exact List.mem_cons_self ..) fun e => own_cell e.2

/-- a name is read -/
theorem EnvR.load {M : Model} {A : Around} {E : Value → Shared → Prop} {s : Shared} {Q : Value → Shared → Prop} {x : Str} {i : Nat} {v : V}
    (W : EnvR base φ sc env Γ m s.heap) (hx : isVar sc x = true) (hn : (x == ("__classdict__" : Str)) = false) (hi : slot Γ x = some i) (hv : m[i]? = some (some v))
    (h : ∀ w, Rep base φ s.heap v w → Q w s) : wpAny M A (loadName env x) Q E s := by
  have kd := W.kinds x
  have hk : env.kindOf x = some .local ∨ env.kindOf x = some .cell ∨ env.kindOf x = some .free := by
    unfold isVar at hx
    split at hx
    · rename_i e; rw [e] at kd; exact .inl kd
    · rename_i e; rw [e] at kd; exact .inr (.inl kd)
    · rename_i e; rw [e] at kd; exact .inr kd
    · cases hx
  rcases hk with hk | hk | hk
  · obtain ⟨mm, hn, hm⟩ := W.ns
    obtain ⟨w, e, r⟩ := hm x i v hi hv hk
    exact wpAny_loadName_local W.kind hk hn e (h w r)
  · obtain ⟨c, w, e, hc, r⟩ := W.cellv x i v hi hv (.inl hk)
    exact wpAny_loadName_cell W.kind hk e hc (h w r)
  · obtain ⟨c, w, e, hc, r⟩ := W.cellv x i v hi hv (.inr hk)
    exact wpAny_loadName_free W.kind hk e hc (h w r) hn
end
end Mine

open PySem
namespace Mine

/-- what an expression hands on -/
noncomputable def Cont (base : Heap) (φ : List Addr) (s : Shared) (P : PV) (Q : Value → Shared → Prop) : Prop :=
  ∀ v w φ' H' s', P v H' → Step [] φ φ' s s' → Rel base φ' H' s'.heap → Rep base φ' s'.heap v w → Q w s'

section
variable {base : Heap} {φ φ' : List Addr} {H : Hp} {s s' : Shared} {P : PV} {Q : Value → Shared → Prop}

theorem Cont.after (K : Cont base φ s P Q) (st : Step [] φ φ' s s') : Cont base φ' s' P Q :=
  fun v w φ'' H' s'' hp st' R r => K v w φ'' H' s'' hp (st.trans st') R r

theorem Step.tok (φ : List Addr) (s : Shared) (t : Nat) : Step [] φ φ s { s with toks := t } := Step.grow (h := s.heap) fun _ _ e => e

theorem Cont.tok (K : Cont base φ s P Q) (t : Nat) (R : Rel base φ H s.heap) {v : V} {w : Value} (hp : P v H) (r : Rep base φ s.heap v w) : Q w { s with toks := t } :=
  K v w φ H _ hp (Step.tok φ s t) R r
theorem Cont.here (K : Cont base φ s P Q) (R : Rel base φ H s.heap) {v : V} {w : Value} (hp : P v H) (r : Rep base φ s.heap v w) : Q w s :=
  K v w φ H _ hp (Step.refl [] φ s) R r

/-- nothing but new things, and a value without an address -/
theorem Cont.grow (K : Cont base φ s P Q) (R : Rel base φ H s.heap) {h : Heap} {tk : Nat} (hk : ∀ a o, s.heap.get? a = some o → h.get? a = some o) {v : V} {w : Value} (hp : P v H) (r : Rep base φ h v w) : Q w { s with heap := h, toks := tk } :=
  K v w φ H _ hp (Step.grow hk) (R.grow hk) r

/-- a new list -/
theorem Cont.list (K : Cont base φ s P Q) (R : Rel base φ H s.heap) {h : Heap} {tk : Nat} {a : Addr} {n : Nat} {vs : List Value} {xs : List V}
    (hk : ∀ a o, s.heap.get? a = some o → h.get? a = some o) (hn : s.heap.get? a = none) (ha : h.get? a = some ⟨.type "list", none, .seq vs.toArray n, #[]⟩) (hr : RepL base φ s.heap xs vs) (hz : xs.length ≤ room)
    (hp : P (.ref H.length) (H ++ [xs])) : Q (.ref a) { s with heap := h, toks := tk } := by
  obtain ⟨R', r⟩ := R.alloc hk hn ha hr hz
  exact K _ _ (φ ++ [a]) _ _ hp (Step.alloc hk hn) R' r

theorem get_size (h : Heap) : h.get? h.objs.size = none := by
  cases e : h.get? h.objs.size with
  | none => rfl
  | some o => exact absurd (Heap.lt_size e) (Nat.lt_irrefl _)
theorem get_ge (h : Heap) {a : Addr} (ha : h.objs.size ≤ a) : h.get? a = none := by
  cases e : h.get? a with
  | none => rfl
  | some o => exact absurd (Heap.lt_size e) (Nat.not_lt.mpr ha)

/-- a new list, pushed -/
theorem Cont.pushList (K : Cont base φ s P Q) (R : Rel base φ H s.heap) {vs : List Value} {xs : List V} (hr : RepL base φ s.heap xs vs) (hz : xs.length ≤ room)
    (hp : P (.ref H.length) (H ++ [xs])) : Q (.ref s.heap.objs.size) { s with heap := s.heap.push { cls := .type "list", data := .seq vs.toArray } } :=
  K.list (tk := s.toks) R (fun _ _ e => Heap.get?_push_of_some _ e) (get_size _) (Heap.get?_push_size _ rfl) hr hz hp

/-- a new tuple, pushed -/
theorem Cont.pushTup (K : Cont base φ s P Q) (R : Rel base φ H s.heap) {vs : List Value} {xs : List V} (hr : RepL base φ s.heap xs vs) (hz : xs.length ≤ room)
    (hp : P (.tup xs) H) : Q (.ref s.heap.objs.size) { s with heap := s.heap.push { cls := .type "tuple", data := .seq vs.toArray } } :=
  K.grow (tk := s.toks) R (fun _ _ e => Heap.get?_push_of_some _ e) hp
    ⟨_, vs, rfl, ⟨_, Heap.get?_push_size _ rfl, rfl, 0, rfl⟩, RepL.mono (List.prefix_refl _) (fun _ _ e _ => Heap.get?_push_of_some _ e) xs vs hr, hz⟩
end

theorem small_bits {a : Int} (h : Small a) : Builtin.Int.intBits a ≤ 64 := by
  obtain ⟨h1, h2⟩ := h
  have hn : a.natAbs < 2 ^ 64 := by lia
  show (if a == 0 then 0 else a.natAbs.log2 + 1) ≤ 64
  split
  · lia
  · rename_i h0
    have : a.natAbs ≠ 0 := by simpa using h0
    have := (Nat.log2_lt this).mpr hn
    lia

section
variable {prog : Program} {w : World} {A : Around} {E : Value → Shared → Prop} {base : Heap} {φ : List Addr} {H : Hp} {s : Shared} {P : PV} {Q : Value → Shared → Prop} {a b : V} {x y : Value}

theorem fdiv_pos {a b : Int} (h : 0 < b) : a.fdiv b = a / b := Int.fdiv_eq_ediv_of_nonneg a (by lia)
theorem fmod_pos {a b : Int} (h : 0 < b) : a.fmod b = a % b := Int.fmod_eq_emod_of_nonneg a (by lia)

theorem rep_ref {k : Nat} {v : Value} {xs : List V} (R : Rel base φ H s.heap) (r : Rep base φ s.heap (.ref k) v) (e : H[k]? = some xs) :
    ∃ l vs n, v = .ref l ∧ φ[k]? = some l ∧ s.heap.get? l = some ⟨.type "list", none, .seq vs.toArray n, #[]⟩ ∧ RepL base φ s.heap xs vs := R.list e r

/-- the arithmetic -/
theorem soundA {op : Operator} {o : B} (ho : opOf op = some o) (R : Rel base φ H s.heap) (ra : Rep base φ s.heap a x) (rb : Rep base φ s.heap b y) (hw : wpB o a b H P)
    (K : Cont base φ s P Q) : wpAny (model prog w) A (binaryOp op x y) Q E s := by
  cases op <;> simp only [opOf, Option.some.injEq, reduceCtorEq] at ho <;> subst ho
  · -- Add
    change addV a b H P at hw
    cases a with
    | int i =>
      replace hw := intV_elim hw
      obtain ⟨j, rfl, hw⟩ := hw
      obtain ⟨t, rfl⟩ := ra; obtain ⟨u, rfl⟩ := rb
      exact PyProof.Rows.add_int (K.tok _ R hw ⟨_, rfl⟩)
    | ref k =>
      replace hw := optV_elim hw
      obtain ⟨xs, hk, hw⟩ := hw
      replace hw := refV_elim hw
      obtain ⟨l, ys, rfl, hl, hw⟩ := hw
      obtain ⟨p, vs, n, rfl, _, hp, hx⟩ := rep_ref R ra hk
      obtain ⟨q, us, n', rfl, _, hq, hy⟩ := rep_ref R rb hl
      refine PySem.P.add_list hp hq ?_ ?_
      · have := K.pushList R (hx.append hy) (by rw [List.length_append]; exact hw.1) hw.2
        simpa using this
      · have h1 := hx.length; have h2 := hy.length; have h3 := hw.1
        simp only [List.size_toArray, sizeLine]; unfold room at h3; lia
    | _ => exact hw.elim
  · -- Sub
    replace hw := intV_elim hw
    obtain ⟨i, rfl, hw⟩ := hw
    replace hw := intV_elim hw
    obtain ⟨j, rfl, hw⟩ := hw
    obtain ⟨t, rfl⟩ := ra; obtain ⟨u, rfl⟩ := rb
    exact PyProof.Rows.sub_int (K.tok _ R hw ⟨_, rfl⟩)
  · -- Mult
    change mulV a b H P at hw
    cases a with
    | int i =>
      replace hw := intV_elim hw
      obtain ⟨j, rfl, hw⟩ := hw
      obtain ⟨t, rfl⟩ := ra; obtain ⟨u, rfl⟩ := rb
      refine PyProof.Rows.mul_int (K.tok _ R hw.2 ⟨_, rfl⟩) ?_
      rcases hw.1 with h | h
      · exact .of_left (small_bits h)
      · exact .of_right (small_bits h)
    | ref k =>
      replace hw := optV_elim hw
      obtain ⟨xs, hk, hw⟩ := hw
      replace hw := optV_elim hw
      obtain ⟨x₀, hx₀, hw⟩ := hw
      replace hx₀ := lone_eq hx₀
      subst hx₀
      replace hw := intV_elim hw
      obtain ⟨i, rfl, hw⟩ := hw
      obtain ⟨p, vs, n, rfl, _, hp, hx⟩ := rep_ref R ra hk
      obtain ⟨u, rfl⟩ := rb
      obtain ⟨h0, h1, hw⟩ := hw
      obtain ⟨v₀, r₀, e₀, hv₀, hr₀⟩ := hx
      rw [show r₀ = [] from hr₀] at e₀
      subst e₀
      refine wpAny_binaryOp_repeat_ref (T := "list") (U := "int") (by decide) ⟨_, hp, rfl⟩ (fun s' => typeIs_int s' i u) noFill_list_mul F.fills_int_mul F.slot_int_rmul repeat_list F.slot_int_index.lookup
        (call_meets F.slot_int_rmul (typeIs_int s i u) F.entry_int_rmul (F.args_int_rmul_2 _ _) (lm_int_rmul_list_any i u p _ n none #[])
          ⟨hp, rfl, ⟨_, hp, rfl⟩, call_meets F.slot_list_mul ⟨_, hp, rfl⟩ F.entry_list_mul (F.args_list_mul_2 _ _)
            (lm_list_mul_any p _ n none #[] i u (by simp [Builtin.List.listFitsIndex]; lia) (by simp; lia) (by simp [Builtin.List.listTooLong, sizeLine]; lia)) ⟨hp, ?_⟩⟩)
      have e : List.foldl (fun x1 x2 => x1 ++ x2) #[] (List.replicate (if ([v₀] : List Value).toArray.isEmpty = true then 0 else i.toNat) ([v₀] : List Value).toArray) = (List.replicate i.toNat v₀).toArray := by
        simp only [List.isEmpty_toArray, List.isEmpty_cons, Bool.false_eq_true, if_false]
        have : ∀ (n : Nat) (acc : Array Value), List.foldl (fun x1 x2 => x1 ++ x2) acc (List.replicate n ([v₀] : List Value).toArray) = acc ++ (List.replicate n v₀).toArray := by
          intro n
          induction n with
          | zero => intro acc; simp
          | succ n ih => intro acc; rw [List.replicate_succ, List.foldl_cons, ih, List.replicate_succ]; apply Array.ext'; simp
        rw [this]; simp
      rw [e]
      exact K.pushList R (RepL.replicate hv₀ _) (by rw [List.length_replicate]; unfold room; lia) hw
    | _ => exact hw.elim
  · -- Mod
    replace hw := intV_elim hw
    obtain ⟨i, rfl, hw⟩ := hw
    replace hw := intV_elim hw
    obtain ⟨j, rfl, hw⟩ := hw
    obtain ⟨t, rfl⟩ := ra; obtain ⟨u, rfl⟩ := rb
    refine PyProof.Rows.mod_int' (by lia) ?_
    rw [fmod_pos hw.1]
    exact K.tok _ R hw.2 ⟨_, rfl⟩
  · -- Pow
    replace hw := intV_elim hw
    obtain ⟨i, rfl, hw⟩ := hw
    replace hw := intV_elim hw
    obtain ⟨j, rfl, hw⟩ := hw
    obtain ⟨t, rfl⟩ := ra; obtain ⟨u, rfl⟩ := rb
    obtain ⟨rfl, rfl, hw⟩ := hw
    exact PyProof.Rows.pow_int (by decide) (by decide +kernel) (K.tok _ R hw ⟨_, rfl⟩)
  · -- FloorDiv
    replace hw := intV_elim hw
    obtain ⟨i, rfl, hw⟩ := hw
    replace hw := intV_elim hw
    obtain ⟨j, rfl, hw⟩ := hw
    obtain ⟨t, rfl⟩ := ra; obtain ⟨u, rfl⟩ := rb
    obtain ⟨h0, h1, hw⟩ := hw
    refine PyProof.Rows.floordiv_int (by lia) ?_ (.inl (PyProof.noPylong_small (by lia)))
    rw [fdiv_pos h0]
    exact K.tok _ R hw ⟨_, rfl⟩
end
end Mine

open PySem
namespace Mine

inductive All2 {α β : Type} (R : α → β → Prop) : List α → List β → Prop
  | nil : All2 R [] []
  | cons {a : α} {b : β} {as : List α} {bs : List β} : R a b → All2 R as bs → All2 R (a :: as) (b :: bs)

/-! ## equality -/
theorem deepL_all {n : Nat} {H : Hp} : ∀ {xs : List V} {ds : List PyData}, deepL (deep n H) xs = some ds → All2 (fun x d => deep n H x = some d) xs ds
  | [], ds, e => by simp only [deepL, Option.some.injEq] at e; subst e; exact .nil
  | x :: xs, ds, e => by
    simp only [deepL] at e
    split at e
    · rename_i d ds' h1 h2
      cases e
      exact .cons h1 (deepL_all h2)
    · cases e

theorem all_shape {n : Nat} {H : Hp} (ih : ∀ (v : V) (d : PyData), deep n H v = some d → d.canLay0 = true ∧ d.depth ≤ n) :
    ∀ {xs : List V} {ds : List PyData}, All2 (fun x d => deep n H x = some d) xs ds → PyData.canLayAll0 ds = true ∧ PyData.depthAll ds ≤ n
  | _, _, .nil => ⟨rfl, Nat.zero_le _⟩
  | _, _, .cons h r => by
    have h1 := ih _ _ h; have h2 := all_shape ih r
    exact ⟨by rw [PyData.canLayAll0, h1.1, h2.1]; rfl, by rw [PyData.depthAll]; lia⟩

theorem deep_shape (H : Hp) : ∀ (n : Nat) (v : V) (d : PyData), deep n H v = some d → d.canLay0 = true ∧ d.depth ≤ n
  | n, .none, d, e => by cases n <;> (simp only [deep, Option.some.injEq] at e; subst e; exact ⟨rfl, Nat.zero_le _⟩)
  | n, .bool _, d, e => by cases n <;> (simp only [deep, Option.some.injEq] at e; subst e; exact ⟨rfl, Nat.zero_le _⟩)
  | n, .int _, d, e => by cases n <;> (simp only [deep, Option.some.injEq] at e; subst e; exact ⟨rfl, Nat.zero_le _⟩)
  | n, .str _, d, e => by cases n <;> simp [deep] at e
  | n, .frz _, d, e => by cases n <;> simp [deep] at e
  | 0, .tup _, d, e => by simp [deep] at e
  | 0, .ref _, d, e => by simp [deep] at e
  | n + 1, .tup xs, d, e => by
    simp only [deep, Option.map_eq_some_iff] at e
    obtain ⟨ds, h, rfl⟩ := e
    have := all_shape (deep_shape H n) (deepL_all h)
    exact ⟨by rw [PyData.canLay0]; exact this.1, by rw [PyData.depth]; lia⟩
  | n + 1, .ref k, d, e => by
    simp only [deep] at e
    split at e
    · simp only [Option.map_eq_some_iff] at e
      obtain ⟨ds, h, rfl⟩ := e
      have := all_shape (deep_shape H n) (deepL_all h)
      exact ⟨by rw [PyData.canLay0]; exact this.1, by rw [PyData.depth]; lia⟩
    · cases e

section
variable {base : Heap} {φ : List Addr} {H : Hp} {h : Heap}
theorem all_reads {n : Nat} (ih : ∀ (v : V) (d : PyData) (w : Value), deep n H v = some d → Rep base φ h v w → ∃ as, Reads h w d as) :
    ∀ {xs : List V} {ds : List PyData} {ws : List Value}, All2 (fun x d => deep n H x = some d) xs ds → RepL base φ h xs ws → ∃ as, ReadsAll h ws ds as
  | _, _, _, .nil, r => ⟨[], by rw [show _ = [] from r]; exact .nil⟩
  | _, _, _, .cons hd hr, ⟨_, _, e, hv, hr'⟩ => by
    obtain ⟨as, h1⟩ := ih _ _ _ hd hv
    obtain ⟨bs, h2⟩ := all_reads ih hr hr'
    exact ⟨as ++ bs, by rw [e]; exact .cons h1 h2⟩

theorem deep_reads (R : Rel base φ H h) : ∀ (n : Nat) (v : V) (d : PyData) (w : Value), deep n H v = some d → Rep base φ h v w → ∃ as, Reads h w d as
  | n, .none, d, w, e, r => by cases n <;> (simp only [deep, Option.some.injEq] at e; subst e; rw [show w = .none from r]; exact ⟨_, .none⟩)
  | n, .bool _, d, w, e, r => by cases n <;> (simp only [deep, Option.some.injEq] at e; subst e; rw [show w = .bool _ from r]; exact ⟨_, .bool _⟩)
  | n, .int _, d, w, e, r => by
    obtain ⟨t, rfl⟩ := r
    cases n <;> (simp only [deep, Option.some.injEq] at e; subst e; exact ⟨_, .int _ _⟩)
  | n, .str _, d, w, e, _ => by cases n <;> simp [deep] at e
  | n, .frz _, d, w, e, _ => by cases n <;> simp [deep] at e
  | 0, .tup _, d, w, e, _ => by simp [deep] at e
  | 0, .ref _, d, w, e, _ => by simp [deep] at e
  | n + 1, .tup xs, d, w, e, r => by
    simp only [deep, Option.map_eq_some_iff] at e
    obtain ⟨ds, hd, rfl⟩ := e
    obtain ⟨a, vs, rfl, ⟨o, ho, hc, k, hk⟩, hr, _⟩ := r
    obtain ⟨as, q⟩ := all_reads (deep_reads R n) (deepL_all hd) hr
    exact ⟨_, .tuple ho hc hk (by simpa using q)⟩
  | n + 1, .ref k, d, w, e, r => by
    simp only [deep] at e
    split at e
    · rename_i xs hk
      simp only [Option.map_eq_some_iff] at e
      obtain ⟨ds, hd, rfl⟩ := e
      obtain ⟨a, vs, n', rfl, _, ho, hr⟩ := R.list hk r
      obtain ⟨as, q⟩ := all_reads (deep_reads R n) (deepL_all hd) hr
      exact ⟨_, .list ho rfl rfl (by simpa using q)⟩
    · cases e
end

section
variable {prog : Program} {w : World} {A : Around} {E : Value → Shared → Prop} {base : Heap} {φ : List Addr} {H : Hp} {s : Shared} {P : PV} {Q : Value → Shared → Prop} {a b : V} {x y : Value}

theorem any_ints {i : Int} : ∀ {vs : List Value} {is : List Int}, PyProof.Rows.IntsAre vs is → (vs.toArray.any fun y => match y with | .int j _ => j == i | _ => false) = decide (i ∈ is)
  | _, _, .nil => by simp
  | _, _, .cons j u r => by
    have ih := any_ints (i := i) r
    simp only [List.any_toArray, List.any_cons] at ih ⊢
    rw [ih, Bool.eq_iff_iff]
    simp only [Bool.or_eq_true, beq_iff_eq, decide_eq_true_eq, List.mem_cons]
    exact or_congr_left eq_comm

/-- the comparisons -/
theorem soundCmp {op : CmpOp} (hu : A.units + 64 < cLine) (R : Rel base φ H s.heap) (ra : Rep base φ s.heap a x) (rb : Rep base φ s.heap b y) (hw : wpB (cmpOf op) a b H P)
    (K : Cont base φ s P Q) : wpAny (model prog w) A (compareOp op x y) Q E s := by
  cases op
  · replace hw := optV_elim hw
    obtain ⟨d, h1, hw⟩ := hw
    replace hw := optV_elim hw
    obtain ⟨d', h2, hw⟩ := hw
    obtain ⟨as, r1⟩ := deep_reads R _ _ _ _ h1 ra
    obtain ⟨bs, r2⟩ := deep_reads R _ _ _ _ h2 rb
    have s1 := deep_shape H _ _ _ h1; have s2 := deep_shape H _ _ _ h2
    refine SeqAt.compareEq_shaped r1 r2 (by simp [SeqAt.shaped, s1.1]; lia) (by simp [SeqAt.shaped, s2.1]; lia) hu ?_
    exact K.here R hw rfl
  · replace hw := optV_elim hw
    obtain ⟨d, h1, hw⟩ := hw
    replace hw := optV_elim hw
    obtain ⟨d', h2, hw⟩ := hw
    obtain ⟨as, r1⟩ := deep_reads R _ _ _ _ h1 ra
    obtain ⟨bs, r2⟩ := deep_reads R _ _ _ _ h2 rb
    have s1 := deep_shape H _ _ _ h1; have s2 := deep_shape H _ _ _ h2
    refine SeqAt.compareNe_shaped r1 r2 (by simp [SeqAt.shaped, s1.1]; lia) (by simp [SeqAt.shaped, s2.1]; lia) hu ?_
    exact K.here R hw rfl
  · replace hw := intV_elim hw
    obtain ⟨i, rfl, hw⟩ := hw
    replace hw := intV_elim hw
    obtain ⟨j, rfl, hw⟩ := hw
    obtain ⟨t, rfl⟩ := ra; obtain ⟨u, rfl⟩ := rb
    exact PyProof.Rows.lt_int (K.here R hw rfl)
  · replace hw := intV_elim hw
    obtain ⟨i, rfl, hw⟩ := hw
    replace hw := intV_elim hw
    obtain ⟨j, rfl, hw⟩ := hw
    obtain ⟨t, rfl⟩ := ra; obtain ⟨u, rfl⟩ := rb
    exact PyProof.Rows.le_int (K.here R hw rfl)
  · replace hw := intV_elim hw
    obtain ⟨i, rfl, hw⟩ := hw
    replace hw := intV_elim hw
    obtain ⟨j, rfl, hw⟩ := hw
    obtain ⟨t, rfl⟩ := ra; obtain ⟨u, rfl⟩ := rb
    exact PyProof.Rows.gt_int (K.here R hw rfl)
  · replace hw := intV_elim hw
    obtain ⟨i, rfl, hw⟩ := hw
    replace hw := intV_elim hw
    obtain ⟨j, rfl, hw⟩ := hw
    obtain ⟨t, rfl⟩ := ra; obtain ⟨u, rfl⟩ := rb
    exact PyProof.Rows.ge_int (K.here R hw rfl)
  · obtain ⟨hb, hw⟩ := hw
    cases b <;> first | (cases hb; done) | skip
    rw [show y = .none from rb]
    refine is_none (K.here R hw ?_)
    show _ = Value.bool _
    cases a <;> first | (rw [show x = .none from ra]; rfl) | (rw [show x = .bool _ from ra]; rfl) | (obtain ⟨t, rfl⟩ := ra; rfl) | (obtain ⟨p, rfl, _⟩ := ra; rfl) | (obtain ⟨p, _, rfl, _⟩ := ra; rfl)
  · obtain ⟨hb, hw⟩ := hw
    cases b <;> first | (cases hb; done) | skip
    rw [show y = .none from rb]
    refine isNot_none (K.here R hw ?_)
    show _ = Value.bool _
    cases a <;> first | (rw [show x = .none from ra]; rfl) | (rw [show x = .bool _ from ra]; rfl) | (obtain ⟨t, rfl⟩ := ra; rfl) | (obtain ⟨p, rfl, _⟩ := ra; rfl) | (obtain ⟨p, _, rfl, _⟩ := ra; rfl)
  · replace hw := intV_elim hw
    obtain ⟨i, rfl, hw⟩ := hw
    replace hw := refV_elim hw
    obtain ⟨k, vs, rfl, hk, hw⟩ := hw
    replace hw := optV_elim hw
    obtain ⟨is, hi, hw⟩ := hw
    obtain ⟨t, rfl⟩ := ra
    obtain ⟨l, ws, n, rfl, _, hl, hr⟩ := R.list hk rb
    have hI := ints_areL hi hr
    refine SeqAt.in_listAt (fun y => match y with | .int j _ => j == i | _ => false) ⟨_, hl, rfl, n, rfl⟩ (fun y hy => ?_) ?_
    · obtain ⟨j, u, rfl⟩ := hI.all _ (by simpa using hy)
      exact fun prog w E Q hq => wpAny_eqBool_int hq
    · rw [any_ints hI]; exact K.here R hw rfl
  · replace hw := intV_elim hw
    obtain ⟨i, rfl, hw⟩ := hw
    replace hw := refV_elim hw
    obtain ⟨k, vs, rfl, hk, hw⟩ := hw
    replace hw := optV_elim hw
    obtain ⟨is, hi, hw⟩ := hw
    obtain ⟨t, rfl⟩ := ra
    obtain ⟨l, ws, n, rfl, _, hl, hr⟩ := R.list hk rb
    have hI := ints_areL hi hr
    refine SeqAt.notIn_listAt (fun y => match y with | .int j _ => j == i | _ => false) ⟨_, hl, rfl, n, rfl⟩ (fun y hy => ?_) ?_
    · obtain ⟨j, u, rfl⟩ := hI.all _ (by simpa using hy)
      exact fun prog w E Q hq => wpAny_eqBool_int hq
    · rw [any_ints hI]; exact K.here R hw rfl
end
end Mine

open PySem
namespace Mine

section
variable {prog : Program} {w : World} {A : Around} {E : Value → Shared → Prop} {base : Heap} {φ : List Addr} {H : Hp} {s : Shared} {P : PV} {Q : Value → Shared → Prop} {a b : V} {x y : Value}

theorem Rel.short (R : Rel base φ H s.heap) {k : Nat} {xs : List V} (e : H[k]? = some xs) : xs.length ≤ room := R.small xs (List.mem_of_getElem? e)
theorem Rel.frz {h : Heap} (R : Rel base φ H h) {l : Addr} {items : Array Value} (x : base.IsList l items) : h.IsList l items :=
  let ⟨o, ho, r⟩ := x; ⟨o, R.keep _ _ ho, r⟩
theorem isTup {h : Heap} {l : Addr} {items : Array Value} (x : h.IsTuple l items) : PyProof.Rows.IsTup h l items := x

theorem sNeg (R : Rel base φ H s.heap) (ra : Rep base φ s.heap a x) (hw : wpU .neg a H P) (K : Cont base φ s P Q) : wpAny (model prog w) A (unaryOp .USub x) Q E s := by
  replace hw := intV_elim hw
  obtain ⟨i, rfl, hw⟩ := hw
  obtain ⟨t, rfl⟩ := ra
  exact PyProof.Rows.neg_int (K.tok _ R hw ⟨_, rfl⟩)

theorem sAbs (R : Rel base φ H s.heap) (ra : Rep base φ s.heap a x) (hw : wpU .abs a H P) (K : Cont base φ s P Q) : wpAny (model prog w) A (call (.builtin "abs") [x]) Q E s := by
  replace hw := intV_elim hw
  obtain ⟨i, rfl, hw⟩ := hw
  obtain ⟨t, rfl⟩ := ra
  exact PyProof.Rows.call_abs_int fun u tk => K.tok _ R hw ⟨_, rfl⟩

theorem sLen (R : Rel base φ H s.heap) (ra : Rep base φ s.heap a x) (hw : wpU .len a H P) (K : Cont base φ s P Q) : wpAny (model prog w) A (call (.builtin "len") [x]) Q E s := by
  cases a with
  | tup xs =>
    obtain ⟨l, vs, rfl, ht, hr, hz⟩ := ra
    have hl := hr.length
    refine PyProof.Rows.len_tuple (isTup ht) (by simp only [List.size_toArray, hl]; unfold room at hz; lia) ?_
    rw [show vs.toArray.size = vs.length from rfl, hl]
    exact K.tok _ R hw ⟨_, rfl⟩
  | ref k =>
    replace hw := optV_elim hw
    obtain ⟨xs, hk, hw⟩ := hw
    obtain ⟨l, vs, n, rfl, _, hp, hr⟩ := rep_ref R ra hk
    have hl := hr.length
    have hz := R.short hk
    refine Calls.call_len_list ⟨_, hp, rfl, n, rfl⟩ (by simp only [List.size_toArray, hl]; unfold room at hz; lia) ?_
    rw [show vs.toArray.size = vs.length from rfl, hl]
    exact K.tok _ R hw ⟨_, rfl⟩
  | frz xs =>
    obtain ⟨l, vs, rfl, hp, hr, hz⟩ := ra
    have hl := hr.length
    refine Calls.call_len_list (R.frz hp) (by simp only [List.size_toArray, hl]; unfold room at hz; lia) ?_
    rw [show vs.toArray.size = vs.length from rfl, hl]
    exact K.tok _ R hw ⟨_, rfl⟩
  | _ => exact hw.elim

theorem sList (R : Rel base φ H s.heap) (ra : Rep base φ s.heap a x) (hw : wpU .list a H P) (K : Cont base φ s P Q) : wpAny (model prog w) A (call (.type "list") [x]) Q E s := by
  cases a with
  | tup xs =>
    obtain ⟨l, vs, rfl, ⟨o, ho, hc, n, hd⟩, hr, hz⟩ := ra
    refine call_list_seq l (.inr rfl) ho hc hd (fun h' c' hk ha => K.list (tk := s.toks) R hk (get_size _) ha hr hz hw) ?_
    have := hr.length; simp only [List.size_toArray, sizeLine]; unfold room at hz; lia
  | ref k =>
    replace hw := optV_elim hw
    obtain ⟨xs, hk, hw⟩ := hw
    obtain ⟨l, vs, n, rfl, _, hp, hr⟩ := rep_ref R ra hk
    have hz := R.short hk
    refine call_list_seq l (.inl rfl) hp rfl rfl (fun h' c' hk ha => K.list (tk := s.toks) R hk (get_size _) ha hr hz hw) ?_
    have := hr.length; simp only [List.size_toArray, sizeLine]; unfold room at hz; lia
  | _ => exact hw.elim

theorem sTuple (R : Rel base φ H s.heap) (ra : Rep base φ s.heap a x) (hw : wpU .tuple a H P) (K : Cont base φ s P Q) : wpAny (model prog w) A (call (.type "tuple") [x]) Q E s := by
  replace hw := refV_elim hw
  obtain ⟨k, xs, rfl, hk, hw⟩ := hw
  obtain ⟨l, vs, n, rfl, _, hp, hr⟩ := rep_ref R ra hk
  have hz := R.short hk
  refine call_tuple_list ⟨_, hp, rfl, n, rfl⟩ (fun h' hk' => ?_) ?_
  · have kp : ∀ b o, s.heap.get? b = some o → (h'.push { cls := .type "tuple", data := .seq vs.toArray }).get? b = some o := fun b o e => Heap.get?_push_of_some _ (hk' b o e)
    exact K.grow (tk := s.toks) R kp hw ⟨_, vs, rfl, ⟨_, Heap.get?_push_size _ rfl, rfl, 0, rfl⟩, RepL.mono (List.prefix_refl _) (fun b o e _ => kp b o e) xs vs hr, hz⟩
  · have := hr.length; simp only [List.size_toArray, sizeLine]; unfold room at hz; lia

theorem sSum (hh : A.handled = none) (R : Rel base φ H s.heap) (ra : Rep base φ s.heap a x) (hw : wpU .sum a H P) (K : Cont base φ s P Q) : wpAny (model prog w) A (call (.builtin "sum") [x]) Q E s := by
  replace hw := refV_elim hw
  obtain ⟨k, xs, rfl, hk, hw⟩ := hw
  replace hw := optV_elim hw
  obtain ⟨is, hi, hw⟩ := hw
  · · skip
      obtain ⟨l, vs, n, rfl, _, hp, hr⟩ := rep_ref R ra hk
      have hI := ints_areL hi hr
      obtain ⟨ps, e⟩ := hI.allInts.items
      have hn := hI.numsOf
      rw [show vs = (vs.toArray).toList from rfl, e] at hn
      rw [nums_intItems] at hn
      refine sum_intListG hh (xs := ps) (e ▸ ⟨_, hp, rfl, n, rfl⟩) fun h' tk t' hk' => ?_
      rw [preSum_eq, List.take_of_length_le (by simp), hn]
      exact K.grow R hk' hw ⟨_, rfl⟩

theorem sSorted (R : Rel base φ H s.heap) (ra : Rep base φ s.heap a x) (hw : wpU .sorted a H P) (K : Cont base φ s P Q) : wpAny (model prog w) A (call (.builtin "sorted") [x]) Q E s := by
  replace hw := refV_elim hw
  obtain ⟨k, xs, rfl, hk, hw⟩ := hw
  replace hw := optV_elim hw
  obtain ⟨is, hi, hw⟩ := hw
  · · skip
      obtain ⟨l, vs, n, rfl, _, hp, hr⟩ := rep_ref R ra hk
      have hI := ints_areL hi hr
      obtain ⟨h64, hw⟩ := hw
      have hlen := hI.length
      refine PyProof.Rows.sorted_ints ⟨_, hp, rfl, n, rfl⟩ hI (by lia) fun out ns' hI' hperm hpw => ?_
      obtain ⟨e, he⟩ := PyProof.Rows.sortedAll_at s.heap vs out
      refine K.list (tk := s.toks) (vs := out.toList) (n := e) R (fun b o hb => PyProof.Rows.sortedAll_old hb) (get_ge _ (Nat.le_succ _)) (by simpa using he) (ints_repL hI') ?_ (hw ns' hperm hpw)
      simp only [zl, List.length_map, hperm.length_eq]; unfold room; lia

theorem sMax (hh : A.handled = none) (R : Rel base φ H s.heap) (ra : Rep base φ s.heap a x) (rb : Rep base φ s.heap b y) (hw : wpB .max a b H P) (K : Cont base φ s P Q) :
    wpAny (model prog w) A (call (.builtin "max") [x, y]) Q E s := by
  replace hw := intV_elim hw
  obtain ⟨i, rfl, hw⟩ := hw
  replace hw := intV_elim hw
  obtain ⟨j, rfl, hw⟩ := hw
  · obtain ⟨t, rfl⟩ := ra; obtain ⟨u, rfl⟩ := rb
    refine max_two_ints hh fun h' tk hk => K.grow R hk hw ?_
    by_cases q : i < j
    · rw [if_pos q, if_pos q]; exact ⟨_, rfl⟩
    · rw [if_neg q, if_neg q]; exact ⟨_, rfl⟩
theorem sMin (hh : A.handled = none) (R : Rel base φ H s.heap) (ra : Rep base φ s.heap a x) (rb : Rep base φ s.heap b y) (hw : wpB .min a b H P) (K : Cont base φ s P Q) :
    wpAny (model prog w) A (call (.builtin "min") [x, y]) Q E s := by
  replace hw := intV_elim hw
  obtain ⟨i, rfl, hw⟩ := hw
  replace hw := intV_elim hw
  obtain ⟨j, rfl, hw⟩ := hw
  · obtain ⟨t, rfl⟩ := ra; obtain ⟨u, rfl⟩ := rb
    refine min_two_ints hh fun h' tk hk => K.grow R hk hw ?_
    by_cases q : j < i
    · rw [if_pos q, if_pos q]; exact ⟨_, rfl⟩
    · rw [if_neg q, if_neg q]; exact ⟨_, rfl⟩

theorem firstMet_nodup (val : Nat → Int) : ∀ n : Nat, ((List.range n).map val).Nodup → (PyProof.Rows.firstMet val n).length = n
  | 0, _ => by rw [PyProof.Rows.firstMet_zero]; rfl
  | n + 1, h => by
    rw [List.range_succ, List.map_append, List.nodup_append] at h
    obtain ⟨h1, _, h3⟩ := h
    rw [PyProof.Rows.firstMet_succ, PyProof.Rows.step_dedup, PyProof.Rows.firstMet_any]
    have : (((List.range n).map val).any (· == val n)) = false := by
      rw [List.any_eq_false]
      intro y hy
      simp only [beq_iff_eq]
      exact h3 y hy (val n) (by simp)
    rw [this]
    simp [firstMet_nodup val n h1]
theorem firstMet_dup (val : Nat → Int) : ∀ n : Nat, ¬ ((List.range n).map val).Nodup → (PyProof.Rows.firstMet val n).length < n
  | 0, h => absurd (by simp) h
  | n + 1, h => by
    rw [PyProof.Rows.firstMet_succ, PyProof.Rows.step_dedup, PyProof.Rows.firstMet_any]
    by_cases q : ((List.range n).map val).Nodup
    · have : (((List.range n).map val).any (· == val n)) = true := by
        rw [List.any_eq_true]
        refine Classical.byContradiction fun hc => h ?_
        rw [List.range_succ, List.map_append, List.nodup_append]
        refine ⟨q, by simp, fun y hy z hz e => hc ⟨y, hy, ?_⟩⟩
        simp only [List.map_cons, List.map_nil, List.mem_singleton] at hz
        simp [e, hz]
      rw [this]
      have := PyProof.Rows.firstMet_length_le val n
      simp only [if_true]; lia
    · have := firstMet_dup val n q
      split
      · lia
      · simp; lia
theorem range_getD (ns : List Int) : (List.range ns.length).map (fun i => ns.getD i 0) = ns := by
  apply List.ext_getElem
  · simp
  · intro i h1 h2; simp at h1 h2 ⊢; simp [h2]

theorem sNset (hh : A.handled = none) (R : Rel base φ H s.heap) (ra : Rep base φ s.heap a x) (hw : wpU .nset a H P) (K : Cont base φ s P Q) :
    wpAny (model prog w) A (call (.type "set") [x]) (fun v s₁ => wpAny (model prog w) A (call (.builtin "len") [v]) Q E s₁) E s := by
  replace hw := refV_elim hw
  obtain ⟨k, xs, rfl, hk, hw⟩ := hw
  replace hw := optV_elim hw
  obtain ⟨is, hi, hw⟩ := hw
  · · skip
      obtain ⟨l, vs, n, rfl, _, hp, hr⟩ := rep_ref R ra hk
      have hI := ints_areL hi hr
      obtain ⟨hb, hw⟩ := hw
      have hlen := hI.length
      refine call_set_list hh (items := vs.toArray) ⟨_, hp, rfl, n, rfl⟩ hI (by simp only [List.size_toArray, scanBound]; lia) fun h' tk hS hk' => ?_
      obtain ⟨o, es, ep, t, ho, hex, hd, _, _, hbd, hf, hsz⟩ := hS
      have kp : ∀ b o, s.heap.get? b = some o → h'.get? b = some o := fun b o e => hk' b o (Heap.lt_size e) e
      refine call_len_set ho hex hd hf (by unfold scanBound at hbd; lia) ?_
      have : es.size = (PyProof.Rows.firstMet (fun i => is.getD i 0) is.length).length := by rw [hsz, List.size_toArray, hlen]
      rw [this]
      refine K.grow (h := h') R kp (hw _ (fun hn => ?_) fun hn => ?_) ⟨_, rfl⟩
      · exact firstMet_nodup _ _ (by rw [range_getD]; exact hn)
      · exact firstMet_dup _ _ (by rw [range_getD]; exact hn)

theorem sIsi {t : String} {u : U} (ht : (t = "int" ∧ u = .isInt) ∨ (t = "bool" ∧ u = .isBool) ∨ (t = "list" ∧ u = .isList) ∨ (t = "tuple" ∧ u = .isTuple))
    (R : Rel base φ H s.heap) (ra : Rep base φ s.heap a x) (hw : wpU u a H P) (K : Cont base φ s P Q) : wpAny (model prog w) A (call (.builtin "isinstance") [x, .type t]) Q E s := by
  have lst : ∀ {k : Nat}, Rep base φ s.heap (.ref k) x → ∃ l o, x = .ref l ∧ s.heap.get? l = some o ∧ o.cls = .type "list" := fun {k} r => by
    obtain ⟨l, rfl, hl⟩ := r
    obtain ⟨vs, n, _, h, _⟩ := R.lists k l hl
    exact ⟨l, _, rfl, h, rfl⟩
  cases a
  · rw [show x = .none from ra]
    rcases ht with ⟨rfl, rfl⟩ | ⟨rfl, rfl⟩ | ⟨rfl, rfl⟩ | ⟨rfl, rfl⟩
    · exact IsiPair.NoneType_int (K.tok _ R hw rfl)
    · exact IsiPair.NoneType_bool (K.tok _ R hw rfl)
    · exact IsiPair.NoneType_list (K.tok _ R hw rfl)
    · exact IsiPair.NoneType_tuple (K.tok _ R hw rfl)
  · rw [show x = .bool _ from ra]
    rcases ht with ⟨rfl, rfl⟩ | ⟨rfl, rfl⟩ | ⟨rfl, rfl⟩ | ⟨rfl, rfl⟩
    · exact IsiPair.bool_int (K.here R hw rfl)
    · exact IsiPair.bool_bool (K.here R hw rfl)
    · exact IsiPair.bool_list (K.tok _ R hw rfl)
    · exact IsiPair.bool_tuple (K.tok _ R hw rfl)
  · obtain ⟨tk, rfl⟩ := ra
    rcases ht with ⟨rfl, rfl⟩ | ⟨rfl, rfl⟩ | ⟨rfl, rfl⟩ | ⟨rfl, rfl⟩
    · exact IsiPair.int_int (K.here R hw rfl)
    · exact IsiPair.int_bool (K.tok _ R hw rfl)
    · exact IsiPair.int_list (K.tok _ R hw rfl)
    · exact IsiPair.int_tuple (K.tok _ R hw rfl)
  · obtain ⟨tk, rfl⟩ := ra
    rcases ht with ⟨rfl, rfl⟩ | ⟨rfl, rfl⟩ | ⟨rfl, rfl⟩ | ⟨rfl, rfl⟩
    · exact IsiPair.str_int (K.tok _ R hw rfl)
    · exact IsiPair.str_bool (K.tok _ R hw rfl)
    · exact IsiPair.str_list (K.tok _ R hw rfl)
    · exact IsiPair.str_tuple (K.tok _ R hw rfl)
  · obtain ⟨l, vs, rfl, ⟨o, ho, hc, _⟩, _⟩ := ra
    rcases ht with ⟨rfl, rfl⟩ | ⟨rfl, rfl⟩ | ⟨rfl, rfl⟩ | ⟨rfl, rfl⟩
    · exact IsiPair.tuple_int ho hc (K.tok _ R hw rfl)
    · exact IsiPair.tuple_bool ho hc (K.tok _ R hw rfl)
    · exact IsiPair.tuple_list ho hc (K.tok _ R hw rfl)
    · exact IsiPair.tuple_tuple ho hc (K.here R hw rfl)
  · obtain ⟨l, o, rfl, ho, hc⟩ := lst ra
    rcases ht with ⟨rfl, rfl⟩ | ⟨rfl, rfl⟩ | ⟨rfl, rfl⟩ | ⟨rfl, rfl⟩
    · exact IsiPair.list_int ho hc (K.tok _ R hw rfl)
    · exact IsiPair.list_bool ho hc (K.tok _ R hw rfl)
    · exact IsiPair.list_list ho hc (K.here R hw rfl)
    · exact IsiPair.list_tuple ho hc (K.tok _ R hw rfl)
  · obtain ⟨l, vs, rfl, hl, _⟩ := ra
    obtain ⟨o, ho, hc, _⟩ := R.frz hl
    rcases ht with ⟨rfl, rfl⟩ | ⟨rfl, rfl⟩ | ⟨rfl, rfl⟩ | ⟨rfl, rfl⟩
    · exact IsiPair.list_int ho hc (K.tok _ R hw rfl)
    · exact IsiPair.list_bool ho hc (K.tok _ R hw rfl)
    · exact IsiPair.list_list ho hc (K.here R hw rfl)
    · exact IsiPair.list_tuple ho hc (K.tok _ R hw rfl)
end
end Mine

open PySem
namespace Mine

theorem place_lt {i : Int} {n j : Nat} (h : place i n = some j) : j < n ∧ ((0 ≤ i ∧ i < n ∧ j = i.toNat) ∨ (i < 0 ∧ -(n : Int) ≤ i ∧ j = (i + n).toNat)) := by
  unfold place at h
  split at h
  · rename_i q; cases h; lia
  · split at h
    · rename_i q; cases h; lia
    · cases h

section
variable {prog : Program} {w : World} {A : Around} {E : Value → Shared → Prop} {base : Heap} {φ : List Addr} {H : Hp} {s : Shared} {P : PV} {Q : Value → Shared → Prop} {a b : V} {x y : Value}

theorem sItem {value slice : Expr} (hs : ∀ o i, subscripted slice false o i = operate [o, i] (getItem o i)) (R : Rel base φ H s.heap) (ra : Rep base φ s.heap a x) (rb : Rep base φ s.heap b y)
    (hw : wpB .item a b H P) (K : Cont base φ s P Q) : wpAny (model prog w) A (PyProof.Rows.subscriptTail value slice x y) Q E s := by
  replace hw := intV_elim hw
  obtain ⟨i, rfl, hw⟩ := hw
  change itemV a i H P at hw
  cases a with
  | ref k =>
    replace hw := optV_elim hw
    obtain ⟨xs, hk, hw⟩ := hw
    replace hw := optV_elim hw
    obtain ⟨j, hj, hw⟩ := hw
    replace hw := optV_elim hw
    obtain ⟨v, hv, hw⟩ := hw
    obtain ⟨l, vs, n, rfl, _, hp, hr⟩ := rep_ref R ra hk
    obtain ⟨t, rfl⟩ := rb
    obtain ⟨u, hu, ru⟩ := hr.get hv
    have hz := R.short hk
    have hl := hr.length
    have hT : s.heap.IsList l vs.toArray := ⟨_, hp, rfl, n, rfl⟩
    refine PyProof.Rows.tail_any hT.typeIs slot_list_getitem.lookup ?_ (hs _ _)
    obtain ⟨hjl, ⟨h0, h1, e⟩ | ⟨h0, h1, e⟩⟩ := place_lt hj
    · exact wpAny_getItem_list hT h0 (by unfold room at hz; lia) (by subst e; simpa using hu) (K.here R hw ru)
    · exact wpAny_getItem_list_neg hT h0 (by simp only [List.size_toArray, hl]; exact h1) (by unfold room at hz; lia) (by subst e; simpa [hl] using hu) (K.here R hw ru)
  | tup xs =>
    replace hw := optV_elim hw
    obtain ⟨j, hj, hw⟩ := hw
    replace hw := optV_elim hw
    obtain ⟨v, hv, hw⟩ := hw
    obtain ⟨l, vs, rfl, ht, hr, hz⟩ := ra
    obtain ⟨t, rfl⟩ := rb
    obtain ⟨u, hu, ru⟩ := hr.get hv
    have hl := hr.length
    obtain ⟨hjl, hc⟩ := place_lt hj
    have hT : s.TypeIs (.ref l) "tuple" := by obtain ⟨o, ho, hc, _⟩ := ht; exact ⟨o, ho, hc⟩
    refine PyProof.Rows.tail_any hT PyProof.Rows.slot_tuple_getitem.lookup ?_ (hs _ _)
    refine PyProof.Rows.getItem_tuple (isTup ht) (by unfold room at hz; lia) (by unfold room at hz; lia) (j := j) ?_ (by simpa using hu) (K.here R hw ru)
    simp only [List.size_toArray, hl]
    rcases hc with ⟨h0, h1, e⟩ | ⟨h0, h1, e⟩
    · rw [e]; exact seqIndex_of h0 h1
    · rw [e]; exact seqIndex_neg h0 h1
  | frz xs =>
    replace hw := optV_elim hw
    obtain ⟨j, hj, hw⟩ := hw
    replace hw := optV_elim hw
    obtain ⟨v, hv, hw⟩ := hw
    obtain ⟨l, vs, rfl, hb, hI, hz⟩ := ra
    obtain ⟨t, rfl⟩ := rb
    have hT := R.frz hb
    obtain ⟨u, hu, t', rfl⟩ := (ints_repL (base := base) (φ := φ) (h := s.heap) hI).get (i := j) (x := .int v) (by simp [zl, hv])
    have hl := hI.length
    refine PyProof.Rows.tail_any hT.typeIs slot_list_getitem.lookup ?_ (hs _ _)
    obtain ⟨hjl, ⟨h0, h1, e⟩ | ⟨h0, h1, e⟩⟩ := place_lt hj
    · exact wpAny_getItem_list hT h0 (by unfold room at hz; lia) (by subst e; simpa using hu) (K.here R hw ⟨_, rfl⟩)
    · exact wpAny_getItem_list_neg hT h0 (by simp only [List.size_toArray, hl]; exact h1) (by unfold room at hz; lia) (by subst e; simpa [hl] using hu) (K.here R hw ⟨_, rfl⟩)
  | _ => exact hw.elim

theorem part_is {v : V} {x : Value} {lo : Option Int} (e : part? v = some lo) (r : Rep base φ s.heap v x) : IsPart x lo := by
  cases v <;> simp only [part?, Option.some.injEq, reduceCtorEq] at e
  · subst e; rw [show x = .none from r]; exact .none
  · subst e; obtain ⟨t, rfl⟩ := r; exact .int _ _

/-- a cut of a list -/
theorem picked_rep {xs : List V} {vs : List Value} {lo hi : Option Int} (hr : RepL base φ s.heap xs vs) : ∃ us : List Value, slicePick vs.toArray lo hi none = us.toArray ∧ RepL base φ s.heap (picked xs lo hi) us := by
  refine ⟨_, slicePick_plain vs.toArray lo hi, ?_⟩
  have hl := hr.length
  unfold picked
  simp only [List.size_toArray, hl]
  exact RepL.take _ (RepL.drop _ hr)
theorem picked_len (xs : List V) (lo hi : Option Int) : (picked xs lo hi).length ≤ xs.length := by
  unfold picked; simp only [List.length_take, List.length_drop]; lia
end
end Mine

open PySem
namespace Mine

/-! ## the ground: what the top has left -/
noncomputable def biTab : List (Str × Value) :=
  [("len", .builtin "len"), ("list", .type "list"), ("tuple", .type "tuple"), ("sum", .builtin "sum"), ("sorted", .builtin "sorted"), ("abs", .builtin "abs"),
   ("set", .type "set"), ("reversed", .type "reversed"), ("range", .type "range"), ("enumerate", .type "enumerate"), ("isinstance", .builtin "isinstance"),
   ("int", .type "int"), ("bool", .type "bool"), ("max", .builtin "max"), ("min", .builtin "min"), ("zip", .type "zip")]
theorem bt {p : Str × Value} (n : Nat) (h : biTab[n]? = some p) : p ∈ biTab := List.mem_of_getElem? h

structure FnAt (base : Heap) (D : Tabs) (T : Nat → Option Fn) (a : Addr) (k : Nat) (o : Obj) (fd : FuncData) (body : List Stmt) (d : Fn) (params : List Str) : Prop where
  obj : base.get? a = some o
  dat : o.data = .func fd
  bod : fd.body = .stmts body
  code : base.CodeRec fd.code fd.qualname
  glob : fd.globals = mainGlobals
  clos : fd.closure = []
  blt : fd.builtins = builtinsNs
  tab : T k = some d
  comp : cFn D fd.scope params body = some d
  bind : ∀ vs : List Value, vs.length = params.length → bindArgs fd ⟨vs, []⟩ = pure (params.zip vs)

structure Ground (base : Heap) (D : Tabs) (T : Nat → Option Fn) (mg mb : Str → Option Value) : Prop where
  glob : base.Ns mainGlobals mg
  blt : base.Ns builtinsNs mb
  nolim : base.NoLimit
  const : ∀ x i, D.consts.lookup x = some i → ∃ t, mg x = some (.int i t)
  bi : ∀ p ∈ biTab, mg p.1 = none ∧ mb p.1 = some p.2
  fn : ∀ f k, D.fids.lookup f = some k → ∃ a o fd body d params, mg f = some (.ref a) ∧ FnAt base D T a k o fd body d params

/-- the calls of the text's own functions are sound -/
noncomputable def SoundC (prog : Program) (w : World) (base : Heap) (D : Tabs) (T : Nat → Option Fn) (C : Calls) (A : Around) : Prop :=
  ∀ (k : Nat) (a : Addr) (o : Obj) (fd : FuncData) (body : List Stmt) (d : Fn) (params : List Str) (vs : List V) (ws : List Value) (H : Hp) (P : PV) (φ : List Addr) (s : Shared) (Q : Value → Shared → Prop) (E : Value → Shared → Prop),
    FnAt base D T a k o fd body d params → Rel base φ H s.heap → RepL base φ s.heap vs ws → C k vs H P → Cont base φ s P Q → wpAny (model prog w) A (call (.ref a) ws []) Q E s

section
variable {prog : Program} {w : World} {base : Heap} {D : Tabs} {T : Nat → Option Fn} {mg mb : Str → Option Value} {C : Calls} {A : Around}

/-- an expression is sound -/
noncomputable def SE (prog : Program) (w : World) (base : Heap) (C : Calls) (A : Around) (e : Expr) (x : X) (sc : Scope) (Γ : List Str) (env : Env) : Prop :=
  ∀ (m : Loc) (φ : List Addr) (H : Hp) (s : Shared) (P : PV) (Q : Value → Shared → Prop) (E : Value → Shared → Prop),
    Rel base φ H s.heap → EnvR base φ sc env Γ m s.heap → wpE C x m H P → Cont base φ s P Q → wpAny (model prog w) A (eval e env) Q E s

/-- as a test -/
noncomputable def ST (prog : Program) (w : World) (base : Heap) (C : Calls) (A : Around) (e : Expr) (x : X) (sc : Scope) (Γ : List Str) (env : Env) : Prop :=
  ∀ (m : Loc) (φ : List Addr) (H : Hp) (s : Shared) (P : PV) (Q : Bool → Shared → Prop) (E : Value → Shared → Prop),
    Rel base φ H s.heap → EnvR base φ sc env Γ m s.heap → wpE C x m H P →
    (∀ v b φ' H' s', P v H' → truth v = some b → Step [] φ φ' s s' → Rel base φ' H' s'.heap → Q b s') →
    (∀ v H', P v H' → ∃ b, truth v = some b) → wpAny (model prog w) A (isTrue e env (eval e env)) Q E s

variable {sc : Scope} {Γ : List Str} {env : Env}

theorem truth_sound {base : Heap} {φ : List Addr} {M : Model} {E : Value → Shared → Prop} {s : Shared} {v : V} {x : Value} {b : Bool} {Q : Bool → Shared → Prop} (r : Rep base φ s.heap v x) (e : truth v = some b) (h : Q b s) :
    wpAny M A (truthy x) Q E s := by
  cases v <;> simp only [truth, Option.some.injEq, reduceCtorEq] at e
  · subst e; rw [show x = .none from r]; exact PyProof.Rows.truthy_none h
  · subst e; rw [show x = .bool _ from r]; exact wpAny_truthy_bool h

theorem not_star {e : Expr} {x : X} (h : cE D sc Γ e = some x) (rest : List Expr) : starEach (e :: rest) env = (false, eval e env) :: starEach rest env := by
  exact cE_elim (M := fun e _ => starEach (e :: rest) env = (false, eval e env) :: starEach rest env) (by intros; rfl) (by intros; rfl) (by intros; rfl) (by intros; rfl) (by intros; rfl) (by intros; rfl) (by intros; rfl) (by intros; rfl) (by intros; rfl) (by intros; rfl) (by intros; rfl) (by intros; rfl) (by intros; rfl) e x h

theorem se_args {pos : Pos} : ∀ (args : List Expr) (xs : List X), cEs D sc Γ args = some xs → (∀ e ∈ args, ∀ x, cE D sc Γ e = some x → SE prog w base C A e x sc Γ env) →
    ∀ (m : Loc) (φ : List Addr) (H : Hp) (s : Shared) (P : List V → Hp → Prop) (Q : List Value → Shared → Prop) (E : Value → Shared → Prop), Rel base φ H s.heap → EnvR base φ sc env Γ m s.heap → wpEs C xs m H P →
    (∀ vs ws φ' H' s', P vs H' → Step [] φ φ' s s' → Rel base φ' H' s'.heap → RepL base φ' s'.heap vs ws → vs.length = args.length → Q ws s') → wpAny (model prog w) A (spliced (backTo pos (starEach args env))) Q E s
  | [], xs, hc, _, m, φ, H, s, P, Q, E, R, W, hw, K => by
    simp only [cEs, Option.some.injEq] at hc; subst hc
    exact wpAny_items_nil (K [] [] φ H s hw (Step.refl _ _ _) R rfl rfl)
  | e :: r, xs, hc, IH, m, φ, H, s, P, Q, E, R, W, hw, K => by
    rcases cEs_cons hc with ⟨a, as, h1, h2, rfl⟩
    · skip
      simp only [wes_nil, wes_cons] at hw
      refine wpAny_items_cons (IH e (.head _) a h1 m φ H s _ _ E R W hw fun v x φ₁ H₁ s₁ hp st R₁ rv => ?_) (not_star h1 r)
      refine se_args r as h2 (fun e' he => IH e' (.tail _ he)) m φ₁ H₁ s₁ _ _ E R₁ (W.step R st) hp fun vs ws φ₂ H₂ s₂ hp₂ st₂ R₂ rvs hl => ?_
      exact K (v :: vs) (x :: ws) φ₂ H₂ s₂ hp₂ (st.trans st₂) R₂ ⟨x, ws, rfl, R₁.mono st₂ rv, rvs⟩ (by simp [hl])

/-- a global name of the top's -/
theorem glob_name (G : Ground base D T mg mb) {x : Str} {pos : Pos} {φ : List Addr} {H : Hp} {m : Loc} {s : Shared} {v : Value} {Q : Value → Shared → Prop} {E : Value → Shared → Prop} (R : Rel base φ H s.heap) (W : EnvR base φ sc env Γ m s.heap)
    (hx : isGlob sc x = true) (hd : (x == ("__debug__" : Str)) = false) (hv : mg x = some v) (h : Q v s) : wpAny (model prog w) A (eval (.Name x pos) env) Q E s := by
  have kd := W.kinds x
  have hk : env.kindOf x = some .globalImplicit := by
    unfold isGlob at hx
    split at hx
    · rename_i e; rw [e] at kd; exact kd
    · cases hx
  exact PySem.Calls.Name_function_global W.kind hk (PySem.Calls.loadGlobal_global (mg := mg) (by rw [W.glob]; exact G.glob.keeps R.keep) hv h) hd
theorem blt_name (G : Ground base D T mg mb) {x : Str} {pos : Pos} {φ : List Addr} {H : Hp} {m : Loc} {s : Shared} {v : Value} {Q : Value → Shared → Prop} {E : Value → Shared → Prop} (R : Rel base φ H s.heap) (W : EnvR base φ sc env Γ m s.heap)
    (hx : isGlob sc x = true) (hd : (x == ("__debug__" : Str)) = false) (hv : (x, v) ∈ biTab) (h : Q v s) : wpAny (model prog w) A (eval (.Name x pos) env) Q E s := by
  have kd := W.kinds x
  have hk : env.kindOf x = some .globalImplicit := by
    unfold isGlob at hx
    split at hx
    · rename_i e; rw [e] at kd; exact kd
    · cases hx
  obtain ⟨h1, h2⟩ := G.bi _ hv
  exact PySem.Calls.Name_function_global W.kind hk (PySem.Calls.loadGlobal_builtin (mg := mg) (mb := mb) (by rw [W.glob]; exact G.glob.keeps R.keep) h1 (by rw [W.blt]; exact G.blt.keeps R.keep) h2 h) hd

/-- a call of a built-in by its name -/
theorem se_call_b (G : Ground base D T mg mb) {f : Str} {p pos : Pos} {id : String} {args : List Expr} {xs : List X} (hb : (f, Value.builtin id) ∈ biTab) (hx : isGlob sc f = true) (hd : (f == ("__debug__" : Str)) = false)
    (hc : cEs D sc Γ args = some xs) (hne : args ≠ []) (IH : ∀ e ∈ args, ∀ x, cE D sc Γ e = some x → SE prog w base C A e x sc Γ env)
    {m : Loc} {φ : List Addr} {H : Hp} {s : Shared} {P : List V → Hp → Prop} {Q : Value → Shared → Prop} {E : Value → Shared → Prop} (R : Rel base φ H s.heap) (W : EnvR base φ sc env Γ m s.heap) (hw : wpEs C xs m H P)
    (K : ∀ vs ws φ' H' s', P vs H' → Step [] φ φ' s s' → Rel base φ' H' s'.heap → RepL base φ' s'.heap vs ws → wpAny (model prog w) A (call (.builtin id) ws) Q E s') :
    wpAny (model prog w) A (eval (.Call (.Name f p) args [] pos) env) Q E s := by
  refine wpAny_Call_NameR (blt_name G R W hx hd hb ?_)
  cases args with
  | nil => exact absurd rfl hne
  | cons e r =>
    have hs : ∃ a as, cE D sc Γ e = some a ∧ cEs D sc Γ r = some as := by
      rcases cEs_cons hc with ⟨a, as, h1, h2, rfl⟩
      · exact ⟨a, as, h1, h2⟩
    obtain ⟨a, as, h1, h2⟩ := hs
    have plain : ∀ (l : List Expr) (ys : List X), cEs D sc Γ l = some ys → (backTo pos (starEach l env)).any (·.1) = false := by
      intro l
      induction l with
      | nil => intro _ _; rfl
      | cons e' r' ih =>
        intro ys hys
        rcases cEs_cons hys with ⟨a', as', q1, q2, rfl⟩
        · skip
          rw [not_star q1, backTo, List.map_cons, List.any_cons]
          simp only [Bool.false_or]
          exact ih _ q2
    refine PySem.Calls.callWith_builtin (plain _ _ hc) ?_
    have e1 : backTo pos (starEach (e :: r) env) = (false, eval e env) :: backTo pos (starEach r env) := by rw [not_star h1]; rfl
    rw [e1]
    refine PySem.Calls.evalArgs_plain ?_
    rw [← e1]
    exact se_args (e :: r) xs hc IH m φ H s P _ E R W hw fun vs ws φ' H' s' hp st R' rv _ => K vs ws φ' H' s' hp st R' rv

theorem se_call_t (G : Ground base D T mg mb) {f : Str} {p pos : Pos} {id : String} {args : List Expr} {xs : List X} (hb : (f, Value.type id) ∈ biTab) (hx : isGlob sc f = true) (hd : (f == ("__debug__" : Str)) = false)
    (hc : cEs D sc Γ args = some xs) (hne : args ≠ []) (IH : ∀ e ∈ args, ∀ x, cE D sc Γ e = some x → SE prog w base C A e x sc Γ env)
    {m : Loc} {φ : List Addr} {H : Hp} {s : Shared} {P : List V → Hp → Prop} {Q : Value → Shared → Prop} {E : Value → Shared → Prop} (R : Rel base φ H s.heap) (W : EnvR base φ sc env Γ m s.heap) (hw : wpEs C xs m H P)
    (K : ∀ vs ws φ' H' s', P vs H' → Step [] φ φ' s s' → Rel base φ' H' s'.heap → RepL base φ' s'.heap vs ws → wpAny (model prog w) A (call (.type id) ws) Q E s') :
    wpAny (model prog w) A (eval (.Call (.Name f p) args [] pos) env) Q E s := by
  refine wpAny_Call_NameR (blt_name G R W hx hd hb ?_)
  cases args with
  | nil => exact absurd rfl hne
  | cons e r =>
    have hs : ∃ a as, cE D sc Γ e = some a ∧ cEs D sc Γ r = some as := by
      rcases cEs_cons hc with ⟨a, as, h1, h2, rfl⟩
      · exact ⟨a, as, h1, h2⟩
    obtain ⟨a, as, h1, h2⟩ := hs
    have plain : ∀ (l : List Expr) (ys : List X), cEs D sc Γ l = some ys → (backTo pos (starEach l env)).any (·.1) = false := by
      intro l
      induction l with
      | nil => intro _ _; rfl
      | cons e' r' ih =>
        intro ys hys
        rcases cEs_cons hys with ⟨a', as', q1, q2, rfl⟩
        · skip
          rw [not_star q1, backTo, List.map_cons, List.any_cons]
          simp only [Bool.false_or]
          exact ih _ q2
    refine callWith_type (plain _ _ hc) ?_
    have e1 : backTo pos (starEach (e :: r) env) = (false, eval e env) :: backTo pos (starEach r env) := by rw [not_star h1]; rfl
    rw [e1]
    refine PySem.Calls.evalArgs_plain ?_
    rw [← e1]
    exact se_args (e :: r) xs hc IH m φ H s P _ E R W hw fun vs ws φ' H' s' hp st R' rv _ => K vs ws φ' H' s' hp st R' rv

/-- a call of a function of the text's own -/
theorem se_call_f (G : Ground base D T mg mb) (hC : SoundC prog w base D T C A) {f : Str} {k : Nat} {p pos : Pos} {args : List Expr} {xs : List X} (hf : D.fids.lookup f = some k) (hx : isGlob sc f = true) (hd : (f == ("__debug__" : Str)) = false)
    (hc : cEs D sc Γ args = some xs) (IH : ∀ e ∈ args, ∀ x, cE D sc Γ e = some x → SE prog w base C A e x sc Γ env)
    {m : Loc} {φ : List Addr} {H : Hp} {s : Shared} {P : PV} {Q : Value → Shared → Prop} {E : Value → Shared → Prop} (R : Rel base φ H s.heap) (W : EnvR base φ sc env Γ m s.heap) (hw : wpEs C xs m H fun vs H' => C k vs H' P)
    (K : Cont base φ s P Q) : wpAny (model prog w) A (eval (.Call (.Name f p) args [] pos) env) Q E s := by
  obtain ⟨a, o, fd, body, d, params, hm, hF⟩ := G.fn f k hf
  refine wpAny_Call_NameR (glob_name G R W hx hd hm ?_)
  refine PySem.Calls.callWith_function (o := o) (fd := fd) ?_
  cases args with
  | nil =>
    simp only [cEs, Option.some.injEq] at hc; subst hc
    simp only [wes_nil, wes_cons] at hw
    exact evalArgs_none ⟨⟨R.keep _ _ hF.obj, hF.dat⟩, hC k a o fd body d params [] [] H P φ s Q E hF R rfl hw K⟩
  | cons e r =>
    have hs : ∃ a as, cE D sc Γ e = some a ∧ cEs D sc Γ r = some as := by
      rcases cEs_cons hc with ⟨a, as, h1, h2, rfl⟩
      · exact ⟨a, as, h1, h2⟩
    obtain ⟨a', as, h1, h2⟩ := hs
    have e1 : backTo pos (starEach (e :: r) env) = (false, eval e env) :: backTo pos (starEach r env) := by rw [not_star h1]; rfl
    rw [e1]
    refine PySem.Calls.evalArgs_plain ?_
    rw [← e1]
    refine se_args (e :: r) xs hc IH m φ H s _ _ E R W hw fun vs ws φ' H' s' hp st R' rv _ => ⟨⟨R'.keep _ _ hF.obj, hF.dat⟩, ?_⟩
    exact hC k a o fd body d params vs ws H' P φ' s' Q E hF R' rv hp (K.after st)
end
end Mine

open PySem
namespace Mine

/-- a walk over items that the machine's iterator I makes -/
structure Walk (prog : Program) (w : World) (base : Heap) (A : Around) (tg : Expr) (vs : List V) (src : List (Nat × List V)) (I : Addr) (wr : List Addr)
    (St : Nat → List Addr → Heap → Prop) (Mid : Nat → Value → List Addr → Heap → Prop) : Prop where
  wrobj : ∀ i φ h, St i φ h → ∀ b ∈ wr, ∃ o fs, h.get? b = some o ∧ o.data = .fields fs
  frame : ∀ i φ φ' h h', St i φ h → φ <+: φ' → (∀ b o fs, b ∈ wr → h.get? b = some o → o.data = .fields fs → h'.get? b = some o) → (∀ b o, h.get? b = some o → TupObj o → h'.get? b = some o) → St i φ' h'
  next : ∀ (i : Nat) (v : V) (s : Shared) (φ : List Addr) (H : Hp) (Q : Option Value → Shared → Prop) (E : Value → Shared → Prop), vs[i]? = some v → St i φ s.heap → Rel base φ H s.heap → Still src H →
    (∀ x h' tk, Mid i x φ h' → Rep base φ h' v x → (∀ b o, b ∉ wr → s.heap.get? b = some o → h'.get? b = some o) → Q (some x) { s with heap := h', toks := tk }) → wpAny (model prog w) A (pyNext (.ref I)) Q E s
  go : ∀ (i : Nat) (x : Value) (s : Shared) (φ : List Addr) (Q : Unit → Shared → Prop) (E : Value → Shared → Prop), Mid i x φ s.heap →
    (∀ h', St (i + 1) φ h' → (∀ b o, b ∉ wr → s.heap.get? b = some o → h'.get? b = some o) → Q () { s with heap := h' }) → wpAny (model prog w) A (letOwnedTupleGo tg (.ref I) x) Q E s
  done : ∀ (s : Shared) (φ : List Addr) (H : Hp) (Q : Option Value → Shared → Prop) (E : Value → Shared → Prop), St vs.length φ s.heap → Rel base φ H s.heap → Still src H →
    (∀ h' tk, (∀ b o, b ∉ wr → s.heap.get? b = some o → h'.get? b = some o) → Q none { s with heap := h', toks := tk }) → wpAny (model prog w) A (pyNext (.ref I)) Q E s
  self : ∀ (s : Shared) (φ : List Addr) (Q : Value → Shared → Prop) (E : Value → Shared → Prop), St 0 φ s.heap → Q (.ref I) s → wpAny (model prog w) A (pyIter (.ref I)) Q E s
  wrmid : ∀ i x φ h, Mid i x φ h → ∀ b ∈ wr, ∃ o fs, h.get? b = some o ∧ o.data = .fields fs
  mid : (∃ x p, tg = .Name x p) → ∀ i x φ h, Mid i x φ h → St (i + 1) φ h

section
variable {prog : Program} {w : World} {base : Heap} {A : Around}

theorem go_name {x : Str} {p : Pos} {it v : Value} {M : Model} {s : Shared} {Q : Unit → Shared → Prop} {E : Value → Shared → Prop} (h : Q () s) : wpAny M A (letOwnedTupleGo (.Name x p) it v) Q E s := wpAny_pure h

theorem sameBut_keep {a : Addr} {h h' : Heap} (hs : Heap.SameBut a h h') : ∀ b o, b ∉ [a] → h.get? b = some o → h'.get? b = some o :=
  fun b o hb e => hs.extBut b o (fun q => hb (by simp [q])) e
theorem extBut_keep {a : Addr} {h h' : Heap} (hs : Heap.ExtBut a h h') : ∀ b o, b ∉ [a] → h.get? b = some o → h'.get? b = some o :=
  fun b o hb e => hs b o (fun q => hb (by simp [q])) e

/-- a range -/
theorem Walk.range (hh : A.handled = none) (I : Addr) (a : Int) (n : Nat) (x : Str) (p : Pos) :
    Walk prog w base A (.Name x p) (nums a n) [] I [I] (fun i _ h => IsRangeIter h I (a + i) ((n : Int) - i) 1) (fun i _ _ h => IsRangeIter h I (a + (i + 1 : Nat)) ((n : Int) - (i + 1 : Nat)) 1) where
  wrobj := fun i φ h st b hb => by simp only [List.mem_singleton] at hb; subst hb; exact ⟨_, _, st, rfl⟩
  frame := fun i φ φ' h h' st _ hk _ => hk _ _ _ (by simp) st rfl
  next := fun i v s φ H Q E hv st R hs hQ => by
    have hi : i < n := by
      rcases Nat.lt_or_ge i n with q | q
      · exact q
      · rw [List.getElem?_eq_none (by simp [nums, q])] at hv; cases hv
    refine wpAny_pyNext_range_item st (by lia) fun h' st' hb => hQ _ h' _ ?_ ?_ (sameBut_keep hb)
    · have e1 : a + (i : Int) + 1 = a + (i + 1 : Nat) := by lia
      have e2 : (n : Int) - i - 1 = (n : Int) - (i + 1 : Nat) := by lia
      rw [e1, e2] at st'; exact st'
    · simp only [nums, List.getElem?_map, List.getElem?_range hi, Option.map_some, Option.some.injEq] at hv
      subst hv; exact ⟨_, rfl⟩
  go := fun i x s φ Q E hm hQ => go_name (hQ s.heap hm fun _ _ _ e => e)
  done := fun s φ H Q E st R hs hQ => wpAny_pyNext_range_end hh st (by simp [nums]) fun h' hb => hQ h' s.toks (extBut_keep hb)
  self := fun s φ Q E st h => wpAny_pyIter_rangeiter st h
  wrmid := fun i x φ h st b hb => by simp only [List.mem_singleton] at hb; subst hb; exact ⟨_, _, st, rfl⟩
  mid := fun _ _ _ _ _ h => h

/-- one of our lists -/
theorem Walk.list (hh : A.handled = none) (I : Addr) (k : Nat) (vs : List V) (x : Str) (p : Pos) :
    Walk prog w base A (.Name x p) vs [(k, vs)] I [I] (fun i φ h => ∃ l, φ[k]? = some l ∧ h.IsListIter I l i) (fun i _ φ h => ∃ l, φ[k]? = some l ∧ h.IsListIter I l (i + 1)) where
  wrobj := fun i φ h ⟨l, _, o, ho, _, hd⟩ b hb => by simp only [List.mem_singleton] at hb; subst hb; exact ⟨o, _, ho, hd⟩
  frame := fun i φ φ' h h' ⟨l, hl, o, ho, hc, hd⟩ hp hk _ => ⟨l, Vz hp hl, o, hk _ _ _ (by simp) ho hd, hc, hd⟩
  next := fun i v s φ H Q E hv st R hs hQ => by
    obtain ⟨l, hl, hit⟩ := st
    have hk := hs (k, vs) (by simp)
    obtain ⟨l', us, n, e, hl', ho, hr⟩ := R.list hk ⟨l, rfl, hl⟩
    cases e
    obtain ⟨u, hu, ru⟩ := hr.get hv
    have hne : l ≠ I := fun q => by
      obtain ⟨o, ho', _, hd⟩ := hit
      rw [← q, ho] at ho'; cases ho'; cases hd
    refine wpAny_pyNext_list_item hit ⟨_, ho, rfl, n, rfl⟩ (by simpa using hu) fun h' hit' hb => hQ u h' s.toks ⟨l, hl, hit'⟩ ?_ (sameBut_keep hb)
    exact ru.but (a := I) hb.extBut fun o e ⟨_, _, _, hd⟩ => by
      obtain ⟨o', ho', _, hd'⟩ := hit
      rw [e] at ho'; cases ho'; rw [hd] at hd'; cases hd'
  go := fun i x s φ Q E hm hQ => go_name (hQ s.heap hm fun _ _ _ e => e)
  done := fun s φ H Q E st R hs hQ => by
    obtain ⟨l, hl, hit⟩ := st
    have hk := hs (k, vs) (by simp)
    obtain ⟨l', us, n, e, hl', ho, hr⟩ := R.list hk ⟨l, rfl, hl⟩
    cases e
    exact wpAny_pyNext_list_end hh hit ⟨_, ho, rfl, n, rfl⟩ (by simp [hr.length]) fun h' hb => hQ h' s.toks (extBut_keep hb)
  self := fun s φ Q E st h => by obtain ⟨l, _, hit⟩ := st; exact wpAny_pyIter_listiter hit h
  wrmid := fun i x φ h ⟨l, _, o, ho, _, hd⟩ b hb => by simp only [List.mem_singleton] at hb; subst hb; exact ⟨o, _, ho, hd⟩
  mid := fun _ _ _ _ _ h => h

/-- a tuple -/
theorem Walk.tuple (hh : A.handled = none) (I t : Addr) (vs : List V) (x : Str) (p : Pos) :
    Walk prog w base A (.Name x p) vs [] I [I] (fun i φ h => h.IsTupleIter I t i ∧ ∃ us : List Value, h.IsTuple t us.toArray ∧ RepL base φ h vs us)
      (fun i _ φ h => h.IsTupleIter I t (i + 1) ∧ ∃ us : List Value, h.IsTuple t us.toArray ∧ RepL base φ h vs us) where
  wrobj := fun i φ h ⟨⟨o, ho, _, hd⟩, _⟩ b hb => by simp only [List.mem_singleton] at hb; subst hb; exact ⟨o, _, ho, hd⟩
  frame := fun i φ φ' h h' ⟨⟨o, ho, hc, hd⟩, us, ⟨o', ho', hc', n, hd'⟩, hr⟩ hp hk ht =>
    ⟨⟨o, hk _ _ _ (by simp) ho hd, hc, hd⟩, us, ⟨o', ht _ _ ho' ⟨hc', _, n, hd'⟩, hc', n, hd'⟩, RepL.mono hp ht vs us hr⟩
  next := fun i v s φ H Q E hv st R hs hQ => by
    obtain ⟨hit, us, htu, hr⟩ := st
    obtain ⟨u, hu, ru⟩ := hr.get hv
    have nt : ∀ o, s.heap.get? I = some o → ¬ TupObj o := fun o e ⟨_, _, _, hd⟩ => by
      obtain ⟨o', ho', _, hd'⟩ := hit
      rw [e] at ho'; cases ho'; rw [hd] at hd'; cases hd'
    refine wpAny_pyNext_tuple_item hit htu (by simpa using hu) fun h' hit' hb => hQ u h' s.toks ⟨hit', us, ?_, ?_⟩ (ru.but (a := I) hb.extBut nt) (sameBut_keep hb)
    · obtain ⟨o, ho, hc, n, hd⟩ := htu
      exact ⟨o, hb.extBut _ _ (fun q => nt o (q ▸ ho) ⟨hc, _, n, hd⟩) ho, hc, n, hd⟩
    · exact RepL.mono (List.prefix_refl _) (fun c o e c' => hb.extBut c o (fun q => nt o (q ▸ e) c') e) vs us hr
  go := fun i x s φ Q E hm hQ => go_name (hQ s.heap hm fun _ _ _ e => e)
  done := fun s φ H Q E st R hs hQ => by
    obtain ⟨hit, us, htu, hr⟩ := st
    exact wpAny_pyNext_tuple_end hh hit htu (by simp [hr.length]) fun h' hb => hQ h' s.toks (extBut_keep hb)
  self := fun s φ Q E st h => wpAny_pyIter_tupleiter st.1 h
  wrmid := fun i x φ h ⟨⟨o, ho, _, hd⟩, _⟩ b hb => by simp only [List.mem_singleton] at hb; subst hb; exact ⟨o, _, ho, hd⟩
  mid := fun _ _ _ _ _ h => h

/-- one of our lists, numbered -/
theorem Walk.enum (hh : A.handled = none) (e it : Addr) (hne : e ≠ it) (k : Nat) (vs : List V) (elts : List Expr) (j : Nat) (p : Pos) (hz : vs.length ≤ room) :
    Walk prog w base A (.Tuple elts j p) (pairs (nums 0 vs.length) vs) [(k, vs)] e [e, it]
      (fun i φ h => (∃ l, φ[k]? = some l ∧ h.IsListIter it l i) ∧ ∃ old, IsEnum h e it i old)
      (fun i x φ h => (∃ l, φ[k]? = some l ∧ h.IsListIter it l (i + 1)) ∧ ∃ T y, x = .ref T ∧ IsEnumOut h e it ((i : Int) + 1) y T) where
  wrobj := fun i φ h ⟨⟨l, _, o, ho, _, hd⟩, old, hE⟩ b hb => by
    simp only [List.mem_cons, List.not_mem_nil, or_false] at hb
    rcases hb with rfl | rfl
    · exact ⟨_, _, hE, rfl⟩
    · exact ⟨o, _, ho, hd⟩
  frame := fun i φ φ' h h' ⟨⟨l, hl, o, ho, hc, hd⟩, old, hE⟩ hp hk _ =>
    ⟨⟨l, Vz hp hl, o, hk _ _ _ (by simp) ho hd, hc, hd⟩, old, hk _ _ _ (by simp) hE rfl⟩
  next := fun i v s φ H Q E hv st R hs hQ => by
    obtain ⟨⟨l, hl, hit⟩, old, hE⟩ := st
    have hk := hs (k, vs) (by simp)
    obtain ⟨l', us, n, e', hl', ho, hr⟩ := R.list hk ⟨l, rfl, hl⟩
    cases e'
    have hi : i < vs.length := by
      rcases Nat.lt_or_ge i vs.length with q | q
      · exact q
      · rw [List.getElem?_eq_none (by simp [pairs, nums, q])] at hv; cases hv
    have hx : vs[i]? = some vs[i] := List.getElem?_eq_getElem hi
    have hvv : v = .tup [.int i, vs[i]] := by
      simp only [pairs, nums, List.getElem?_map, List.getElem?_zip_eq_some, Option.map_eq_some_iff, Prod.exists] at hv
      obtain ⟨a, b, ⟨h1, h2⟩, rfl⟩ := hv
      simp only [List.getElem?_range hi, Option.some.injEq] at h1
      obtain ⟨q, rfl, rfl⟩ := h1
      rw [hx] at h2; cases h2
      simp
    obtain ⟨u, hu, ru⟩ := hr.get hx
    have nfs : ∀ o, s.heap.get? e = some o → ¬ TupObj o := fun o q ⟨_, _, _, hd⟩ => by
      have hE' : s.heap.get? e = some _ := hE
      rw [q] at hE'; cases hE'; cases hd
    have nfs' : ∀ o, s.heap.get? it = some o → ¬ TupObj o := fun o q ⟨_, _, _, hd⟩ => by
      obtain ⟨o', ho', _, hd'⟩ := hit
      rw [q] at ho'; cases ho'; rw [hd] at hd'; cases hd'
    refine wpAny_pyNext_enum_item hE hit ⟨_, ho, rfl, n, rfl⟩ (by simpa using hu) hne fun h' hO hit' hT hsz hb => hQ _ h' _ ⟨⟨l, hl, hit'⟩, _, _, rfl, hO⟩ ?_ ?_
    · subst hvv
      refine ⟨_, [_, u], rfl, ⟨_, hT, rfl, 0, rfl⟩, ⟨_, _, rfl, ⟨_, rfl⟩, u, [], rfl, ?_, rfl⟩, by simp [room]⟩
      exact Rep.mono (List.prefix_refl _) (fun c o e c' => hb c o (fun q => nfs o (q ▸ e) c') (fun q => nfs' o (q ▸ e) c') e) _ _ ru
    · intro b o hb' e'
      simp only [List.mem_cons, List.not_mem_nil, or_false, not_or] at hb'
      exact hb b o hb'.1 hb'.2 e'
  go := fun i x s φ Q E hm hQ => by
    obtain ⟨⟨l, hl, hit⟩, T, y, rfl, hO⟩ := hm
    refine wpAny_letOwnedTupleGo_enum hO fun h' hE hb => hQ h' ⟨⟨l, hl, ?_⟩, _, by simpa using hE⟩ fun b o hb' e' => hb.extBut b o (fun q => hb' (by simp [q])) e'
    obtain ⟨o, ho, hc, hd⟩ := hit
    exact ⟨o, hb.extBut _ _ (Ne.symm hne) ho, hc, hd⟩
  done := fun s φ H Q E st R hs hQ => by
    obtain ⟨⟨l, hl, hit⟩, old, hE⟩ := st
    have hlen : (pairs (nums 0 vs.length) vs).length = vs.length := by simp [pairs, nums]
    rw [hlen] at hit hE
    have hk := hs (k, vs) (by simp)
    obtain ⟨l', us, n, e', hl', ho, hr⟩ := R.list hk ⟨l, rfl, hl⟩
    cases e'
    exact wpAny_pyNext_enum_end hh hE hit ⟨_, ho, rfl, n, rfl⟩ (by simp [hr.length]) fun h' hb => hQ h' s.toks fun b o hb' e' => hb b o (fun q => hb' (by simp [q])) e'
  self := fun s φ Q E st h => by obtain ⟨_, old, hE⟩ := st; exact wpAny_pyIter_enum hE h
  wrmid := fun i x φ h ⟨⟨l, _, o, ho, _, hd⟩, T, y, _, hO⟩ b hb => by
    simp only [List.mem_cons, List.not_mem_nil, or_false] at hb
    rcases hb with rfl | rfl
    · exact ⟨_, _, hO, rfl⟩
    · exact ⟨o, _, ho, hd⟩
  mid := fun ⟨_, _, q⟩ => nomatch q
end
end Mine

open PySem
namespace Mine

section
variable {base : Heap} {φ φ' φ₀ : List Addr} {H : Hp} {h h' : Heap} {sc : Scope} {env : Env} {Γ : List Str} {m : Loc} {wr : List Addr}

/-- what a walk keeps for itself -/
noncomputable def Fields (wr : List Addr) (h : Heap) : Prop := ∀ b ∈ wr, ∀ o, h.get? b = some o → ∃ fs, o.data = .fields fs

theorem Fields.tup (hf : Fields wr h) {b : Addr} {o : Obj} (e : h.get? b = some o) (t : TupObj o) : b ∉ wr := fun hb => by
  obtain ⟨fs, hd⟩ := hf b hb o e
  obtain ⟨_, vs, n, hd'⟩ := t
  rw [hd] at hd'; cases hd'

theorem Rel.butL (R : Rel base φ H h) (hf : Fields wr h) (hb : ∀ b ∈ wr, base.get? b = none) (hk : ∀ b o, b ∉ wr → h.get? b = some o → h'.get? b = some o) : Rel base φ H h' :=
  ⟨fun b o e => hk b o (fun q => by rw [hb b q] at e; cases e) (R.keep b o e), R.len, R.nodup, R.fresh, R.small, fun k b e => by
    obtain ⟨vs, n, xs, h1, h2, h3⟩ := R.lists k b e
    exact ⟨vs, n, xs, hk _ _ (fun q => by obtain ⟨fs, hd⟩ := hf b q _ h1; cases hd) h1, h2, RepL.mono (List.prefix_refl _) (fun c o e c' => hk c o (hf.tup e c') e) xs vs h3⟩⟩

theorem Rep.butL (hf : Fields wr h) (hk : ∀ b o, b ∉ wr → h.get? b = some o → h'.get? b = some o) {x : V} {v : Value} (r : Rep base φ h x v) : Rep base φ h' x v :=
  Rep.mono (List.prefix_refl _) (fun c o e c' => hk c o (hf.tup e c') e) x v r

theorem EnvR.butL (W : EnvR base φ sc env Γ m h) (hf : Fields wr h) (hk : ∀ b o, b ∉ wr → h.get? b = some o → h'.get? b = some o) : EnvR base φ sc env Γ m h' := by
  have cell : ∀ {c : Addr} {v : Option Value}, h.IsCell c v → h'.IsCell c v := fun {c v} ⟨o, ho, hd⟩ => by
    refine ⟨o, hk c o (fun q => ?_) ho, hd⟩
    obtain ⟨fs, hd'⟩ := hf c q o ho
    rw [hd] at hd'; cases hd'
  obtain ⟨mm, hn, hm⟩ := W.ns
  refine ⟨W.kind, W.glob, W.blt, W.len, W.kinds, W.fresh, ⟨mm, ?_, fun x i v h1 h2 h3 => ?_⟩, fun p e => ?_, fun x i v h1 h2 h3 => ?_, W.inj, W.has⟩
  · obtain ⟨o, es, ep, ho, hd, r⟩ := hn
    refine ⟨o, es, ep, hk _ _ (fun q => ?_) ho, hd, r⟩
    obtain ⟨fs, hd'⟩ := hf _ q o ho
    rw [hd] at hd'; cases hd'
  · obtain ⟨w, e, r⟩ := hm x i v h1 h2 h3
    exact ⟨w, e, r.butL hf hk⟩
  · obtain ⟨h1, v, hv⟩ := W.cellat p e
    exact ⟨h1, v, cell hv⟩
  · obtain ⟨c, w, e, hc, r⟩ := W.cellv x i v h1 h2 h3
    exact ⟨c, w, e, cell hc, r.butL hf hk⟩

/-- the walk's own turn is not seen from ahead of it -/
theorem Step.skip {ow : List Addr} {s₀ s s' : Shared} (st : Step ow φ₀ φ s₀ s) (hn : ∀ b ∈ wr, s₀.heap.get? b = none) (hk : ∀ b o, b ∉ wr → s.heap.get? b = some o → s'.heap.get? b = some o)
    (hs : ∃ h tk, s' = { s with heap := h, toks := tk }) : Step ow φ₀ φ s₀ s' := by
  refine ⟨st.pre, st.new, fun a o e h1 h2 => hk a o (fun q => by rw [hn a q] at e; cases e) (st.evo a o e h1 h2), fun a e => ?_, ?_⟩
  · obtain ⟨o, ho⟩ := Option.isSome_iff_exists.mp (st.live a e)
    rw [hk a o (fun q => by rw [hn a q] at e; cases e) ho]; rfl
  · obtain ⟨h, t, e⟩ := st.same
    obtain ⟨h', t', e'⟩ := hs
    exact ⟨h', t', by rw [e', e]⟩

/-- a step of the frame leaves what a walk keeps -/
theorem Step.walk {s s' : Shared} (st : Step (own env) φ φ' s s') (R : Rel base φ H s.heap) (W : EnvR base φ sc env Γ m s.heap) :
    ∀ b o fs, s.heap.get? b = some o → o.data = .fields fs → s'.heap.get? b = some o := fun b o fs e hd => by
  refine st.evo b o e (fun q => ?_) (fun q => ?_)
  · obtain ⟨vs, n, h⟩ := R.mem_list q
    rw [e] at h; cases h; cases hd
  · rcases List.mem_cons.mp q with rfl | q
    · obtain ⟨mm, ⟨o', es, ep, ho, hd', _⟩, _⟩ := W.ns
      rw [e] at ho; cases ho; rw [hd] at hd'; cases hd'
    · obtain ⟨p, hp, rfl⟩ := List.mem_map.mp q
      exact (W.cellat p hp).2.elim fun v ⟨o', ho, hd'⟩ => by rw [e] at ho; cases ho; rw [hd] at hd'; cases hd'
theorem Step.tups {s s' : Shared} (st : Step (own env) φ φ' s s') (R : Rel base φ H s.heap) (W : EnvR base φ sc env Γ m s.heap) :
    ∀ b o, s.heap.get? b = some o → TupObj o → s'.heap.get? b = some o := fun b o e t => by
  refine st.evo b o e (R.tuple_not e t) (fun q => ?_)
  obtain ⟨_, vs, n, hd⟩ := t
  rcases List.mem_cons.mp q with rfl | q
  · obtain ⟨mm, ⟨o', es, ep, ho, hd', _⟩, _⟩ := W.ns
    rw [e] at ho; cases ho; rw [hd] at hd'; cases hd'
  · obtain ⟨p, hp, rfl⟩ := List.mem_map.mp q
    exact (W.cellat p hp).2.elim fun v ⟨o', ho, hd'⟩ => by rw [e] at ho; cases ho; rw [hd] at hd'; cases hd'
end
end Mine

open PySem
namespace Mine

section
variable {D : Tabs} {sc : Scope} {Γ : List Str}

theorem const_kind {c : Const} {x : X} (h : cConst c = some x) : x = .none ∨ (∃ b, x = .bool b) ∨ (∃ i, x = .int i) ∨ ∃ s, x = .str s := by
  cases c <;> first | exact none_ne h | skip
  · cases h; exact .inl rfl
  · cases h; exact .inr (.inl ⟨_, rfl⟩)
  · cases h; exact .inr (.inr (.inl ⟨_, rfl⟩))
  · cases h; exact .inr (.inr (.inr ⟨_, rfl⟩))
theorem name_kind {y : Str} {x : X} (h : cName D sc Γ y = some x) : (∃ i, x = .var i) ∨ (∃ i, x = .int i) ∨ (x = .glob y ∧ (y == ("__debug__" : Str)) = false ∧ isGlob sc y = true) := by
  unfold cName at h
  split at h
  · cases h
  · rename_i hn
    simp only [Bool.or_eq_true, not_or, Bool.not_eq_true] at hn
    split at h
    · simp only [Option.map_eq_some_iff] at h
      obtain ⟨i, _, rfl⟩ := h
      exact .inl ⟨i, rfl⟩
    · split at h
      · rename_i hg
        split at h <;> cases h
        · exact .inr (.inl ⟨_, rfl⟩)
        · exact .inr (.inr ⟨rfl, hn.1, hg⟩)
      · cases h
theorem un_kind {op : PySem.UnaryOp} {y : Option X} {x : X} (h : cUn op y = some x) : (∃ a, op = .USub ∧ y = some a ∧ x = .un .neg a) ∨ ∃ a, op = .Not ∧ y = some a ∧ x = .not a := by
  cases op with
  | USub => obtain ⟨a, rfl, rfl⟩ := Option.map_eq_some_iff.mp h; exact .inl ⟨a, rfl, rfl, rfl⟩
  | Not => obtain ⟨a, rfl, rfl⟩ := Option.map_eq_some_iff.mp h; exact .inr ⟨a, rfl, rfl, rfl⟩
  | _ => exact none_ne h
theorem bool_kind {op : PySem.BoolOp} {v a o : Option X} {x : X} (h : cBool op v a o = some x) : (∃ p q, op = .And ∧ v = some p ∧ a = some q ∧ x = .and p q) ∨ ∃ p q, op = .Or ∧ v = some p ∧ o = some q ∧ x = .or p q := by
  cases op with
  | And => obtain ⟨p, q, h1, h2, h3⟩ := opt2_some h; cases h3; exact .inl ⟨p, q, rfl, h1, h2, rfl⟩
  | Or => obtain ⟨p, q, h1, h2, h3⟩ := opt2_some h; cases h3; exact .inr ⟨p, q, rfl, h1, h2, rfl⟩
theorem cmp_kind {ops : List CmpOp} {l : Option X} {rs : Option (List X)} {x : X} (h : cCmp ops l rs = some x) :
    (∃ op a b, ops = [op] ∧ l = some a ∧ rs = some [b] ∧ x = .bin (cmpOf op) a b) ∨ ∃ op₁ op₂ a b c, ops = [op₁, op₂] ∧ l = some a ∧ rs = some [b, c] ∧ x = .chain (cmpOf op₁) (cmpOf op₂) a b c := by
  obtain ⟨a, bs, h1, h2, h⟩ := opt2_some h
  cases ho : one? ops with
  | some op =>
    rw [ho] at h
    obtain ⟨b, hb, h⟩ := Option.bind_eq_some_iff.mp h
    cases h
    exact .inl ⟨op, a, b, one_eq ho, h1, by rw [h2, one_eq hb], rfl⟩
  | none =>
    rw [ho] at h
    obtain ⟨⟨o, o'⟩, ⟨b, c⟩, q1, q2, h⟩ := opt2_some h
    cases h
    exact .inr ⟨o, o', a, b, c, two_eq q1, h1, by rw [h2, two_eq q2], rfl⟩
theorem comp_kind {elt tg iter : Expr} {ifs : List Expr} {csc : Scope} {ix : Option X} {f g h' : List Str → Option X} {x : X} (h : cComp D sc Γ elt tg iter ifs csc ix f g h' = some x) : (∃ a b c, x = .zcomp a b c) ∨ ∃ a n i b c d, x = .comp a n i b c d := by
  obtain ⟨xs, _, _, ⟨a, b, e, _, _, _, _, _, _, rfl⟩ | ⟨ix, c, e, _, _, _, _, _, rfl⟩⟩ := cComp_cases h
  · exact .inl ⟨_, _, _, rfl⟩
  · exact .inr ⟨_, _, _, _, _, _, rfl⟩

theorem lookup_mem {α : Type} {l : List (Str × α)} {f : Str} {x : α} (h : l.lookup f = some x) : (f, x) ∈ l := by
  induction l with
  | nil => cases h
  | cons p r ih =>
    rw [List.lookup] at h
    split at h
    · rename_i q
      cases h
      rw [beq_iff_eq.mp q]
      exact .head _
    · exact .tail _ (ih h)
theorem call1_cases {f : Str} {a x : X} (h : call1 D f a = some x) :
    (f = Str.ofString "len" ∧ ((∃ e, a = .un .set e ∧ x = .un .nset e) ∨ x = .un .len a)) ∨
    (f = Str.ofString "list" ∧ ((∃ e, D.revs = true ∧ a = .un .reversed e ∧ x = .un .rev e) ∨ x = .un .list a)) ∨ ∃ u, (f, u) ∈ tab1 ∧ x = .un u a := by
  unfold call1 at h
  split at h
  · rename_i q
    refine .inl ⟨beq_iff_eq.mp q, ?_⟩
    split at h
    · cases h; exact .inl ⟨_, rfl, rfl⟩
    · cases h; exact .inr rfl
  · split at h
    · rename_i q
      refine .inr (.inl ⟨beq_iff_eq.mp q, ?_⟩)
      split at h
      · split at h
        · rename_i hr; cases h; exact .inl ⟨_, hr, rfl, rfl⟩
        · cases h
      · cases h; exact .inr rfl
    · obtain ⟨u, hu, rfl⟩ := Option.map_eq_some_iff.mp h
      exact .inr (.inr ⟨u, lookup_mem hu, rfl⟩)
theorem call2_cases {f : Str} {a b x : X} (h : call2 f a b = some x) : (f = Str.ofString "isinstance" ∧ ∃ t u, b = .glob t ∧ isiOf t = some u ∧ x = .un u a) ∨ ∃ o, (f, o) ∈ tab2 ∧ x = .bin o a b := by
  unfold call2 at h
  split at h
  · rename_i q
    split at h
    · obtain ⟨u, hu, rfl⟩ := Option.map_eq_some_iff.mp h
      exact .inl ⟨beq_iff_eq.mp q, _, u, rfl, hu, rfl⟩
    · cases h
  · obtain ⟨o, ho, rfl⟩ := Option.map_eq_some_iff.mp h
    exact .inr ⟨o, lookup_mem ho, rfl⟩
theorem mkCall_cases {f : Str} {as : List X} {x : X} (h : mkCall D f as = some x) :
    (∃ k, D.fids.lookup f = some k ∧ x = .call k as) ∨ (D.fids.lookup f = none ∧ ((∃ a, as = [a] ∧ call1 D f a = some x) ∨ ∃ a b, as = [a, b] ∧ call2 f a b = some x)) := by
  unfold mkCall at h
  split at h
  · rename_i k hk; cases h; exact .inl ⟨k, hk, rfl⟩
  · rename_i hf
    split at h
    · exact .inr ⟨hf, .inl ⟨_, rfl, h⟩⟩
    · exact .inr ⟨hf, .inr ⟨_, _, rfl, h⟩⟩
    · cases h
/-- what has no meaning by itself comes from a call -/
theorem inv_un {e : Expr} {u : U} {a : X} (h : cE D sc Γ e = some (.un u a)) (hu : u ≠ .neg) :
    ∃ f p args pos as, e = .Call (.Name f p) args [] pos ∧ (f == ("__debug__" : Str)) = false ∧ isGlob sc f = true ∧ cEs D sc Γ args = some as ∧ mkCall D f as = some (.un u a) := by
  refine cE_elim (M := fun e x => x = .un u a → ∃ f p args pos as, e = .Call (.Name f p) args [] pos ∧ (f == ("__debug__" : Str)) = false ∧ isGlob sc f = true ∧ cEs D sc Γ args = some as ∧ mkCall D f as = some (.un u a))
    ?_ ?_ ?_ ?_ ?_ ?_ ?_ ?_ ?_ ?_ ?_ ?_ ?_ e _ h rfl
  · rintro _ _ _ _ h rfl; simpa using const_kind h
  · rintro _ _ _ h rfl; simpa using name_kind h
  · rintro _ _ _ _ _ _ _ _ _ _ q; cases q
  · rintro _ _ _ _ h rfl
    rcases un_kind h with ⟨_, _, _, q⟩ | ⟨_, _, _, q⟩
    · cases q; exact absurd rfl hu
    · cases q
  · rintro _ _ _ _ _ h rfl; simpa using bool_kind h
  · rintro _ _ _ _ _ _ _ _ _ _ q; cases q
  · rintro _ _ _ _ _ h rfl; simpa using cmp_kind h
  · rintro _ _ _ _ _ q; cases q
  · rintro _ _ _ _ _ _ q; cases q
  · rintro _ _ _ _ _ _ _ _ _ _ _ q; cases q
  · rintro _ _ _ _ _ _ _ _ q; cases q
  · rintro f p args pos as _ h1 h2 h3 h4 rfl; exact ⟨f, p, args, pos, as, rfl, h1, h2, h3, h4⟩
  · rintro _ _ _ _ _ _ _ h rfl; simpa using comp_kind h

theorem inv_bin {e : Expr} {o : B} {a b : X} (h : cE D sc Γ e = some (.bin o a b)) (ho : o = .range ∨ o = .zip) :
    ∃ f p args pos as, e = .Call (.Name f p) args [] pos ∧ (f == ("__debug__" : Str)) = false ∧ isGlob sc f = true ∧ cEs D sc Γ args = some as ∧ mkCall D f as = some (.bin o a b) := by
  have hop : ∀ op : Operator, opOf op ≠ some o := fun op q => by cases op <;> simp [opOf] at q <;> (subst q; simp at ho)
  have hcmp : ∀ op : CmpOp, cmpOf op ≠ o := fun op q => by cases op <;> simp [cmpOf] at q <;> (subst q; simp at ho)
  have hit : B.item ≠ o := fun q => by subst q; simp at ho
  refine cE_elim (M := fun e x => x = .bin o a b → ∃ f p args pos as, e = .Call (.Name f p) args [] pos ∧ (f == ("__debug__" : Str)) = false ∧ isGlob sc f = true ∧ cEs D sc Γ args = some as ∧ mkCall D f as = some (.bin o a b))
    ?_ ?_ ?_ ?_ ?_ ?_ ?_ ?_ ?_ ?_ ?_ ?_ ?_ e _ h rfl
  · rintro _ _ _ _ h rfl; simpa using const_kind h
  · rintro _ _ _ h rfl; simpa using name_kind h
  · rintro _ _ _ _ _ _ _ h _ _ q; cases q; exact absurd h (hop _)
  · rintro _ _ _ _ h rfl; simpa using un_kind h
  · rintro _ _ _ _ _ h rfl; simpa using bool_kind h
  · rintro _ _ _ _ _ _ _ _ _ _ q; cases q
  · rintro _ _ _ _ _ h rfl
    rcases cmp_kind h with ⟨_, _, _, _, _, _, q⟩ | ⟨_, _, _, _, _, _, _, _, q⟩
    · cases q; exact absurd rfl (hcmp _)
    · cases q
  · rintro _ _ _ _ _ q; cases q
  · rintro _ _ _ _ _ _ q; cases q
  · rintro _ _ _ _ _ _ _ _ _ _ _ q; cases q
  · rintro _ _ _ _ _ _ _ _ q; cases q; exact absurd rfl hit
  · rintro f p args pos as _ h1 h2 h3 h4 rfl; exact ⟨f, p, args, pos, as, rfl, h1, h2, h3, h4⟩
  · rintro _ _ _ _ _ _ _ h rfl; simpa using comp_kind h

theorem inv_glob {e : Expr} {t : Str} (h : cE D sc Γ e = some (.glob t)) : ∃ p, e = .Name t p ∧ (t == ("__debug__" : Str)) = false ∧ isGlob sc t = true := by
  have nocall : ∀ f as, mkCall D f as ≠ some (.glob t) := fun f as q => by
    rcases mkCall_cases q with ⟨_, _, q⟩ | ⟨_, ⟨_, _, q⟩ | ⟨_, _, _, q⟩⟩
    · cases q
    · rcases call1_cases q with ⟨_, ⟨_, _, q⟩ | q⟩ | ⟨_, ⟨_, _, _, q⟩ | q⟩ | ⟨_, _, q⟩ <;> cases q
    · rcases call2_cases q with ⟨_, _, _, _, _, q⟩ | ⟨_, _, q⟩ <;> cases q
  refine cE_elim (M := fun e x => x = .glob t → ∃ p, e = .Name t p ∧ (t == ("__debug__" : Str)) = false ∧ isGlob sc t = true) ?_ ?_ ?_ ?_ ?_ ?_ ?_ ?_ ?_ ?_ ?_ ?_ ?_ e _ h rfl
  · rintro _ _ _ _ h rfl; simpa using const_kind h
  · rintro _ p _ h rfl
    rcases name_kind h with ⟨_, q⟩ | ⟨_, q⟩ | ⟨q, h1, h2⟩
    · cases q
    · cases q
    · cases q; exact ⟨p, rfl, h1, h2⟩
  · rintro _ _ _ _ _ _ _ _ _ _ q; cases q
  · rintro _ _ _ _ h rfl; simpa using un_kind h
  · rintro _ _ _ _ _ h rfl; simpa using bool_kind h
  · rintro _ _ _ _ _ _ _ _ _ _ q; cases q
  · rintro _ _ _ _ _ h rfl; simpa using cmp_kind h
  · rintro _ _ _ _ _ q; cases q
  · rintro _ _ _ _ _ _ q; cases q
  · rintro _ _ _ _ _ _ _ _ _ _ _ q; cases q
  · rintro _ _ _ _ _ _ _ _ q; cases q
  · rintro _ _ _ _ _ _ _ _ _ h rfl; exact absurd h (nocall _ _)
  · rintro _ _ _ _ _ _ _ h rfl; simpa using comp_kind h

theorem args1 {args : List Expr} {a : X} (h : cEs D sc Γ args = some [a]) : ∃ e, args = [e] ∧ cE D sc Γ e = some a := by
  cases args with
  | nil => rw [cEs_nil] at h; cases h
  | cons e r =>
    obtain ⟨x, y, h1, h2, h3⟩ := cEs_cons h
    cases h3
    cases r with
    | nil => exact ⟨e, rfl, h1⟩
    | cons e' r' => obtain ⟨_, _, _, _, h4⟩ := cEs_cons h2; cases h4
theorem args2 {args : List Expr} {a b : X} (h : cEs D sc Γ args = some [a, b]) : ∃ e e', args = [e, e'] ∧ cE D sc Γ e = some a ∧ cE D sc Γ e' = some b := by
  cases args with
  | nil => rw [cEs_nil] at h; cases h
  | cons e r =>
    obtain ⟨x, y, h1, h2, h3⟩ := cEs_cons h
    cases h3
    obtain ⟨e', rfl, h4⟩ := args1 h2
    exact ⟨e, e', rfl, h1, h4⟩
theorem isi_of {t : Str} {u : U} (h : isiOf t = some u) : (t = Str.ofString "int" ∧ u = .isInt) ∨ (t = Str.ofString "bool" ∧ u = .isBool) ∨ (t = Str.ofString "list" ∧ u = .isList) ∨ (t = Str.ofString "tuple" ∧ u = .isTuple) := by
  unfold isiOf at h
  repeat' split at h
  all_goals first | (cases h; done) | (simp only [Option.some.injEq] at h; rename_i q; have q' := beq_iff_eq.mp q; subst h; simp [q'])

theorem mk_un {f : Str} {as : List X} {u : U} {a : X} (h : mkCall D f as = some (.un u a)) (hu : u = .upto ∨ u = .enumerate ∨ u = .reversed ∨ u = .set) :
    D.fids.lookup f = none ∧ as = [a] ∧ ((u = .upto ∧ f = Str.ofString "range") ∨ (u = .enumerate ∧ f = Str.ofString "enumerate") ∨ (u = .reversed ∧ f = Str.ofString "reversed") ∨ (u = .set ∧ f = Str.ofString "set")) := by
  rcases mkCall_cases h with ⟨_, _, q⟩ | ⟨hf, ⟨b, rfl, q⟩ | ⟨_, _, _, q⟩⟩
  · cases q
  · rcases call1_cases q with ⟨_, ⟨_, _, q⟩ | q⟩ | ⟨_, ⟨_, _, _, q⟩ | q⟩ | ⟨v, hv, q⟩
    · cases q; simp at hu
    · cases q; simp at hu
    · cases q; simp at hu
    · cases q; simp at hu
    · cases q
      refine ⟨hf, rfl, ?_⟩
      simp only [tab1, List.mem_cons, Prod.mk.injEq, List.not_mem_nil, or_false] at hv
      rcases hu with rfl | rfl | rfl | rfl <;> simpa using hv
  · rcases call2_cases q with ⟨_, _, v, _, hv, q⟩ | ⟨_, _, q⟩
    · cases q
      rcases isi_of hv with ⟨_, q⟩ | ⟨_, q⟩ | ⟨_, q⟩ | ⟨_, q⟩ <;> (subst q; simp at hu)
    · cases q

theorem mk_bin {f : Str} {as : List X} {o : B} {a b : X} (h : mkCall D f as = some (.bin o a b)) (ho : o = .range ∨ o = .zip) :
    D.fids.lookup f = none ∧ as = [a, b] ∧ ((o = .range ∧ f = Str.ofString "range") ∨ (o = .zip ∧ f = Str.ofString "zip")) := by
  rcases mkCall_cases h with ⟨_, _, q⟩ | ⟨hf, ⟨b, rfl, q⟩ | ⟨_, _, rfl, q⟩⟩
  · cases q
  · rcases call1_cases q with ⟨_, ⟨_, _, q⟩ | q⟩ | ⟨_, ⟨_, _, _, q⟩ | q⟩ | ⟨v, hv, q⟩ <;> cases q
  · rcases call2_cases q with ⟨_, _, v, _, hv, q⟩ | ⟨v, hv, q⟩
    · cases q
    · cases q
      refine ⟨hf, rfl, ?_⟩
      simp only [tab2, List.mem_cons, Prod.mk.injEq, List.not_mem_nil, or_false] at hv
      rcases ho with rfl | rfl <;> simpa using hv
end
end Mine

open PySem
namespace Mine

section
variable {prog : Program} {w : World} {base : Heap} {A : Around}

/-- one of our lists, from behind -/
theorem Walk.rev (hh : A.handled = none) (I : Addr) (k : Nat) (vs : List V) (x : Str) (p : Pos) :
    Walk prog w base A (.Name x p) vs.reverse [(k, vs)] I [I] (fun i φ h => i ≤ vs.length ∧ ∃ l, φ[k]? = some l ∧ h.IsRevIter I l ((vs.length : Int) - 1 - i))
      (fun i _ φ h => i + 1 ≤ vs.length ∧ ∃ l, φ[k]? = some l ∧ h.IsRevIter I l ((vs.length : Int) - 1 - (i + 1 : Nat))) where
  wrobj := fun i φ h ⟨_, l, _, o, ho, _, hd⟩ b hb => by simp only [List.mem_singleton] at hb; subst hb; exact ⟨o, _, ho, hd⟩
  frame := fun i φ φ' h h' ⟨hi, l, hl, o, ho, hc, hd⟩ hp hk _ => ⟨hi, l, Vz hp hl, o, hk _ _ _ (by simp) ho hd, hc, hd⟩
  next := fun i v s φ H Q E hv st R hs hQ => by
    obtain ⟨_, l, hl, hit⟩ := st
    have hk := hs (k, vs) (by simp)
    obtain ⟨l', us, n, e, hl', ho, hr⟩ := R.list hk ⟨l, rfl, hl⟩
    cases e
    have hi : i < vs.length := by
      rcases Nat.lt_or_ge i vs.length with q | q
      · exact q
      · rw [List.getElem?_eq_none (by simp [q])] at hv; cases hv
    rw [List.getElem?_reverse hi] at hv
    obtain ⟨u, hu, ru⟩ := hr.get hv
    have e1 : (vs.length : Int) - 1 - i = ((vs.length - 1 - i : Nat) : Int) := by lia
    rw [e1] at hit
    refine wpAny_pyNext_rev_item hit ⟨_, ho, rfl, n, rfl⟩ (by simpa using hu) fun h' hit' hb => hQ u h' s.toks ⟨by lia, l, hl, ?_⟩ ?_ (sameBut_keep hb)
    · have e2 : ((vs.length - 1 - i : Nat) : Int) - 1 = (vs.length : Int) - 1 - (i + 1 : Nat) := by lia
      rw [e2] at hit'; exact hit'
    · exact ru.but (a := I) hb.extBut fun o e ⟨_, _, _, hd⟩ => by
        obtain ⟨o', ho', _, hd'⟩ := hit
        rw [e] at ho'; cases ho'; rw [hd] at hd'; cases hd'
  go := fun i x s φ Q E hm hQ => go_name (hQ s.heap hm fun _ _ _ e => e)
  done := fun s φ H Q E st R hs hQ => by
    obtain ⟨_, l, hl, hit⟩ := st
    have e1 : (vs.length : Int) - 1 - (vs.reverse.length : Nat) = -1 := by simp only [List.length_reverse]; lia
    rw [e1] at hit
    exact wpAny_pyNext_rev_end hh hit fun h' hb => hQ h' s.toks (extBut_keep hb)
  self := fun s φ Q E st h => by obtain ⟨_, l, _, hit⟩ := st; exact wpAny_pyIter_revIter hit h
  wrmid := fun i x φ h ⟨_, l, _, o, ho, _, hd⟩ b hb => by simp only [List.mem_singleton] at hb; subst hb; exact ⟨o, _, ho, hd⟩
  mid := fun _ _ _ _ _ h => h
end

theorem un_inj {o o' : U} {a b : X} : (X.un o a = X.un o' b) = (o = o' ∧ a = b) := propext ⟨fun h => by cases h; exact ⟨rfl, rfl⟩, fun h => by rw [h.1, h.2]⟩
noncomputable def TgOk (it : It) (tg : Expr) : Prop := (it = .enum → ∃ elts j p, tg = .Tuple elts j p) ∧ (it ≠ .enum → ∃ x p, tg = .Name x p)

section
variable {prog : Program} {w : World} {base : Heap} {D : Tabs} {T : Nat → Option Fn} {mg mb : Str → Option Value} {C : Calls} {A : Around} {sc : Scope} {Γ : List Str} {env : Env}

/-- what is handed to a loop -/
noncomputable def ContI (prog : Program) (w : World) (base : Heap) (A : Around) (tg : Expr) (φ : List Addr) (s : Shared) (P : List V → List (Nat × List V) → Hp → Prop) (Q : Value → Shared → Prop) : Prop :=
  ∀ vs src φ' H' s' I wr St Mid, P vs src H' → Step [] φ φ' s s' → Rel base φ' H' s'.heap → Walk prog w base A tg vs src I wr St Mid → St 0 φ' s'.heap → (∀ b ∈ wr, s.heap.get? b = none) → vs.length ≤ room → Q (.ref I) s'

theorem ContI.after {tg : Expr} {φ φ' : List Addr} {s s' : Shared} {P : List V → List (Nat × List V) → Hp → Prop} {Q : Value → Shared → Prop} (K : ContI prog w base A tg φ s P Q) (st : Step [] φ φ' s s') : ContI prog w base A tg φ' s' P Q :=
  fun vs src φ'' H'' s'' I wr St Mid hp st' R Wk h0 hn hz => K vs src φ'' H'' s'' I wr St Mid hp (st.trans st') R Wk h0 (fun b hb => by
    cases q : s.heap.get? b with
    | none => rfl
    | some o =>
      have := st.live b (by rw [q]; rfl)
      rw [hn b hb] at this; cases this) hz

/-- a list of ours is walked -/
theorem iter_seq (hh : A.handled = none) {tg : Expr} (ht : ∃ x p, tg = .Name x p) {φ : List Addr} {H : Hp} {s : Shared} {v : V} {x : Value} {P : List V → List (Nat × List V) → Hp → Prop} {Q : Value → Shared → Prop} {E : Value → Shared → Prop}
    (R : Rel base φ H s.heap) (r : Rep base φ s.heap v x) (hw : match seqOf H v with | some (vs, src) => P vs src H | none => False) (K : ContI prog w base A tg φ s P Q) :
    wpAny (model prog w) A (pyIter x) Q E s := by
  obtain ⟨xn, xp, rfl⟩ := ht
  cases v <;> simp only [seqOf] at hw
  · obtain ⟨t, us, rfl, htu, hr, hz⟩ := r
    refine wpAny_pyIter_tuple htu ?_
    have kp : ∀ b o, s.heap.get? b = some o → (s.heap.push { cls := .type "tuple_iterator", data := .fields #[.ref t, .int 0 0] }).get? b = some o := fun b o e => Heap.get?_push_of_some _ e
    refine K _ _ φ H _ s.heap.objs.size [s.heap.objs.size] _ _ hw (Step.grow (tk := s.toks) kp) (R.grow kp) (Walk.tuple hh s.heap.objs.size t _ xn xp) ⟨⟨_, Heap.get?_push_size _ rfl, rfl, rfl⟩, us, ?_, ?_⟩ ?_ hz
    · obtain ⟨o, ho, r⟩ := htu; exact ⟨o, kp _ _ ho, r⟩
    · exact RepL.mono (List.prefix_refl _) (fun b o e _ => kp b o e) _ _ hr
    · intro b hb; simp only [List.mem_singleton] at hb; subst hb; exact get_size _
  · split at hw
    · rename_i vs src hs
      split at hs
      · rename_i _ vs' hk
        simp only [Option.some.injEq, Prod.mk.injEq] at hs
        obtain ⟨rfl, rfl⟩ := hs
        obtain ⟨l, us, n, rfl, hl, hp, hr⟩ := rep_ref R r hk
        refine wpAny_pyIter_list ⟨_, hp, rfl, n, rfl⟩ ?_
        have kp : ∀ b o, s.heap.get? b = some o → (s.heap.push { cls := .type "list_iterator", data := .fields #[.ref l, .int 0 0] }).get? b = some o := fun b o e => Heap.get?_push_of_some _ e
        refine K _ _ φ H _ s.heap.objs.size [s.heap.objs.size] _ _ hw (Step.grow (tk := s.toks) kp) (R.grow kp) (Walk.list hh s.heap.objs.size _ _ xn xp) ⟨l, hl, _, Heap.get?_push_size _ rfl, rfl, rfl⟩ ?_ (R.short hk)
        intro b hb; simp only [List.mem_singleton] at hb; subst hb; exact get_size _
      · cases hs
    · exact hw.elim

/-- the head of a loop -/
theorem source (G : Ground base D T mg mb) (hh : A.handled = none) {iter : Expr} {ix : X} {tg : Expr} (ht : TgOk (itOf ix).1 tg) (hc : cE D sc Γ iter = some ix)
    (IH : ∀ e', sizeOf e' ≤ sizeOf iter → ∀ x, cE D sc Γ e' = some x → SE prog w base C A e' x sc Γ env)
    {m : Loc} {φ : List Addr} {H : Hp} {s : Shared} {P : List V → List (Nat × List V) → Hp → Prop} {Q : Value → Shared → Prop} {E : Value → Shared → Prop} (R : Rel base φ H s.heap) (W : EnvR base φ sc env Γ m s.heap)
    (hw : wpE C (itOf ix).2.1 m H fun v H₁ => wpE C (itOf ix).2.2 m H₁ fun z H₂ => match items (itOf ix).1 v z H₂ with | some (vs, src) => P vs src H₂ | none => False)
    (K : ContI prog w base A tg φ s P Q) : wpAny (model prog w) A (eval iter env) (fun x s₁ => wpAny (model prog w) A (pyIter x) Q E s₁) E s := by
  have range_go : ∀ {φ' : List Addr} {H' : Hp} {s' : Shared} {a b : Int} {t u v : Tok} {r : Addr}, IsRange s'.heap r a b 1 t u v → Rel base φ' H' s'.heap → ContI prog w base A tg φ' s' P Q → (∃ x p, tg = .Name x p) →
      (match items .range (.int a) (.int b) H' with | some (vs, src) => P vs src H' | none => False) → wpAny (model prog w) A (pyIter (.ref r)) Q E s' := by
    intro φ' H' s' a b t u v r hr R' K' htn hp
    obtain ⟨xn, xp, rfl⟩ := htn
    simp only [items] at hp
    split at hp
    · rename_i vs src hs
      split at hs
      · rename_i hb
        simp only [Option.some.injEq, Prod.mk.injEq] at hs
        obtain ⟨rfl, rfl⟩ := hs
        refine wpAny_pyIter_range hr (small_one (by lia) (by lia) (by lia) (by lia)) ?_
        rw [PyProof.Rows.rangeSize_nat]
        have kp : ∀ c o, s'.heap.get? c = some o → (s'.heap.push { cls := .type "range_iterator", data := .fields #[rawInt a, rawInt ((b - a).toNat : Int), rawInt 1] }).get? c = some o := fun c o e => Heap.get?_push_of_some _ e
        refine K' _ _ φ' H' _ s'.heap.objs.size [s'.heap.objs.size] _ _ hp (Step.grow (tk := s'.toks) kp) (R'.grow kp) (Walk.range hh s'.heap.objs.size a (b - a).toNat xn xp) ?_ ?_ ?_
        · show IsRangeIter _ _ _ _ _
          have := Heap.get?_push_size s'.heap (o := { cls := .type "range_iterator", data := .fields #[rawInt a, rawInt ((b - a).toNat : Int), rawInt 1] }) rfl
          simpa [IsRangeIter] using this
        · intro c hc; simp only [List.mem_singleton] at hc; subst hc; exact get_size _
        · simp only [nums, List.length_map, List.length_range]; unfold room; lia
      · cases hs
    · exact hp.elim
  unfold itOf at hw ht
  split at hw
  · -- range(b)
    rename_i a
    obtain ⟨f, p, args, pos, as, rfl, hd, hg, has, hm⟩ := inv_un hc (by simp)
    obtain ⟨hf, rfl, hff⟩ := mk_un hm (.inl rfl)
    simp only [reduceCtorEq, false_and, or_false, true_and] at hff
    subst hff
    obtain ⟨e1, rfl, h1⟩ := args1 has
    simp only [VN, VJ, VU, VS, VO, VT, Wc, VW, VF, VY, VV, Wb, VZ, VM, VK, VX, VE, VL, VD] at hw
    refine se_call_t (id := "range") G (bt 8 rfl) hg hd has (by simp) (fun e' he x hx => IH e' ?_ x hx) R W (P := fun vs H' => match vs with | [z] => (match items .range (.int 0) z H' with | some (vs, src) => P vs src H' | none => False) | _ => False) (by simpa [wes_nil, wes_cons] using hw) fun vs ws φ' H' s' hp st R' rv => ?_
    · simp only [List.mem_singleton] at he; subst he; simp <;> lia
    split at hp
    · rename_i z
      obtain ⟨wz, r, rfl, rz, hr⟩ := rv
      rw [show r = [] from hr]
      cases z <;> simp only [items] at hp
      obtain ⟨t, rfl⟩ := rz
      refine call_range_1 ?_
      exact range_go (Heap.get?_push_size _ rfl) (R'.grow fun c o e => Heap.get?_push_of_some _ e) ((K.after st).after (Step.grow fun c o e => Heap.get?_push_of_some _ e)) (ht.2 (by simp)) (by simpa [items] using hp)
    · exact hp.elim
  · -- range(a, b)
    rename_i a b
    obtain ⟨f, p, args, pos, as, rfl, hd, hg, has, hm⟩ := inv_bin hc (.inl rfl)
    obtain ⟨hf, rfl, hff⟩ := mk_bin hm (.inl rfl)
    simp only [reduceCtorEq, false_and, or_false, true_and] at hff
    subst hff
    refine se_call_t (id := "range") G (bt 8 rfl) hg hd has (by intro q; subst q; simp [cEs] at has) (fun e' he x hx => IH e' ?_ x hx) R W (P := fun vs H' => match vs with | [y, z] => (match items .range y z H' with | some (vs, src) => P vs src H' | none => False) | _ => False) (by simpa [wes_nil, wes_cons] using hw) fun vs ws φ' H' s' hp st R' rv => ?_
    · have := List.sizeOf_lt_of_mem he; simp <;> lia
    split at hp
    · rename_i y z
      obtain ⟨wy, r, rfl, ry, wz, r', rfl, rz, hr⟩ := rv
      rw [show r' = [] from hr]
      cases y <;> cases z <;> simp only [items] at hp
      obtain ⟨t, rfl⟩ := rz
      obtain ⟨t', rfl⟩ := ry
      refine call_range_2 ?_
      exact range_go (Heap.get?_push_size _ rfl) (R'.grow fun c o e => Heap.get?_push_of_some _ e) ((K.after st).after (Step.grow fun c o e => Heap.get?_push_of_some _ e)) (ht.2 (by simp)) (by simpa [items] using hp)
    · exact hp.elim
  · -- enumerate
    rename_i a
    obtain ⟨f, p, args, pos, as, rfl, hd, hg, has, hm⟩ := inv_un hc (by simp)
    obtain ⟨hf, rfl, hff⟩ := mk_un hm (.inr (.inl rfl))
    simp only [reduceCtorEq, false_and, or_false, false_or, true_and] at hff
    subst hff
    obtain ⟨e1, rfl, h1⟩ := args1 has
    refine se_call_t (id := "enumerate") G (bt 9 rfl) hg hd has (by simp) (fun e' he x hx => IH e' ?_ x hx) R W (P := fun vs H' => match vs with | [z] => (match items .enum z .none H' with | some (vs, src) => P vs src H' | none => False) | _ => False) (by simpa [wes_nil, wes_cons, VN, VJ, VU, VS, VO, VT, Wc, VW, VF, VY, VV, Wb, VZ, VM, VK, VX, VE, VL, VD] using hw) fun vs ws φ' H' s' hp st R' rv => ?_
    · simp only [List.mem_singleton] at he; subst he; simp <;> lia
    split at hp
    · rename_i z
      obtain ⟨wz, r, rfl, rz, hr⟩ := rv
      rw [show r = [] from hr]
      cases z <;> simp only [items] at hp
      split at hp
      · rename_i vs src hs
        split at hs
        · rename_i _ us hk
          simp only [Option.some.injEq, Prod.mk.injEq] at hs
          obtain ⟨rfl, rfl⟩ := hs
          obtain ⟨l, xs, n, rfl, hl, ho, hr'⟩ := rep_ref R' rz hk
          obtain ⟨elts, j, tp, rfl⟩ := ht.1 rfl
          refine call_enumerate_list ⟨_, ho, rfl, n, rfl⟩ fun h' hE hit hsz kp => ?_
          refine wpAny_pyIter_enum hE ?_
          have hz := R'.short hk
          refine (K.after st) _ _ φ' H' _ (s'.heap.objs.size + 1) [s'.heap.objs.size + 1, s'.heap.objs.size] _ _ hp (Step.grow (tk := s'.toks) kp) (R'.grow kp) (Walk.enum hh (s'.heap.objs.size + 1) s'.heap.objs.size (Nat.succ_ne_self _) _ us elts j tp hz) ⟨⟨l, hl, hit⟩, _, hE⟩ ?_ ?_
          · intro c hc
            simp only [List.mem_cons, List.not_mem_nil, or_false] at hc
            rcases hc with rfl | rfl
            · exact get_ge _ (by lia)
            · exact get_size _
          · simpa [pairs, nums] using hz
        · cases hs
      · exact hp.elim
    · exact hp.elim
  · -- reversed
    rename_i a
    obtain ⟨f, p, args, pos, as, rfl, hd, hg, has, hm⟩ := inv_un hc (by simp)
    obtain ⟨hf, rfl, hff⟩ := mk_un hm (.inr (.inr (.inl rfl)))
    simp only [reduceCtorEq, false_and, or_false, false_or, true_and] at hff
    subst hff
    obtain ⟨e1, rfl, h1⟩ := args1 has
    refine se_call_t (id := "reversed") G (bt 7 rfl) hg hd has (by simp) (fun e' he x hx => IH e' ?_ x hx) R W (P := fun vs H' => match vs with | [z] => (match items .rev z .none H' with | some (vs, src) => P vs src H' | none => False) | _ => False) (by simpa [wes_nil, wes_cons, VN, VJ, VU, VS, VO, VT, Wc, VW, VF, VY, VV, Wb, VZ, VM, VK, VX, VE, VL, VD] using hw) fun vs ws φ' H' s' hp st R' rv => ?_
    · simp only [List.mem_singleton] at he; subst he; simp <;> lia
    split at hp
    · rename_i z
      obtain ⟨wz, r, rfl, rz, hr⟩ := rv
      rw [show r = [] from hr]
      cases z <;> simp only [items] at hp
      split at hp
      · rename_i vs src hs
        split at hs
        · rename_i _ us hk
          simp only [Option.some.injEq, Prod.mk.injEq] at hs
          obtain ⟨rfl, rfl⟩ := hs
          obtain ⟨l, xs, n, rfl, hl, ho, hr'⟩ := rep_ref R' rz hk
          obtain ⟨xn, xp, rfl⟩ := ht.2 (by simp)
          refine call_reversed_list ⟨_, ho, rfl, n, rfl⟩ ?_
          have hit : (s'.heap.push (revObj l ((xs.toArray.size : Int) - 1))).IsRevIter s'.heap.objs.size l ((us.length : Int) - 1) := by
            refine ⟨_, Heap.get?_push_size _ rfl, rfl, ?_⟩
            have := hr'.length
            simp [revObj, this]
          refine wpAny_pyIter_revIter hit ?_
          have kp : ∀ c o, s'.heap.get? c = some o → (s'.heap.push (revObj l ((xs.toArray.size : Int) - 1))).get? c = some o := fun c o e => Heap.get?_push_of_some _ e
          have hz := R'.short hk
          refine (K.after st) _ _ φ' H' _ s'.heap.objs.size [s'.heap.objs.size] _ _ hp (Step.grow (tk := s'.toks) kp) (R'.grow kp) (Walk.rev hh s'.heap.objs.size _ us xn xp) ⟨by lia, l, hl, by simpa using hit⟩ ?_ (by simpa using hz)
          intro c hc; simp only [List.mem_singleton] at hc; subst hc; exact get_size _
        · cases hs
      · exact hp.elim
    · exact hp.elim
  · -- a list, a tuple
    simp only [VN, VJ, VU, VS, VO, VT, Wc, VW, VF, VY, VV, Wb, VZ, VM, VK, VX, VE, VL, VD, items] at hw
    refine IH iter (Nat.le_refl _) _ hc m φ H s _ _ E R W hw fun v x φ' H' s' hp st R' r => ?_
    refine iter_seq hh (ht.2 ?_) R' r hp (K.after st)
    split <;> simp_all [un_inj]
end
end Mine

open PySem
namespace Mine

/-! ## the block of a comprehension -/
noncomputable def clOf (env : Env) : List (Str × NameKind) → List (Str × Addr) → List (Str × Addr)
  | [], acc => acc
  | (n, k) :: r, acc => if k == .free then clOf env r ((n, (env.cells.lookup n).getD 0) :: acc) else clOf env r acc

theorem closure_loop {env : Env} (f : Str × NameKind → List (Str × Addr) → Sem (ForInStep (List (Str × Addr))))
    (hf : ∀ name kind cs, f (name, kind) cs = if kind == .free then (do let c ← cellOf env name; pure (.yield ((name, c) :: cs))) else pure (.yield cs)) :
    ∀ (names : List (Str × NameKind)) (acc : List (Str × Addr)), (∀ p ∈ names, p.2 = .free → ∃ c, env.cells.lookup p.1 = some c) → forIn names acc f = (pure (clOf env names acc) : Sem _)
  | [], acc, _ => by rw [List.forIn_nil]; rfl
  | (n, k) :: r, acc, h => by
    rw [List.forIn_cons, hf]
    have ih := fun acc' => closure_loop f hf r acc' fun p hp => h p (List.mem_cons_of_mem _ hp)
    unfold clOf
    by_cases hk : (k == .free) = true
    · obtain ⟨c, hc⟩ := h (n, k) List.mem_cons_self (by simpa using hk)
      rw [if_pos hk, if_pos hk]
      have hc' : env.cells.lookup n = some c := hc
      show ((cellOf env n >>= fun c => pure (ForInStep.yield ((n, c) :: acc))) >>= _) = _
      unfold cellOf
      rw [hc']
      exact ih _
    · rw [if_neg hk, if_neg hk]; exact ih _

theorem closureFor_eq {env : Env} {scope : Scope} (h : ∀ p ∈ scope.names, p.2 = .free → ∃ c, env.cells.lookup p.1 = some c) : closureFor scope env = pure (clOf env scope.names []) := by
  simp only [closureFor]
  rw [closure_loop _ (fun name kind cs => by cases hkc : kind == NameKind.free <;> simp [hkc]) scope.names [] h]
  rfl

theorem clOf_mem {env : Env} : ∀ (names : List (Str × NameKind)) (acc : List (Str × Addr)), (∀ p ∈ names, p.2 = .free → ∃ c, env.cells.lookup p.1 = some c) → (∀ p ∈ acc, env.cells.lookup p.1 = some p.2) →
    ∀ p ∈ clOf env names acc, env.cells.lookup p.1 = some p.2
  | [], _, _, ha => ha
  | (n, k) :: r, acc, h, ha => by
    unfold clOf
    split
    · rename_i hk
      obtain ⟨c, hc⟩ := h (n, k) List.mem_cons_self (by simpa using hk)
      refine clOf_mem r _ (fun p hp => h p (List.mem_cons_of_mem _ hp)) fun p hp => ?_
      rcases List.mem_cons.mp hp with rfl | hp
      · show env.cells.lookup n = some ((env.cells.lookup n).getD 0)
        rw [show env.cells.lookup n = some c from hc]; rfl
      · exact ha p hp
    · exact clOf_mem r acc (fun p hp => h p (List.mem_cons_of_mem _ hp)) ha
theorem clOf_sub {env : Env} : ∀ (names : List (Str × NameKind)) (acc : List (Str × Addr)), ∀ p ∈ acc, p ∈ clOf env names acc
  | [], _, _, h => h
  | (n, k) :: r, acc, p, h => by
    unfold clOf
    split
    · exact clOf_sub r _ p (List.mem_cons_of_mem _ h)
    · exact clOf_sub r acc p h
theorem clOf_has {env : Env} : ∀ (names : List (Str × NameKind)) (acc : List (Str × Addr)) (y : Str), (y, NameKind.free) ∈ names → ∃ c, (y, c) ∈ clOf env names acc
  | (n, k) :: r, acc, y, h => by
    unfold clOf
    rcases List.mem_cons.mp h with e | h
    · cases e
      simp only [BEq.rfl, if_true]
      exact ⟨_, clOf_sub r _ _ List.mem_cons_self⟩
    · split
      · exact clOf_has r _ y h
      · exact clOf_has r _ y h
theorem lookup_some_of_mem : ∀ {l : List (Str × Addr)} {y : Str} {c : Addr}, (y, c) ∈ l → ∃ d, l.lookup y = some d
  | (k, v) :: r, y, c, h => by
    rw [List.lookup_cons]
    cases hb : y == k with
    | true => exact ⟨v, rfl⟩
    | false =>
      rcases List.mem_cons.mp h with e | h
      · cases e; simp at hb
      · exact lookup_some_of_mem h

theorem cellsFrom_acc : ∀ (names : List (Str × NameKind)) (n : Nat) (acc : List (Str × Addr)), cellsFrom n names acc = cellsFrom n names [] ++ acc
  | [], _, _ => rfl
  | (x, k) :: r, n, acc => by
    unfold cellsFrom
    split
    · rw [cellsFrom_acc r (n + 1) ((x, n) :: acc), cellsFrom_acc r (n + 1) [(x, n)]]; simp
    · exact cellsFrom_acc r n acc
theorem cellsFrom_mem : ∀ (names : List (Str × NameKind)) (n : Nat) (p : Str × Addr), p ∈ cellsFrom n names [] → (p.1, NameKind.cell) ∈ names
  | (x, k) :: r, n, p, h => by
    unfold cellsFrom at h
    split at h
    · rename_i hk
      rw [cellsFrom_acc] at h
      rcases List.mem_append.mp h with h | h
      · exact List.mem_cons_of_mem _ (cellsFrom_mem r _ p h)
      · simp only [List.mem_singleton] at h; subst h
        have : k = .cell := by simpa using hk
        subst this; exact List.mem_cons_self
    · exact List.mem_cons_of_mem _ (cellsFrom_mem r _ p h)
theorem cellsFrom_has : ∀ (names : List (Str × NameKind)) (n : Nat) (y : Str), (y, NameKind.cell) ∈ names → ∃ c, (y, c) ∈ cellsFrom n names []
  | (x, k) :: r, n, y, h => by
    unfold cellsFrom
    rcases List.mem_cons.mp h with e | h
    · cases e
      simp only [BEq.rfl, if_true]
      rw [cellsFrom_acc]
      exact ⟨n, List.mem_append_right _ (by simp)⟩
    · split
      · rw [cellsFrom_acc]
        obtain ⟨c, hc⟩ := cellsFrom_has r (n + 1) y h
        exact ⟨c, List.mem_append_left _ hc⟩
      · exact cellsFrom_has r n y h

theorem lookup_append_left {l l' : List (Str × Addr)} {y : Str} {d : Addr} (h : l.lookup y = some d) : (l ++ l').lookup y = some d := by
  induction l with
  | nil => simp at h
  | cons p r ih =>
    obtain ⟨k, v⟩ := p
    rw [List.cons_append, List.lookup_cons]
    rw [List.lookup_cons] at h
    cases hb : y == k with
    | true => rw [hb] at h; exact h
    | false => rw [hb] at h; exact ih h
theorem lookup_append_right {l l' : List (Str × Addr)} {y : Str} (h : ∀ c, (y, c) ∉ l) : (l ++ l').lookup y = l'.lookup y := by
  induction l with
  | nil => rfl
  | cons p r ih =>
    obtain ⟨k, v⟩ := p
    rw [List.cons_append, List.lookup_cons]
    cases hb : y == k with
    | true => exact absurd (by rw [beq_iff_eq.mp hb]; exact List.mem_cons_self) (h v)
    | false => exact ih fun c hc => h c (List.mem_cons_of_mem _ hc)

theorem mem_lookupK : ∀ {l : List (Str × NameKind)} {y : Str} {k : NameKind}, l.lookup y = some k → (y, k) ∈ l := mem_of_lookup

theorem relabel_lookup {csc : Scope} {env : Env} (x : Str) : (relabel csc env).names.lookup x = match csc.names.lookup x with
    | some .free => if (env.scope.kind == .function && env.kindOf x == some .cell) = true then some .cell else some .free
    | k => k := by
  have key : ∀ names : List (Str × NameKind), (names.map fun (n, k) => if (k == NameKind.free && env.scope.kind == .function && env.kindOf n == some .cell) then (n, NameKind.cell) else (n, k)).lookup x = match names.lookup x with
    | some .free => if (env.scope.kind == .function && env.kindOf x == some .cell) = true then some .cell else some .free
    | k => k := by
    intro names
    induction names with
    | nil => simp
    | cons p r ih =>
      obtain ⟨n, k⟩ := p
      rw [List.map_cons, List.lookup_cons]
      cases hx : x == n with
      | true =>
        have hxn := beq_iff_eq.mp hx
        subst hxn
        dsimp only
        by_cases hc : (k == NameKind.free && env.scope.kind == .function && env.kindOf x == some .cell) = true
        · rw [if_pos hc, List.lookup_cons, hx]
          simp only [Bool.and_eq_true, beq_iff_eq] at hc
          obtain ⟨⟨rfl, h2⟩, h3⟩ := hc
          simp [h2, h3]
        · rw [if_neg hc, List.lookup_cons, hx]
          cases k <;> simp_all
      | false =>
        dsimp only
        by_cases hc : (k == NameKind.free && env.scope.kind == .function && env.kindOf n == some .cell) = true
        · rw [if_pos hc, List.lookup_cons, hx]; exact ih
        · rw [if_neg hc, List.lookup_cons, hx]; exact ih
  exact key csc.names
theorem relabel_kinds {csc : Scope} {env : Env} (x : Str) : KindOk (csc.names.lookup x) ((relabel csc env).names.lookup x) := by
  rw [relabel_lookup]
  cases q : csc.names.lookup x with
  | none => trivial
  | some k => cases k <;> simp only [KindOk] <;> (split <;> simp)
theorem relabel_back {csc : Scope} {env : Env} {x : Str} (h : (relabel csc env).names.lookup x = some .cell ∨ (relabel csc env).names.lookup x = some .free) :
    csc.names.lookup x = some .cell ∨ csc.names.lookup x = some .free := by
  rw [relabel_lookup] at h
  cases q : csc.names.lookup x with
  | none => rw [q] at h; simp at h
  | some k => rw [q] at h; cases k <;> simp_all
theorem relabel_local {csc : Scope} {env : Env} {x : Str} (h : (relabel csc env).names.lookup x = some .local) : csc.names.lookup x = some .local := by
  rw [relabel_lookup] at h
  cases q : csc.names.lookup x with
  | none => rw [q] at h; simp at h
  | some k =>
    rw [q] at h
    cases k <;> simp_all
    split at h <;> simp at h

theorem okScope_once {sc : Scope} (h : okScope sc = true) {p : Str × NameKind} (hp : p ∈ sc.names) : sc.names.lookup p.1 = some p.2 := by
  unfold okScope at h
  simp only [Bool.and_eq_true, List.all_eq_true, beq_iff_eq] at h
  exact h.2 p hp
theorem okScope_kind {sc : Scope} (h : okScope sc = true) : sc.kind = .function := by
  unfold okScope at h
  simp only [Bool.and_eq_true, beq_iff_eq] at h
  exact h.1

section
variable {base : Heap} {φ : List Addr} {H : Hp} {sc csc : Scope} {env : Env} {Γ : List Str} {m : Loc}

theorem comp_free (W : EnvR base φ sc env Γ m h) (hok : okComp sc csc = true) : ∀ p ∈ csc.names, p.2 = .free → ∃ c, env.cells.lookup p.1 = some c := fun p hp hf => by
  unfold okComp at hok
  simp only [Bool.and_eq_true, List.all_eq_true] at hok
  have := hok.2 p hp
  rw [hf] at this
  have kd := W.kinds p.1
  dsimp only at this
  split at this
  · rename_i e; rw [e] at kd; exact W.has _ (.inl kd)
  · rename_i e; rw [e] at kd; exact W.has _ kd
  · cases this

/-- the new block -/
theorem comp_env {M : Model} {A : Around} {E : Value → Shared → Prop} {s : Shared} (hok : okComp sc csc = true) (W : EnvR base φ sc env Γ m s.heap) (R : Rel base φ H s.heap) (xs : List Str) (hown : okOwn csc Γ xs = true) (hxs : ∀ x ∈ xs, isOwn csc x = true)
    {Q : Env → Shared → Prop}
    (h : ∀ cenv s', (∀ a o, s.heap.get? a = some o → s'.heap.get? a = some o) → Step [] φ φ s s' → Rel base φ H s'.heap →
      EnvR base φ csc { cenv with scope := relabel csc env } (xs.reverse ++ Γ) (m ++ List.replicate xs.length none) s'.heap →
      EnvR base φ csc { cenv with scope := relabel csc env } xs.reverse (List.replicate xs.length none) s'.heap → s.heap.get? cenv.locals = none →
      (∀ x ∈ xs, ∀ a, Env.kindOf { cenv with scope := relabel csc env } x = some .cell → cenv.cells.lookup x = some a → s.heap.get? a = none) → Q cenv s') :
    wpAny M A (newFunctionEnv csc env.globals (clOf env csc.names []) [] env.qual none .none (some env)) Q E s := by
  have hsc : okScope csc = true := by unfold okComp at hok; simp only [Bool.and_eq_true] at hok; exact hok.1
  have hfree := comp_free W hok
  simp only [newFunctionEnv, Option.isSome_some, if_true]
  refine wpAny_bind (wpAny_alloc ?_)
  refine wpAny_bind (wpAny_layCells _ (fun name kind cells => by cases hkc : kind == NameKind.cell <;> simp [hkc]) _ _ _ _ ?_)
  have ok := cellsFrom_ok csc.names (s.heap.push { cls := .type "dict", data := .dict #[] }) (s.heap.objs.size + 1) [] ⟨fun _ _ hm => (nomatch hm), List.Pairwise.nil⟩ (by rw [Heap.size_push]; exact Nat.le_refl _)
  rw [Heap.size_push] at ok
  rw [show ({ s with heap := s.heap.push { cls := .type "dict", data := .dict #[] } } : Shared).heap.objs.size = s.heap.objs.size + 1 from Heap.size_push ..]
  refine wpAny_bind ?_
  rw [List.forIn_nil]
  refine wpAny_pure (wpAny_pure ?_)
  have kp : ∀ a o, s.heap.get? a = some o → (pushCells (s.heap.push { cls := .type "dict", data := .dict #[] }) csc.names).get? a = some o := fun a o e => pushCells_keeps _ _ _ _ (Heap.get?_push_of_some _ e)
  have R' : Rel base φ H (pushCells (s.heap.push { cls := .type "dict", data := .dict #[] }) csc.names) := R.grow kp
  have hn : (pushCells (s.heap.push { cls := .type "dict", data := .dict #[] }) csc.names).Ns s.heap.objs.size fun _ => none := (Heap.Ns.new s.heap (.type "dict")).keeps (pushCells_keeps _ _)
  have hcl := clOf_mem csc.names [] hfree (fun _ hm => nomatch hm)
  have big : ∀ a : Addr, s.heap.objs.size ≤ a → base.get? a = none := fun a ha => by
    cases q : base.get? a with
    | none => rfl
    | some o => have := Heap.lt_size (R.keep a o q); exact absurd this (Nat.not_lt.mpr ha)
  have ecs : cellsFrom (s.heap.objs.size + 1) csc.names (clOf env csc.names []) = cellsFrom (s.heap.objs.size + 1) csc.names [] ++ clOf env csc.names [] := cellsFrom_acc _ _ _
  -- the cells
  have at1 : ∀ p ∈ cellsFrom (s.heap.objs.size + 1) csc.names [] ++ clOf env csc.names [], base.get? p.2 = none ∧ ∃ v, (pushCells (s.heap.push { cls := .type "dict", data := .dict #[] }) csc.names).IsCell p.2 v := fun p hp => by
    rcases List.mem_append.mp hp with hp | hp
    · have := ok.empty p.1 p.2 hp
      exact ⟨big _ (by lia), none, this.1⟩
    · obtain ⟨h1, v, o, ho, hd⟩ := W.cellat (p.1, p.2) (mem_of_lookup (hcl p hp))
      exact ⟨h1, v, o, kp _ _ ho, hd⟩
  have lk_cell : ∀ y, csc.names.lookup y = some .cell → ∃ c, (cellsFrom (s.heap.objs.size + 1) csc.names [] ++ clOf env csc.names []).lookup y = some c ∧ (y, c) ∈ cellsFrom (s.heap.objs.size + 1) csc.names [] := fun y hy => by
    obtain ⟨c, hc⟩ := cellsFrom_has csc.names (s.heap.objs.size + 1) y (mem_lookupK hy)
    obtain ⟨d, hd⟩ := lookup_some_of_mem hc
    exact ⟨d, lookup_append_left hd, mem_of_lookup hd⟩
  have lk_free : ∀ y, csc.names.lookup y = some .free → (cellsFrom (s.heap.objs.size + 1) csc.names [] ++ clOf env csc.names []).lookup y = env.cells.lookup y ∧ ∃ c, env.cells.lookup y = some c := fun y hy => by
    have e1 : (cellsFrom (s.heap.objs.size + 1) csc.names [] ++ clOf env csc.names []).lookup y = (clOf env csc.names []).lookup y := lookup_append_right fun c hc => by
      have := okScope_once hsc (cellsFrom_mem _ _ _ hc)
      rw [hy] at this; cases this
    obtain ⟨c, hc⟩ := clOf_has (env := env) csc.names [] y (mem_lookupK hy)
    obtain ⟨d, hd⟩ := lookup_some_of_mem hc
    have := hcl (y, d) (mem_of_lookup hd)
    exact ⟨by rw [e1, hd]; exact this.symm, d, this⟩
  have old : ∀ p ∈ clOf env csc.names [], p.2 < s.heap.objs.size := fun p hp => by
    obtain ⟨_, v, o, ho, hd⟩ := W.cellat (p.1, p.2) (mem_of_lookup (hcl p hp))
    exact Heap.lt_size ho
  have inj : ∀ x y c, (cellsFrom (s.heap.objs.size + 1) csc.names [] ++ clOf env csc.names []).lookup x = some c → (cellsFrom (s.heap.objs.size + 1) csc.names [] ++ clOf env csc.names []).lookup y = some c → x = y := fun x y c hx hy => by
    rcases List.mem_append.mp (mem_of_lookup hx) with h1 | h1 <;> rcases List.mem_append.mp (mem_of_lookup hy) with h2 | h2
    · exact name_of_addr ok.apart h1 h2
    · have q1 := (ok.empty x c h1).2; have q2 := old _ h2; exact absurd (Nat.lt_of_lt_of_le q2 (Nat.le_of_succ_le q1)) (Nat.lt_irrefl _)
    · have q1 := (ok.empty y c h2).2; have q2 := old _ h1; exact absurd (Nat.lt_of_lt_of_le q2 (Nat.le_of_succ_le q1)) (Nat.lt_irrefl _)
    · exact W.inj x y c (hcl _ h1) (hcl _ h2)
  have has : ∀ x, ((relabel csc env).names.lookup x = some .cell ∨ (relabel csc env).names.lookup x = some .free) → ∃ c, (cellsFrom (s.heap.objs.size + 1) csc.names [] ++ clOf env csc.names []).lookup x = some c := fun x hx => by
    rcases relabel_back hx with q | q
    · obtain ⟨c, hc, _⟩ := lk_cell x q; exact ⟨c, hc⟩
    · obtain ⟨e, c, hc⟩ := lk_free x q; exact ⟨c, by rw [e]; exact hc⟩
  have slot_app : ∀ (ys : List Str) (x : Str) (i : Nat), slot (ys ++ Γ) x = some i → i < Γ.length → slot Γ x = some i := by
    intro ys
    induction ys with
    | nil => intro x i e _; exact e
    | cons y r ih =>
      intro x i e hi
      rw [List.cons_append] at e
      unfold slot at e
      split at e
      · simp only [Option.some.injEq, List.length_append] at e; lia
      · exact ih x i e hi
  have slot_pre : ∀ (ys : List Str) (x : Str) (i : Nat), slot (ys ++ Γ) x = some i → i < Γ.length → x ∉ ys := by
    intro ys
    induction ys with
    | nil => intro x i _ _ q; cases q
    | cons y r ih =>
      intro x i e hi q
      rw [List.cons_append] at e
      unfold slot at e
      split at e
      · simp only [Option.some.injEq, List.length_append] at e; lia
      · rename_i hne
        rcases List.mem_cons.mp q with rfl | q
        · simp at hne
        · exact ih x i e hi q
  -- a name with a value is an outer name, none of the block's own
  have outer : ∀ x i v, slot (xs.reverse ++ Γ) x = some i → (m ++ List.replicate xs.length none)[i]? = some (some v) → slot Γ x = some i ∧ m[i]? = some (some v) ∧ csc.names.lookup x ≠ some .local ∧ csc.names.lookup x ≠ some .cell := fun x i v h1 h2 => by
    have hi : i < Γ.length := by
      rcases Nat.lt_or_ge i m.length with q | q
      · rw [← W.len]; exact q
      · rw [List.getElem?_append_right q, List.getElem?_replicate] at h2
        split at h2 <;> simp at h2
    rw [List.getElem?_append_left (by rw [W.len]; exact hi)] at h2
    have hs := slot_app _ x i h1 hi
    have hn' := slot_pre _ x i h1 hi
    have no : ∀ k, (k = .local ∨ k = .cell) → csc.names.lookup x ≠ some k := fun k hk q => by
      unfold okOwn at hown
      rw [List.all_eq_true] at hown
      have := hown (x, k) (mem_lookupK q)
      rcases hk with rfl | rfl <;> (dsimp only at this; rw [hs] at this; simp at this; exact hn' (by simpa using this))
    exact ⟨hs, h2, no _ (.inl rfl), no _ (.inr rfl)⟩
  have cenvIs : ∀ (Γ' : List Str) (m' : Loc), m'.length = Γ'.length → (∀ x i v, slot Γ' x = some i → m'[i]? = some (some v) → slot Γ x = some i ∧ m[i]? = some (some v) ∧ csc.names.lookup x ≠ some .local ∧ csc.names.lookup x ≠ some .cell) →
      EnvR base φ csc { scope := relabel csc env, locals := s.heap.objs.size, globals := env.globals, cells := cellsFrom (s.heap.objs.size + 1) csc.names (clOf env csc.names []), qual := env.qual, func := none, code := env.code, frame := env.frame, builtins := env.builtins } Γ' m'
        (pushCells (s.heap.push { cls := .type "dict", data := .dict #[] }) csc.names) := fun Γ' m' hl ho => by
    refine ⟨okScope_kind (sc := csc) hsc, W.glob, W.blt, hl, relabel_kinds, big _ (Nat.le_refl _), ⟨_, hn, fun x i v h1 h2 h3 => ?_⟩, ?_, fun x i v h1 h2 h3 => ?_, ?_, ?_⟩
    · exact absurd (relabel_local h3) (ho x i v h1 h2).2.2.1
    · rw [ecs]; exact at1
    · obtain ⟨q1, q2, _, q4⟩ := ho x i v h1 h2
      have hf : csc.names.lookup x = some .free := (relabel_back h3).resolve_left q4
      have hok' := hok
      unfold okComp at hok'
      simp only [Bool.and_eq_true, List.all_eq_true] at hok'
      have := hok'.2 (x, .free) (mem_lookupK hf)
      dsimp only at this
      have hk : env.kindOf x = some .cell ∨ env.kindOf x = some .free := by
        have kd := W.kinds x
        split at this
        · rename_i e; rw [e] at kd; exact .inl kd
        · rename_i e; rw [e] at kd; exact kd
        · cases this
      obtain ⟨c, u, e, ⟨o, ho', hd⟩, r⟩ := W.cellv x i v q1 q2 hk
      refine ⟨c, u, ?_, ⟨o, kp _ _ ho', hd⟩, Rep.mono (List.prefix_refl _) (fun b o e _ => kp b o e) _ _ r⟩
      show (cellsFrom (s.heap.objs.size + 1) csc.names (clOf env csc.names [])).lookup x = some c
      rw [ecs, (lk_free x hf).1]; exact e
    · show ∀ x y c, (cellsFrom (s.heap.objs.size + 1) csc.names (clOf env csc.names [])).lookup x = some c → _
      rw [ecs]; exact inj
    · show ∀ x, _ → ∃ c, (cellsFrom (s.heap.objs.size + 1) csc.names (clOf env csc.names [])).lookup x = some c
      rw [ecs]; exact has
  refine h _ { s with heap := pushCells (s.heap.push { cls := .type "dict", data := .dict #[] }) csc.names } kp (Step.grow (tk := s.toks) kp) R' (cenvIs _ _ (by simp [W.len]; lia) outer) (cenvIs _ _ (by simp) fun x i v _ h2 => ?_) (get_size _) fun x hx a hk ha => ?_
  · rw [List.getElem?_replicate] at h2
    split at h2 <;> simp at h2
  · have ha' : (cellsFrom (s.heap.objs.size + 1) csc.names (clOf env csc.names [])).lookup x = some a := ha
    rw [ecs] at ha'
    have hc : csc.names.lookup x = some .cell := by
      have := hxs x hx
      unfold isOwn at this
      rcases relabel_back (.inl hk) with q | q
      · exact q
      · rw [q] at this; simp at this
    obtain ⟨c, hc1, hc2⟩ := lk_cell x hc
    rw [hc1] at ha'; cases ha'
    exact get_ge _ (by have := (ok.empty x a hc2).2; lia)
end
end Mine

open PySem
namespace Mine

section
variable {base : Heap} {φ φ₀ : List Addr} {H : Hp} {h : Heap}

/-- a list that was made for itself becomes one of ours -/
theorem Rel.adopt (R : Rel base φ H h) {a : Addr} {vs : List Value} {n : Nat} {xs : List V} (hna : a ∉ φ) (hb : base.get? a = none)
    (ha : h.get? a = some ⟨.type "list", none, .seq vs.toArray n, #[]⟩) (hr : RepL base φ h xs vs) (hz : xs.length ≤ room) :
    Rel base (φ ++ [a]) (H ++ [xs]) h ∧ Rep base (φ ++ [a]) h (.ref H.length) (.ref a) := by
  have hp : φ <+: φ ++ [a] := List.prefix_append _ _
  have mono : ∀ {ys : List V} {ws : List Value}, RepL base φ h ys ws → RepL base (φ ++ [a]) h ys ws := fun {ys ws} r => RepL.mono hp (fun a o e _ => e) ys ws r
  refine ⟨⟨R.keep, by simp [R.len], ?_, ?_, fun ys hy => ?_, fun k b e => ?_⟩, ⟨a, rfl, ?_⟩⟩
  · exact List.nodup_append.mpr ⟨R.nodup, by simp, fun x hx y hy => by
      simp only [List.mem_singleton] at hy; subst hy; intro q; exact hna (q ▸ hx)⟩
  · intro b hb'
    rcases List.mem_append.mp hb' with q | q
    · exact R.fresh b q
    · simp only [List.mem_singleton] at q; subst q; exact hb
  · rcases List.mem_append.mp hy with q | q
    · exact R.small ys q
    · simp only [List.mem_singleton] at q; rw [q]; exact hz
  · rcases Nat.lt_or_ge k φ.length with q | q
    · rw [List.getElem?_append_left q] at e
      obtain ⟨ws, m, ys, h1, h2, h3⟩ := R.lists k b e
      exact ⟨ws, m, ys, h1, by rw [List.getElem?_append_left (by have := R.len; lia)]; exact h2, mono h3⟩
    · rw [List.getElem?_append_right q] at e
      have hk0 : k = φ.length := by
        rcases Nat.lt_or_ge φ.length k with z | z
        · rw [List.getElem?_eq_none (by simp; lia)] at e; cases e
        · lia
      subst hk0
      simp only [Nat.sub_self, List.getElem?_cons_zero, Option.some.injEq] at e
      subst e
      refine ⟨vs, n, xs, ha, ?_, mono hr⟩
      rw [R.len, List.getElem?_append_right (Nat.le_refl _)]; simp
  · rw [← R.len, List.getElem?_append_right (Nat.le_refl _)]; simp

theorem Step.adopt {ow : List Addr} {s₀ s : Shared} {a : Addr} (st : Step ow φ₀ φ s₀ s) (hn : s₀.heap.get? a = none) : Step ow φ₀ (φ ++ [a]) s₀ s :=
  ⟨st.pre.trans (List.prefix_append _ _), fun b hb hb' => by
    rcases List.mem_append.mp hb with q | q
    · exact st.new b q hb'
    · simp only [List.mem_singleton] at q; rw [q]; exact hn, st.evo, st.live, st.same⟩

/-- a list turned leaves the frame -/
theorem EnvR.butD {sc : Scope} {env : Env} {Γ : List Str} {m : Loc} {h' : Heap} {d : Addr} {xs : Array Value} {n : Nat} (W : EnvR base φ sc env Γ m h) (hd : h.get? d = some ⟨.type "list", none, .seq xs n, #[]⟩) (hk : ∀ b o, b ≠ d → h.get? b = some o → h'.get? b = some o) : EnvR base φ sc env Γ m h' := by
  have nt : ∀ o, h.get? d = some o → ¬ TupObj o := fun o e ⟨c1, _⟩ => by rw [hd] at e; cases e; simp at c1
  have cell : ∀ {c : Addr} {v : Option Value}, h.IsCell c v → h'.IsCell c v := fun {c v} ⟨o, ho, hd'⟩ => by
    refine ⟨o, hk c o (fun q => ?_) ho, hd'⟩
    rw [q, hd] at ho; cases ho; cases hd'
  obtain ⟨mm, hn, hm⟩ := W.ns
  refine ⟨W.kind, W.glob, W.blt, W.len, W.kinds, W.fresh, ⟨mm, ?_, fun x i v h1 h2 h3 => ?_⟩, fun p e => ?_, fun x i v h1 h2 h3 => ?_, W.inj, W.has⟩
  · obtain ⟨o, es, ep, ho, hd', r⟩ := hn
    refine ⟨o, es, ep, hk _ _ (fun q => ?_) ho, hd', r⟩
    rw [q, hd] at ho; cases ho; cases hd'
  · obtain ⟨w, e, r⟩ := hm x i v h1 h2 h3
    exact ⟨w, e, r.but hk nt⟩
  · obtain ⟨h1, v, hv⟩ := W.cellat p e
    exact ⟨h1, v, cell hv⟩
  · obtain ⟨c, w, e, hc, r⟩ := W.cellv x i v h1 h2 h3
    exact ⟨c, w, e, cell hc, r.but hk nt⟩

theorem old_none {ow : List Addr} {s₀ s : Shared} (st : Step ow φ₀ φ s₀ s) {a : Addr} (h : s.heap.get? a = none) : s₀.heap.get? a = none := by
  cases q : s₀.heap.get? a with
  | none => rfl
  | some o => have := st.live a (by rw [q]; rfl); rw [h] at this; cases this
end

section
variable {prog : Program} {w : World} {base : Heap} {D : Tabs} {T : Nat → Option Fn} {mg mb : Str → Option Value} {C : Calls} {A : Around} {sc csc : Scope} {Γ : List Str} {env : Env}

theorem append_d {s : Shared} {d : Addr} {vs : List Value} {k : Nat} {x : Value} {Q : Value → Shared → Prop} {E : Value → Shared → Prop} (hd : s.heap.get? d = some ⟨.type "list", none, .seq vs.toArray k, #[]⟩)
    (hQ : ∀ h' k', h'.get? d = some ⟨.type "list", none, .seq (vs ++ [x]).toArray k', #[]⟩ → Heap.SameBut d s.heap h' → Q .none { s with heap := h' }) (hsz : vs.toArray.size ≤ sizeLine) :
    wpAny (model prog w) A (call (.builtin "list.append") [.ref d, x]) Q E s := by
  refine wpAny_call_entry slot_list_append (T := "list") ⟨_, hd, rfl⟩ entry_list_append ?_ (args_list_append _ _)
  show wpAny _ _ (updateSeq d (·.push x) >>= fun _ => ret .none) _ _ s
  refine wpAny_bind (wpAny_updateSeq hd rfl (wpAny_pure ⟨.none, rfl, hQ _ (k + 1) ?_ (Heap.SameBut.update ..)⟩))
  rw [Heap.get?_update_self _ hd (by rfl)]
  simp [Obj.mapSeq]

/-- the tests of a comprehension -/
theorem comp_tests {ifs : List Expr} {cx : X} {Γ' : List Str} {cenv : Env} (hc : cIf D csc Γ' ifs = some cx) (IH : ∀ e ∈ ifs, ∀ x, cE D csc Γ' e = some x → ST prog w base C A e x csc Γ' cenv)
    {m : Loc} {φ : List Addr} {H : Hp} {s : Shared} {P : PV} {Q : Bool → Shared → Prop} {E : Value → Shared → Prop} (R : Rel base φ H s.heap) (W : EnvR base φ csc cenv Γ' m s.heap) (hw : wpE C cx m H P)
    (K : ∀ v b φ' H' s', P v H' → truth v = some b → Step [] φ φ' s s' → Rel base φ' H' s'.heap → Q b s') (hb : ∀ v H', P v H' → ∃ b, truth v = some b) :
    wpAny (model prog w) A (forIn ifs true fun c r => if r = true then do let ok ← isTrue c cenv (eval c cenv); pure (ForInStep.yield ok) else pure (ForInStep.yield r)) Q E s := by
  cases ifs with
  | nil =>
    rw [cIf_nil] at hc; cases hc
    simp only [VN, VJ, VU, VS, VO, VT, Wc, VW, VF, VY, VV, Wb, VZ, VM, VK, VX, VE, VL, VD] at hw
    exact wpAny_tests_nil (K _ true φ H s hw rfl (Step.refl _ _ _) R)
  | cons c r =>
    cases r with
    | nil =>
      rw [cIf_one] at hc
      exact wpAny_tests_one (IH c (by simp) cx hc m φ H s P Q E R W hw K hb)
    | cons _ _ => rw [cIf_two] at hc; cases hc

/-- a comprehension of one name -/
theorem comp_core (G : Ground base D T mg mb) (hh : A.handled = none) {elt iter : Expr} {x : Str} {px pos pos' : Pos} {ifs : List Expr} {ix ex cx : X} {use : Option (Value → Sem Unit)}
    (hci : cE D sc Γ iter = some ix) (hne : (itOf ix).1 ≠ .enum) (hok : okComp sc csc = true) (hown : okOwn csc Γ [x] = true) (hx : isOwn csc x = true) (hcc : cIf D csc (x :: Γ) ifs = some cx) (hce : cE D csc (x :: Γ) elt = some ex)
    (IHi : ∀ e', sizeOf e' ≤ sizeOf iter → ∀ y, cE D sc Γ e' = some y → SE prog w base C A e' y sc Γ env)
    (IHe : ∀ cenv, SE prog w base C A elt ex csc (x :: Γ) cenv) (IHc : ∀ cenv, ∀ e ∈ ifs, ∀ y, cE D csc (x :: Γ) e = some y → ST prog w base C A e y csc (x :: Γ) cenv)
    {m : Loc} {φ : List Addr} {H : Hp} {s : Shared} {P : PV} {Q : Value → Shared → Prop} {E : Value → Shared → Prop} (R : Rel base φ H s.heap) (W : EnvR base φ sc env Γ m s.heap)
    (hw : wpE C (.comp ex 1 (itOf ix).1 (itOf ix).2.1 (itOf ix).2.2 cx) m H P)
    (K : ∀ (d c : Addr) (φ' : List Addr) (H' : Hp) (s' : Shared) (acc : List V), P (.ref H'.length) (H' ++ [acc]) → Step [] φ (φ' ++ [d]) s s' → Rel base (φ' ++ [d]) (H' ++ [acc]) s'.heap → Rep base (φ' ++ [d]) s'.heap (.ref H'.length) (.ref d) →
      (∃ mm, s'.heap.Ns c mm) → s.heap.get? c = none → base.get? c = none → c ∉ φ' ++ [d] → compPost (model prog w) A E use Q (.ref d) c (.ok .next) s') :
    wpAny (model prog w) A (comprehension (.ListComp elt [⟨.Name x px, iter, ifs, 0⟩] csc pos) csc env pos' (newList []) false (eval iter env) use) Q E s := by
  have hsc : okScope csc = true := by unfold okComp at hok; simp only [Bool.and_eq_true] at hok; exact hok.1
  have hnotset : ∀ y, foldedSetIterable iter env y = pure y := fun y => by
    exact cE_elim (M := fun e _ => foldedSetIterable e env y = pure y) (by intros; rfl) (by intros; rfl) (by intros; rfl) (by intros; rfl) (by intros; rfl) (by intros; rfl) (by intros; rfl) (by intros; rfl) (by intros; rfl) (by intros; rfl) (by intros; rfl) (by intros; rfl) (by intros; rfl) _ _ hci
  refine wpAny_comprehension_free (cl := clOf env csc.names []) rfl hnotset (closureFor_eq (comp_free W hok)) (okScope_kind hsc) (fun p hp hl => by rw [okScope_once hsc hp, hl]) ?_
  simp only [VN, VJ, VU, VS, VO, VT, Wc, VW, VF, VY, VV, Wb, VZ, VM, VK, VX, VE, VL, VD] at hw
  refine source G hh (tg := .Name x px) ⟨fun q => absurd q hne, fun _ => ⟨x, px, rfl⟩⟩ hci IHi R W
    (P := fun vs src H' => wpComp (fun v H P => match bound 1 v with | some l => wpE C cx (m ++ l) H P | none => False) (fun v H P => match bound 1 v with | some l => wpE C ex (m ++ l) H P | none => False) src vs [] H' P)
    (by exact hw) fun vs src φ₁ H₁ s₁ I wr St Mid hp st₁ R₁ Wk st0 hwr hz => ?_
  simp only [bound] at hp
  -- the list that is filled
  refine wpAny_newList ?_ (by simp [sizeLine])
  have kp₂ : ∀ a o, s₁.heap.get? a = some o → (s₁.heap.push { cls := .type "list", data := .seq ([] : List Value).toArray }).get? a = some o := fun a o e => Heap.get?_push_of_some _ e
  have W₁ := W.step R st₁
  have R₂ := R₁.grow kp₂
  have st₂ : Step [] φ₁ φ₁ s₁ { s₁ with heap := s₁.heap.push { cls := .type "list", data := .seq ([] : List Value).toArray } } := Step.grow (tk := s₁.toks) kp₂
  have W₂ := W₁.step R₁ st₂
  refine comp_env hok W₂ R₂ [x] hown (by simpa using hx) fun cenv s₃ kp₃ st₃ R₃ W₃ _ hC hcell => ?_
  have hnC : s.heap.get? cenv.locals = none := old_none (st₁.trans st₂) hC
  have hnD : s₁.heap.get? s₁.heap.objs.size = none := get_size _
  have hd3 : s₃.heap.get? s₁.heap.objs.size = some ⟨.type "list", none, .seq ([] : List Value).toArray 0, #[]⟩ := kp₃ _ _ (Heap.get?_push_size _ rfl)
  generalize hdd : s₁.heap.objs.size = d at hnD hd3 ⊢
  generalize hce' : ({ cenv with scope := relabel csc env } : Env) = ce at W₃ hcell ⊢
  have hcl : ce.locals = cenv.locals := by rw [← hce']
  have hcells : ce.cells = cenv.cells := by rw [← hce']
  have hns : s.heap.get? d = none := old_none st₁ hnD
  have hbd : ∀ {a : Addr}, s.heap.get? a = none → base.get? a = none := fun {a} q => by
    cases z : base.get? a with
    | none => rfl
    | some o => rw [R.keep a o z] at q; cases q
  have sl : slot (x :: Γ) x = some m.length := by simp [slot, W.len]
  -- the loop
  have loop : ∀ s₃', codeAny (model prog w) A (.compLoop (.ListComp elt [⟨.Name x px, iter, ifs, 0⟩] csc pos) 0 (.ref I) (.ref d) ce) (compPost (model prog w) A E use Q (.ref d) cenv.locals) s₃' ↔
      codeAny (model prog w) A (.compLoop (.ListComp elt [⟨.Name x px, iter, ifs, 0⟩] csc pos) 0 (.ref I) (.ref d) ce) (compPost (model prog w) A E use Q (.ref d) cenv.locals) s₃' := fun _ => Iff.rfl
  let Inv : Nat → Shared → Prop := fun n t => ∃ (i : Nat) (φ' : List Addr) (H' : Hp) (acc : List V) (ys : List Value) (k : Nat) (y : Option V), n = vs.length - i ∧ i ≤ vs.length ∧ St i φ' t.heap ∧ Rel base φ' H' t.heap ∧
    EnvR base φ' csc ce (x :: Γ) (m ++ [y]) t.heap ∧ t.heap.get? d = some ⟨.type "list", none, .seq ys.toArray k, #[]⟩ ∧ RepL base φ' t.heap acc ys ∧ acc.length ≤ i ∧ d ∉ φ' ∧ Step [] φ φ' s t ∧
    wpComp (fun v H P => wpE C cx (m ++ [some v]) H P) (fun v H P => wpE C ex (m ++ [some v]) H P) src (vs.drop i) acc H' P
  have turn : ∀ n t, Inv n t → wpAny (model prog w) A (pyNext (.ref I)) (fun r s₁ => match r with
      | none => compPost (model prog w) A E use Q (.ref d) cenv.locals (.ok .next) s₁
      | some v => wpAny (model prog w) A (assign (.Name x px) ce v) (fun _ s₂ => wpAny (model prog w) A (forIn ifs true fun c r => if r = true then do let ok ← isTrue c ce (eval c ce); pure (ForInStep.yield ok) else pure (ForInStep.yield r))
          (fun ok s₃ => if ok = true then wpAny (model prog w) A (eval elt ce) (fun x s₄ => wpAny (model prog w) A (call (.builtin "list.append") [.ref d, x]) (fun _ s₅ => ∃ m, m < n ∧ Inv m s₅) (notedBy (model prog w) A ce fun e s' => compPost (model prog w) A E use Q (.ref d) cenv.locals (.error e) s') s₄) (notedBy (model prog w) A ce fun e s' => compPost (model prog w) A E use Q (.ref d) cenv.locals (.error e) s') s₃
            else ∃ m, m < n ∧ Inv m s₃) (notedBy (model prog w) A ce fun e s' => compPost (model prog w) A E use Q (.ref d) cenv.locals (.error e) s') s₂) (notedBy (model prog w) A ce fun e s' => compPost (model prog w) A E use Q (.ref d) cenv.locals (.error e) s') s₁)
      (notedBy (model prog w) A ce fun e s' => compPost (model prog w) A E use Q (.ref d) cenv.locals (.error e) s') t := by
    rintro n t ⟨i, φ', H', acc, ys, k, y, rfl, hi, hst, Rt, Wt, hdt, hacc, hal, hdn, sst, hwc⟩
    have hF : Fields wr t.heap := fun b hb o e => by
      obtain ⟨o', fs, h1, h2⟩ := Wk.wrobj i φ' t.heap hst b hb
      rw [e] at h1; cases h1; exact ⟨fs, h2⟩
    have hdw : d ∉ wr := fun q => by
      obtain ⟨fs, h2⟩ := hF d q _ hdt; cases h2
    have hwb : ∀ b ∈ wr, base.get? b = none := fun b hb => hbd (hwr b hb)
    cases hdr : vs.drop i with
    | nil =>
      have hlen : i = vs.length := by
        have := congrArg List.length hdr; simp at this; lia
      subst hlen
      rw [hdr] at hwc
      obtain ⟨hstill, hP⟩ := hwc
      refine Wk.done t φ' H' _ _ hst Rt hstill fun h' tk hk => ?_
      have R4 := Rt.butL hF hwb hk
      have W4 := Wt.butL hF hk
      have hd4 : h'.get? d = some ⟨.type "list", none, .seq ys.toArray k, #[]⟩ := hk _ _ hdw hdt
      have ha4 : RepL base φ' h' acc ys := RepL.mono (List.prefix_refl _) (fun c o e c' => hk c o (hF.tup e c') e) _ _ hacc
      obtain ⟨R5, r5⟩ := R4.adopt hdn (hbd hns) hd4 ha4 (by lia)
      have st4 : Step [] φ φ' s { t with heap := h', toks := tk } := sst.skip hwr hk ⟨_, _, rfl⟩
      obtain ⟨mm, hn4, _⟩ := W4.ns
      refine K d cenv.locals φ' H' _ acc hP (st4.adopt hns) R5 r5 ⟨mm, hcl ▸ hn4⟩ hnC (hbd hnC) fun q => ?_
      rcases List.mem_append.mp q with q | q
      · exact R4.ns_not hn4 (hcl ▸ q)
      · simp only [List.mem_singleton] at q
        obtain ⟨o, es, ep, ho, hd', _⟩ := hn4
        rw [hcl, q, hd4] at ho; cases ho; cases hd'
    | cons v rest =>
      have hv : vs[i]? = some v := by
        have := congrArg List.head? hdr
        simpa [List.head?_drop] using this
      have hrest : vs.drop (i + 1) = rest := by
        rw [← List.drop_drop, hdr]; rfl
      have hil : i < vs.length := by
        rcases Nat.lt_or_ge i vs.length with q | q
        · exact q
        · rw [List.getElem?_eq_none q] at hv; cases hv
      rw [hdr] at hwc
      obtain ⟨hstill, hcond⟩ := hwc
      refine Wk.next i v t φ' H' _ _ hv hst Rt hstill fun xv h' tk hmid rv hk => ?_
      have hst' := Wk.mid ⟨x, px, rfl⟩ i xv φ' h' hmid
      have R4 := Rt.butL hF hwb hk
      have W4 := Wt.butL hF hk
      have hd4 : h'.get? d = some ⟨.type "list", none, .seq ys.toArray k, #[]⟩ := hk _ _ hdw hdt
      have ha4 : RepL base φ' h' acc ys := RepL.mono (List.prefix_refl _) (fun c o e c' => hk c o (hF.tup e c') e) _ _ hacc
      have st4 : Step [] φ φ' s { t with heap := h', toks := tk } := sst.skip hwr hk ⟨_, _, rfl⟩
      have hF4 : Fields wr h' := fun b hb o e => by
        obtain ⟨o', fs, h1, h2⟩ := Wk.wrobj (i + 1) φ' h' hst' b hb
        rw [e] at h1; cases h1; exact ⟨fs, h2⟩
      refine wpAny_assign_Name (EnvR.store (s := { t with heap := h', toks := tk }) W4 R4 hx sl rv fun s5 a ha st5 kp5 R5 W5 => ?_)
      have hset : (m ++ [y]).set m.length (some v) = m ++ [some v] := by simp
      rw [hset] at W5
      have hna : s.heap.get? a = none := by
        rcases ha with rfl | ⟨h1, h2⟩
        · rw [hcl]; exact hnC
        · exact old_none (st₁.trans st₂) (hcell x (by simp) a h1 (hcells ▸ h2))
      have a_obj : ∀ o, h'.get? a = some o → (∃ es ep, o.data = .dict es ep) ∨ ∃ v, o.data = .cell v := fun o e => by
        rcases ha with rfl | ⟨h1, h2⟩
        · obtain ⟨mm, ⟨o', es, ep, ho, hd', _⟩, _⟩ := W4.ns
          rw [e] at ho; cases ho; exact .inl ⟨es, ep, hd'⟩
        · obtain ⟨_, v, o', ho, hd'⟩ := W4.cellat (x, a) (mem_of_lookup h2)
          rw [e] at ho; cases ho; exact .inr ⟨v, hd'⟩
      have hda : d ≠ a := fun q => by
        rcases a_obj _ (q ▸ hd4) with ⟨_, _, z⟩ | ⟨_, z⟩ <;> cases z
      have hd5 := kp5 _ _ hda hd4
      have tup5 : ∀ b o, h'.get? b = some o → TupObj o → s5.heap.get? b = some o := fun b o e ⟨c1, vs', n', c2⟩ => kp5 b o (fun q => by
        subst q
        rcases a_obj _ e with ⟨_, _, z⟩ | ⟨_, z⟩ <;> (rw [c2] at z; cases z)) e
      have ha5 : RepL base φ' s5.heap acc ys := RepL.mono (List.prefix_refl _) tup5 _ _ ha4
      have st5' : Step [] φ φ' s s5 := st4.skip (wr := [a]) (by simpa using hna) (fun b o hb e => kp5 b o (by simpa using hb) e) st5.same
      have hst5 : St (i + 1) φ' s5.heap := Wk.frame (i + 1) φ' φ' h' s5.heap hst' (List.prefix_refl _) (fun b o fs hb e hd' => kp5 b o (fun q => by
        subst q
        rcases a_obj _ e with ⟨_, _, z⟩ | ⟨_, z⟩ <;> (rw [hd'] at z; cases z)) e) tup5
      -- the tests
      refine comp_tests hcc (IHc ce) R5 W5 (P := fun c H₁ => match truth c with
        | some true => wpE C ex (m ++ [some v]) H₁ fun y H₂ => wpComp (fun v H P => wpE C cx (m ++ [some v]) H P) (fun v H P => wpE C ex (m ++ [some v]) H P) src rest (acc ++ [y]) H₂ P
        | some false => wpComp (fun v H P => wpE C cx (m ++ [some v]) H P) (fun v H P => wpE C ex (m ++ [some v]) H P) src rest acc H₁ P
        | none => False) hcond (fun c b φ6 H6 s6 hp6 hb6 st6 R6 => ?_) (fun c H' hp' => by
          cases q : truth c with
          | none => rw [q] at hp'; exact hp'.elim
          | some b => exact ⟨b, rfl⟩)
      have W6 := W5.step R5 st6
      have hdn5 : d ∉ φ' := hdn
      have hd6 := st6.evo d _ hd5 hdn5 (by simp)
      have hdn6 : d ∉ φ6 := fun q => by have := st6.new d q hdn5; rw [hd5] at this; cases this
      have ha6 := R5.monoL st6 ha5
      have hst6 : St (i + 1) φ6 s6.heap := Wk.frame (i + 1) φ' φ6 s5.heap s6.heap hst5 st6.pre (fun b o fs hb e hd' => st6.evo b o e (fun q => by
        obtain ⟨vs', n', z⟩ := R5.mem_list q; rw [e] at z; cases z; cases hd') (by simp)) (fun b o e z => st6.evo b o e (R5.tuple_not e z) (by simp))
      rw [hb6] at hp6
      cases b with
      | false =>
        simp only [Bool.false_eq_true, if_false]
        refine ⟨vs.length - (i + 1), by lia, i + 1, φ6, H6, acc, ys, k, some v, rfl, by lia, hst6, R6, W6, hd6, ha6, by lia, hdn6, st5'.trans st6, ?_⟩
        rw [hrest]; exact hp6
      | true =>
        simp only [if_true]
        refine IHe ce (m ++ [some v]) φ6 H6 s6 _ _ _ R6 W6 hp6 fun z zv φ7 H7 s7 hp7 st7 R7 rz => ?_
        have W7 := W6.step R6 st7
        have hd7 := st7.evo d _ hd6 hdn6 (by simp)
        have hdn7 : d ∉ φ7 := fun q => by have := st7.new d q hdn6; rw [hd6] at this; cases this
        have ha7 := R6.monoL st7 ha6
        have hst7 : St (i + 1) φ7 s7.heap := Wk.frame (i + 1) φ6 φ7 s6.heap s7.heap hst6 st7.pre (fun b o fs hb e hd' => st7.evo b o e (fun q => by
          obtain ⟨vs', n', z⟩ := R6.mem_list q; rw [e] at z; cases z; cases hd') (by simp)) (fun b o e z => st7.evo b o e (R6.tuple_not e z) (by simp))
        refine append_d (vs := ys) hd7 (fun h8 k8 hd8 hs8 => ?_) (by have := hacc.length; simp only [List.size_toArray, sizeLine]; unfold room at hz; lia)
        have nt : ∀ o, s7.heap.get? d = some o → ¬ TupObj o := fun o e ⟨c1, _⟩ => by rw [hd7] at e; cases e; simp at c1
        have R8 := R7.but (h' := h8) hdn7 (hbd hns) hs8.extBut nt
        refine ⟨vs.length - (i + 1), by lia, i + 1, φ7, H7, acc ++ [z], ys ++ [zv], k8, some v, rfl, by lia, ?_, R8, ?_, hd8, ?_, by simp; lia, hdn7, ?_, by rw [hrest]; exact hp7⟩
        · exact Wk.frame (i + 1) φ7 φ7 s7.heap h8 hst7 (List.prefix_refl _) (fun b o fs hb e hd' => hs8.extBut b o (fun q => by subst q; rw [hd7] at e; cases e; cases hd') e) (fun b o e z => hs8.extBut b o (fun q => nt o (q ▸ e) z) e)
        · exact W7.butD hd7 hs8.extBut
        · exact RepL.append (RepL.mono (List.prefix_refl _) (fun b o e z => hs8.extBut b o (fun q => nt o (q ▸ e) z) e) _ _ ha7) ⟨zv, [], rfl, rz.but hs8.extBut nt, rfl⟩
        · exact ((st5'.trans st6).trans st7).skip (wr := [d]) (by simpa using hns) (fun b o hb e => hs8.extBut b o (by simpa using hb) e) ⟨_, _, rfl⟩
  have start : Inv vs.length s₃ := by
    refine ⟨0, φ₁, H₁, [], [], 0, none, by simp, Nat.zero_le _, ?_, R₃, by simpa using W₃, hd3, rfl, Nat.le_refl _, ?_, (st₁.trans st₂).trans st₃, by simpa using hp⟩
    · exact Wk.frame 0 φ₁ φ₁ s₁.heap s₃.heap st0 (List.prefix_refl _) (fun b o fs _ e _ => kp₃ _ _ (kp₂ _ _ e)) (fun b o e _ => kp₃ _ _ (kp₂ _ _ e))
    · exact R₁.none_not hnD
  have hloop : codeAny (model prog w) A (.compLoop (.ListComp elt [⟨.Name x px, iter, ifs, 0⟩] csc pos) 0 (.ref I) (.ref d) ce) (compPost (model prog w) A E use Q (.ref d) cenv.locals) s₃ :=
    codeAny_compLoop_tests Inv turn vs.length start
  refine codeAny_compStart_list hloop (Wk.self s₃ φ₁ _ _ ?_ hloop)
  exact Wk.frame 0 φ₁ φ₁ s₁.heap s₃.heap st0 (List.prefix_refl _) (fun b o fs _ e _ => kp₃ _ _ (kp₂ _ _ e)) (fun b o e _ => kp₃ _ _ (kp₂ _ _ e))
end
end Mine

open PySem
namespace Mine

section
variable {prog : Program} {w : World} {base : Heap} {D : Tabs} {T : Nat → Option Fn} {mg mb : Str → Option Value} {C : Calls} {A : Around} {sc : Scope} {Γ : List Str} {env : Env}

/-- a value as a test -/
theorem st_of_se {e : Expr} {x : X} (h : SE prog w base C A e x sc Γ env) (he : ∀ whole, isTrue e env whole = (do let v ← whole; standAt e.pos; holding [v] (truthy v))) : ST prog w base C A e x sc Γ env :=
  fun m φ H s P Q E R W hw K hb => wpAny_isTrue_value (h m φ H s P _ E R W hw fun v x φ' H' s' hp st R' r => by
    obtain ⟨b, e⟩ := hb v H' hp
    exact truth_sound r e (K v b φ' H' s' hp e st R')) (he _)

theorem se_name (G : Ground base D T mg mb) {y : Str} {p : Pos} {x : X} (hc : cName D sc Γ y = some x) : SE prog w base C A (.Name y p) x sc Γ env := fun m φ H s P Q E R W hw K => by
  unfold cName at hc
  split at hc
  · cases hc
  · rename_i hn
    simp only [Bool.or_eq_true, not_or, Bool.not_eq_true] at hn
    split at hc
    · rename_i hv
      simp only [Option.map_eq_some_iff] at hc
      obtain ⟨i, hi, rfl⟩ := hc
      simp only [VN, VJ, VU, VS, VO, VT, Wc, VW, VF, VY, VV, Wb, VZ, VM, VK, VX, VE, VL, VD] at hw
      split at hw
      · rename_i v hm
        exact wpAny_Name (W.load hv hn.2 hi hm fun x r => K.here R hw r) hn.1
      · exact hw.elim
    · split at hc
      · rename_i hg
        split at hc
        · rename_i i hi
          cases hc
          simp only [VN, VJ, VU, VS, VO, VT, Wc, VW, VF, VY, VV, Wb, VZ, VM, VK, VX, VE, VL, VD] at hw
          obtain ⟨t, ht⟩ := G.const y i hi
          exact glob_name G R W hg hn.1 ht (K.here R hw ⟨t, rfl⟩)
        · cases hc
          simp only [VN, VJ, VU, VS, VO, VT, Wc, VW, VF, VY, VV, Wb, VZ, VM, VK, VX, VE, VL, VD] at hw
      · cases hc

theorem se_bin {l r : Expr} {op : Operator} {o : B} {a b : X} {pos : Pos} (ho : opOf op = some o) (hl : SE prog w base C A l a sc Γ env) (hr : SE prog w base C A r b sc Γ env) : SE prog w base C A (.BinOp l op r pos) (.bin o a b) sc Γ env :=
  fun m φ H s P Q E R W hw K => by
    simp only [VN, VJ, VU, VS, VO, VT, Wc, VW, VF, VY, VV, Wb, VZ, VM, VK, VX, VE, VL, VD] at hw
    refine wpAny_BinOp (hl m φ H s _ _ E R W hw fun v x φ₁ H₁ s₁ hp st₁ R₁ rv => ?_)
    refine hr m φ₁ H₁ s₁ _ _ E R₁ (W.step R st₁) hp fun u y φ₂ H₂ s₂ hp₂ st₂ R₂ ru => ?_
    exact soundA ho R₂ (R₁.mono st₂ rv) ru hp₂ (K.after (st₁.trans st₂))

theorem se_cmp (hu : A.units + 64 < cLine) {l r : Expr} {op : CmpOp} {a b : X} {pos : Pos} (hm : behindInMarks op r = false) (hl : SE prog w base C A l a sc Γ env) (hr : SE prog w base C A r b sc Γ env) :
    SE prog w base C A (.Compare l [op] [r] pos) (.bin (cmpOf op) a b) sc Γ env ∧ ST prog w base C A (.Compare l [op] [r] pos) (.bin (cmpOf op) a b) sc Γ env :=
  ⟨fun m φ H s P Q E R W hw K => by
    simp only [VN, VJ, VU, VS, VO, VT, Wc, VW, VF, VY, VV, Wb, VZ, VM, VK, VX, VE, VL, VD] at hw
    refine wpAny_Compare1 (hl m φ H s _ _ E R W hw fun v x φ₁ H₁ s₁ hp st₁ R₁ rv => ?_) hm
    refine hr m φ₁ H₁ s₁ _ _ E R₁ (W.step R st₁) hp fun u y φ₂ H₂ s₂ hp₂ st₂ R₂ ru => ?_
    exact soundCmp hu R₂ (R₁.mono st₂ rv) ru hp₂ (K.after (st₁.trans st₂)),
  fun m φ H s P Q E R W hw K hb => by
    simp only [VN, VJ, VU, VS, VO, VT, Wc, VW, VF, VY, VV, Wb, VZ, VM, VK, VX, VE, VL, VD] at hw
    refine wpAny_isTrue_Compare1 (hl m φ H s _ _ E R W hw fun v x φ₁ H₁ s₁ hp st₁ R₁ rv => ?_) hm
    refine hr m φ₁ H₁ s₁ _ _ E R₁ (W.step R st₁) hp fun u y φ₂ H₂ s₂ hp₂ st₂ R₂ ru => ?_
    refine soundCmp hu R₂ (R₁.mono st₂ rv) ru hp₂ fun c z φ₃ H₃ s₃ hp₃ st₃ R₃ rz => ?_
    obtain ⟨b, e⟩ := hb c H₃ hp₃
    exact truth_sound rz e (K c b φ₃ H₃ s₃ hp₃ e ((st₁.trans st₂).trans st₃) R₃)⟩

theorem se_chain (hu : A.units + 64 < cLine) {l r₁ r₂ : Expr} {op₁ op₂ : CmpOp} {a b c : X} {pos : Pos} (hm : behindInMarks op₂ r₂ = false) (hl : SE prog w base C A l a sc Γ env) (h1 : SE prog w base C A r₁ b sc Γ env) (h2 : SE prog w base C A r₂ c sc Γ env) :
    SE prog w base C A (.Compare l [op₁, op₂] [r₁, r₂] pos) (.chain (cmpOf op₁) (cmpOf op₂) a b c) sc Γ env ∧ ST prog w base C A (.Compare l [op₁, op₂] [r₁, r₂] pos) (.chain (cmpOf op₁) (cmpOf op₂) a b c) sc Γ env :=
  ⟨fun m φ H s P Q E R W hw K => by
    simp only [VN, VJ, VU, VS, VO, VT, Wc, VW, VF, VY, VV, Wb, VZ, VM, VK, VX, VE, VL, VD] at hw
    refine PyProof.Rows.Compare_chain (hl m φ H s _ _ E R W hw fun v x φ₁ H₁ s₁ hp st₁ R₁ rv => ?_) hm
    refine PyProof.Rows.chain_link (h1 m φ₁ H₁ s₁ _ _ E R₁ (W.step R st₁) hp fun u y φ₂ H₂ s₂ hp₂ st₂ R₂ ru => ?_)
    refine soundCmp hu R₂ (R₁.mono st₂ rv) ru hp₂ fun t z φ₃ H₃ s₃ hp₃ st₃ R₃ rz => ?_
    cases ht : truth t with
    | none => rw [ht] at hp₃; exact hp₃.elim
    | some bt =>
      rw [ht] at hp₃
      refine truth_sound rz ht ?_
      cases bt with
      | false => exact K.after ((st₁.trans st₂).trans st₃) t z φ₃ H₃ s₃ hp₃ (Step.refl _ _ _) R₃ rz
      | true =>
        simp only [if_true]
        refine PyProof.Rows.chain_last (h2 m φ₃ H₃ s₃ _ _ E R₃ (((W.step R st₁).step R₁ st₂).step R₂ st₃) hp₃ fun k q φ₄ H₄ s₄ hp₄ st₄ R₄ rq => ?_)
        exact soundCmp hu R₄ (R₃.mono st₄ (R₂.mono st₃ ru)) rq hp₄ (K.after (((st₁.trans st₂).trans st₃).trans st₄)),
  fun m φ H s P Q E R W hw K hb => by
    simp only [VN, VJ, VU, VS, VO, VT, Wc, VW, VF, VY, VV, Wb, VZ, VM, VK, VX, VE, VL, VD] at hw
    refine PyProof.Rows.isTrue_chain (hl m φ H s _ _ E R W hw fun v x φ₁ H₁ s₁ hp st₁ R₁ rv => ?_) hm
    refine PyProof.Rows.test_link (h1 m φ₁ H₁ s₁ _ _ E R₁ (W.step R st₁) hp fun u y φ₂ H₂ s₂ hp₂ st₂ R₂ ru => ?_)
    refine soundCmp hu R₂ (R₁.mono st₂ rv) ru hp₂ fun t z φ₃ H₃ s₃ hp₃ st₃ R₃ rz => ?_
    cases ht : truth t with
    | none => rw [ht] at hp₃; exact hp₃.elim
    | some bt =>
      rw [ht] at hp₃
      refine truth_sound rz ht ?_
      cases bt with
      | false =>
        refine K t false φ₃ H₃ s₃ hp₃ ht ((st₁.trans st₂).trans st₃) R₃
      | true =>
        simp only [if_true]
        refine PyProof.Rows.test_last (h2 m φ₃ H₃ s₃ _ _ E R₃ (((W.step R st₁).step R₁ st₂).step R₂ st₃) hp₃ fun k q φ₄ H₄ s₄ hp₄ st₄ R₄ rq => ?_)
        refine soundCmp hu R₄ (R₃.mono st₄ (R₂.mono st₃ ru)) rq hp₄ fun c z φ₅ H₅ s₅ hp₅ st₅ R₅ rz => ?_
        obtain ⟨b, e⟩ := hb c H₅ hp₅
        exact truth_sound rz e (K c b φ₅ H₅ s₅ hp₅ e ((((st₁.trans st₂).trans st₃).trans st₄).trans st₅) R₅)⟩

theorem se_not {e : Expr} {a : X} {pos : Pos} (he : SE prog w base C A e a sc Γ env) (ht : ST prog w base C A e a sc Γ env) :
    SE prog w base C A (.UnaryOp .Not e pos) (.not a) sc Γ env ∧ ST prog w base C A (.UnaryOp .Not e pos) (.not a) sc Γ env :=
  ⟨fun m φ H s P Q E R W hw K => by
    simp only [VN, VJ, VU, VS, VO, VT, Wc, VW, VF, VY, VV, Wb, VZ, VM, VK, VX, VE, VL, VD] at hw
    refine wpAny_UnaryOp (he m φ H s _ _ E R W hw fun v x φ₁ H₁ s₁ hp st₁ R₁ rv => ?_)
    cases q : truth v with
    | none => rw [q] at hp; exact hp.elim
    | some b => rw [q] at hp; exact not_value (truth_sound rv q ((K.after st₁).here R₁ hp rfl)),
  fun m φ H s P Q E R W hw K hb => by
    simp only [VN, VJ, VU, VS, VO, VT, Wc, VW, VF, VY, VV, Wb, VZ, VM, VK, VX, VE, VL, VD] at hw
    refine wpAny_isTrue_Not (ht m φ H s _ _ E R W hw (fun v b φ' H' s' hp hv st R' => ?_) fun v H' hp => ?_)
    · rw [hv] at hp
      exact K (.bool !b) (!b) φ' H' s' hp rfl st R'
    · cases q : truth v with
      | none => rw [q] at hp; exact hp.elim
      | some b => exact ⟨b, rfl⟩⟩

theorem se_ite {t a b : Expr} {xt xa xb : X} {pos : Pos} (ht : ST prog w base C A t xt sc Γ env) (ha : SE prog w base C A a xa sc Γ env ∧ ST prog w base C A a xa sc Γ env) (hb : SE prog w base C A b xb sc Γ env ∧ ST prog w base C A b xb sc Γ env) :
    SE prog w base C A (.IfExp t a b pos) (.ite xt xa xb) sc Γ env ∧ ST prog w base C A (.IfExp t a b pos) (.ite xt xa xb) sc Γ env :=
  ⟨fun m φ H s P Q E R W hw K => by
    simp only [VN, VJ, VU, VS, VO, VT, Wc, VW, VF, VY, VV, Wb, VZ, VM, VK, VX, VE, VL, VD] at hw
    refine wpAny_IfExp (ht m φ H s _ _ E R W hw (fun v b φ₁ H₁ s₁ hp hv st R₁ => ?_) fun v H' hp => ?_)
    · rw [hv] at hp
      cases b with
      | true => simp only [if_true]; exact ha.1 m φ₁ H₁ s₁ _ _ E R₁ (W.step R st) hp (K.after st)
      | false => simp only [Bool.false_eq_true, if_false]; exact hb.1 m φ₁ H₁ s₁ _ _ E R₁ (W.step R st) hp (K.after st)
    · cases q : truth v with
      | none => rw [q] at hp; exact hp.elim
      | some b => exact ⟨b, rfl⟩,
  fun m φ H s P Q E R W hw K hbl => by
    simp only [VN, VJ, VU, VS, VO, VT, Wc, VW, VF, VY, VV, Wb, VZ, VM, VK, VX, VE, VL, VD] at hw
    show wpAny (model prog w) A (isTrue t env (eval t env) >>= fun c => if c = true then isTrue a env (eval a env) else isTrue b env (eval b env)) Q E s
    refine wpAny_bind (ht m φ H s _ _ E R W hw (fun v c φ₁ H₁ s₁ hp hv st R₁ => ?_) fun v H' hp => ?_)
    · rw [hv] at hp
      cases c with
      | true => simp only [if_true]; exact ha.2 m φ₁ H₁ s₁ _ _ E R₁ (W.step R st) hp (fun v b φ' H' s' h1 h2 h3 h4 => K v b φ' H' s' h1 h2 (st.trans h3) h4) hbl
      | false => simp only [Bool.false_eq_true, if_false]; exact hb.2 m φ₁ H₁ s₁ _ _ E R₁ (W.step R st) hp (fun v b φ' H' s' h1 h2 h3 h4 => K v b φ' H' s' h1 h2 (st.trans h3) h4) hbl
    · cases q : truth v with
      | none => rw [q] at hp; exact hp.elim
      | some b => exact ⟨b, rfl⟩⟩

/-- and, or -/
theorem and_list {pos : Pos} : ∀ (es : List Expr) (b : X), cAnd D sc Γ es = some b → (∀ e ∈ es, ∀ x, cE D sc Γ e = some x → SE prog w base C A e x sc Γ env ∧ ST prog w base C A e x sc Γ env) →
    (∀ (m : Loc) (φ : List Addr) (H : Hp) (s : Shared) (P : PV) (Q : Value → Shared → Prop) (E : Value → Shared → Prop), Rel base φ H s.heap → EnvR base φ sc env Γ m s.heap → wpE C b m H P → Cont base φ s P Q → wpAny (model prog w) A (boolOp pos .And (evalEach es env)) Q E s) ∧
    (∀ (m : Loc) (φ : List Addr) (H : Hp) (s : Shared) (P : PV) (Q : Bool → Shared → Prop) (E : Value → Shared → Prop), Rel base φ H s.heap → EnvR base φ sc env Γ m s.heap → wpE C b m H P →
      (∀ v b φ' H' s', P v H' → truth v = some b → Step [] φ φ' s s' → Rel base φ' H' s'.heap → Q b s') → (∀ v H', P v H' → ∃ b, truth v = some b) → wpAny (model prog w) A (allTrue .And es env) Q E s)
  | [], b, hc, _ => by rw [cAnd_nil] at hc; cases hc
  | [e], b, hc, IH => by
    rw [cAnd_one] at hc
    obtain ⟨h1, h2⟩ := IH e (by simp) b hc
    refine ⟨fun m φ H s P Q E R W hw K => h1 m φ H s P Q E R W hw K, fun m φ H s P Q E R W hw K hb => ?_⟩
    refine wpAny_allTrue_And_cons (h2 m φ H s P _ E R W hw (fun v c φ' H' s' hp hv st R' => ?_) hb)
    cases c with
    | true => simp only [if_true]; exact wpAny_allTrue_And_nil (K v true φ' H' s' hp hv st R')
    | false => simp only [Bool.false_eq_true, if_false]; exact K v false φ' H' s' hp hv st R'
  | e :: e' :: r, b, hc, IH => by
    rw [cAnd_two] at hc
    obtain ⟨x, y, hx, hy, hc⟩ := opt2_some hc
    cases hc
    obtain ⟨h1, h2⟩ := IH e (by simp) x hx
    obtain ⟨g1, g2⟩ := and_list (pos := pos) (e' :: r) y hy fun e he => IH e (List.mem_cons_of_mem _ he)
    refine ⟨fun m φ H s P Q E R W hw K => ?_, fun m φ H s P Q E R W hw K hb => ?_⟩
    · simp only [VN, VJ, VU, VS, VO, VT, Wc, VW, VF, VY, VV, Wb, VZ, VM, VK, VX, VE, VL, VD] at hw
      show wpAny (model prog w) A (eval e env >>= fun v => standAt pos >>= fun _ => holding [v] (truthy v) >>= fun t => match BoolOp.And, t with | .And, false | .Or, true => pure v | _, _ => boolOp pos .And (evalEach (e' :: r) env)) Q E s
      refine wpAny_bind (h1 m φ H s _ _ E R W hw fun v xv φ₁ H₁ s₁ hp st R₁ rv => wpAny_bind (wpAny_standAt (wpAny_bind (wpAny_holding ?_))))
      cases q : truth v with
      | none => rw [q] at hp; exact hp.elim
      | some t =>
        rw [q] at hp
        refine truth_sound rv q ?_
        cases t with
        | false => exact wpAny_pure ((K.after st).here R₁ hp rv)
        | true => exact g1 m φ₁ H₁ s₁ _ _ E R₁ (W.step R st) hp (K.after st)
    · simp only [VN, VJ, VU, VS, VO, VT, Wc, VW, VF, VY, VV, Wb, VZ, VM, VK, VX, VE, VL, VD] at hw
      refine wpAny_allTrue_And_cons (h2 m φ H s _ _ E R W hw (fun v c φ' H' s' hp hv st R' => ?_) fun v H' hp => ?_)
      · rw [hv] at hp
        cases c with
        | true => simp only [if_true]; exact g2 m φ' H' s' _ _ E R' (W.step R st) hp (fun v b φ'' H'' s'' h1 h2 h3 h4 => K v b φ'' H'' s'' h1 h2 (st.trans h3) h4) hb
        | false => simp only [Bool.false_eq_true, if_false]; exact K v false φ' H' s' hp hv st R'
      · cases q : truth v with
        | none => rw [q] at hp; exact hp.elim
        | some b => exact ⟨b, rfl⟩
theorem or_list {pos : Pos} : ∀ (es : List Expr) (b : X), cOr D sc Γ es = some b → (∀ e ∈ es, ∀ x, cE D sc Γ e = some x → SE prog w base C A e x sc Γ env ∧ ST prog w base C A e x sc Γ env) →
    (∀ (m : Loc) (φ : List Addr) (H : Hp) (s : Shared) (P : PV) (Q : Value → Shared → Prop) (E : Value → Shared → Prop), Rel base φ H s.heap → EnvR base φ sc env Γ m s.heap → wpE C b m H P → Cont base φ s P Q → wpAny (model prog w) A (boolOp pos .Or (evalEach es env)) Q E s) ∧
    (∀ (m : Loc) (φ : List Addr) (H : Hp) (s : Shared) (P : PV) (Q : Bool → Shared → Prop) (E : Value → Shared → Prop), Rel base φ H s.heap → EnvR base φ sc env Γ m s.heap → wpE C b m H P →
      (∀ v b φ' H' s', P v H' → truth v = some b → Step [] φ φ' s s' → Rel base φ' H' s'.heap → Q b s') → (∀ v H', P v H' → ∃ b, truth v = some b) → wpAny (model prog w) A (allTrue .Or es env) Q E s)
  | [], b, hc, _ => by rw [cOr_nil] at hc; cases hc
  | [e], b, hc, IH => by
    rw [cOr_one] at hc
    obtain ⟨h1, h2⟩ := IH e (by simp) b hc
    refine ⟨fun m φ H s P Q E R W hw K => h1 m φ H s P Q E R W hw K, fun m φ H s P Q E R W hw K hb => ?_⟩
    refine wpAny_allTrue_Or_cons (h2 m φ H s P _ E R W hw (fun v c φ' H' s' hp hv st R' => ?_) hb)
    cases c with
    | true => simp only [if_true]; exact K v true φ' H' s' hp hv st R'
    | false => simp only [Bool.false_eq_true, if_false]; exact wpAny_allTrue_Or_nil (K v false φ' H' s' hp hv st R')
  | e :: e' :: r, b, hc, IH => by
    rw [cOr_two] at hc
    obtain ⟨x, y, hx, hy, hc⟩ := opt2_some hc
    cases hc
    obtain ⟨h1, h2⟩ := IH e (by simp) x hx
    obtain ⟨g1, g2⟩ := or_list (pos := pos) (e' :: r) y hy fun e he => IH e (List.mem_cons_of_mem _ he)
    refine ⟨fun m φ H s P Q E R W hw K => ?_, fun m φ H s P Q E R W hw K hb => ?_⟩
    · simp only [VN, VJ, VU, VS, VO, VT, Wc, VW, VF, VY, VV, Wb, VZ, VM, VK, VX, VE, VL, VD] at hw
      show wpAny (model prog w) A (eval e env >>= fun v => standAt pos >>= fun _ => holding [v] (truthy v) >>= fun t => match BoolOp.Or, t with | .And, false | .Or, true => pure v | _, _ => boolOp pos .Or (evalEach (e' :: r) env)) Q E s
      refine wpAny_bind (h1 m φ H s _ _ E R W hw fun v xv φ₁ H₁ s₁ hp st R₁ rv => wpAny_bind (wpAny_standAt (wpAny_bind (wpAny_holding ?_))))
      cases q : truth v with
      | none => rw [q] at hp; exact hp.elim
      | some t =>
        rw [q] at hp
        refine truth_sound rv q ?_
        cases t with
        | true => exact wpAny_pure ((K.after st).here R₁ hp rv)
        | false => exact g1 m φ₁ H₁ s₁ _ _ E R₁ (W.step R st) hp (K.after st)
    · simp only [VN, VJ, VU, VS, VO, VT, Wc, VW, VF, VY, VV, Wb, VZ, VM, VK, VX, VE, VL, VD] at hw
      refine wpAny_allTrue_Or_cons (h2 m φ H s _ _ E R W hw (fun v c φ' H' s' hp hv st R' => ?_) fun v H' hp => ?_)
      · rw [hv] at hp
        cases c with
        | false => simp only [Bool.false_eq_true, if_false]; exact g2 m φ' H' s' _ _ E R' (W.step R st) hp (fun v b φ'' H'' s'' h1 h2 h3 h4 => K v b φ'' H'' s'' h1 h2 (st.trans h3) h4) hb
        | true => simp only [if_true]; exact K v true φ' H' s' hp hv st R'
      · cases q : truth v with
        | none => rw [q] at hp; exact hp.elim
        | some b => exact ⟨b, rfl⟩

theorem se_list {es : List Expr} {xs : List X} {pos : Pos} (hc : cEs D sc Γ es = some xs) (hz : es.length ≤ 1000) (IH : ∀ e ∈ es, ∀ x, cE D sc Γ e = some x → SE prog w base C A e x sc Γ env) : SE prog w base C A (.List es pos) (.list xs) sc Γ env :=
  fun m φ H s P Q E R W hw K => by
    simp only [VN, VJ, VU, VS, VO, VT, Wc, VW, VF, VY, VV, Wb, VZ, VM, VK, VX, VE, VL, VD] at hw
    refine wpAny_List (se_args es xs hc IH m φ H s _ _ E R W hw fun vs ws φ' H' s' hp st R' rv hl => ⟨?_, ?_⟩)
    · have := rv.length; unfold sizeLine; lia
    · exact (K.after st).pushList R' rv (by unfold room; lia) hp
theorem se_tup {es : List Expr} {xs : List X} {k : Nat} {pos : Pos} (hc : cEs D sc Γ es = some xs) (hz : es.length ≤ 1000) (IH : ∀ e ∈ es, ∀ x, cE D sc Γ e = some x → SE prog w base C A e x sc Γ env) : SE prog w base C A (.Tuple es k pos) (.tup xs) sc Γ env :=
  fun m φ H s P Q E R W hw K => by
    simp only [VN, VJ, VU, VS, VO, VT, Wc, VW, VF, VY, VV, Wb, VZ, VM, VK, VX, VE, VL, VD] at hw
    refine wpAny_Tuple (se_args es xs hc IH m φ H s _ _ E R W hw fun vs ws φ' H' s' hp st R' rv hl => ⟨?_, ?_⟩)
    · have := rv.length; unfold sizeLine; lia
    · exact (K.after st).pushTup R' rv (by unfold room; lia) hp

theorem se_item {e i : Expr} {a b : X} {pos : Pos} (hs : ∀ o i', subscripted i false o i' = operate [o, i'] (getItem o i')) (he : SE prog w base C A e a sc Γ env) (hi : SE prog w base C A i b sc Γ env) : SE prog w base C A (.Subscript e i pos) (.bin .item a b) sc Γ env :=
  fun m φ H s P Q E R W hw K => by
    simp only [VN, VJ, VU, VS, VO, VT, Wc, VW, VF, VY, VV, Wb, VZ, VM, VK, VX, VE, VL, VD] at hw
    refine PyProof.Rows.Subscript_ (he m φ H s _ _ E R W hw fun v x φ₁ H₁ s₁ hp st₁ R₁ rv => ?_)
    refine hi m φ₁ H₁ s₁ _ _ E R₁ (W.step R st₁) hp fun u y φ₂ H₂ s₂ hp₂ st₂ R₂ ru => ?_
    exact sItem hs R₂ (R₁.mono st₂ rv) ru hp₂ (K.after (st₁.trans st₂))

theorem se_part {o : Option Expr} {a : X} (hc : cO D sc Γ o = some a) (IH : ∀ e, o = some e → ∀ x, cE D sc Γ e = some x → SE prog w base C A e x sc Γ env)
    {m : Loc} {φ : List Addr} {H : Hp} {s : Shared} {P : PV} {Q : Value → Shared → Prop} {E : Value → Shared → Prop} (R : Rel base φ H s.heap) (W : EnvR base φ sc env Γ m s.heap) (hw : wpE C a m H P) (K : Cont base φ s P Q) :
    wpAny (model prog w) A (evalPart o env) Q E s := by
  cases o with
  | none =>
    rw [cO_none] at hc; cases hc
    simp only [VN, VJ, VU, VS, VO, VT, Wc, VW, VF, VY, VV, Wb, VZ, VM, VK, VX, VE, VL, VD] at hw
    rw [evalPart_none]
    exact wpAny_pure (K.here R hw rfl)
  | some e =>
    rw [evalPart_some]
    exact IH e rfl a (by simpa [cO] using hc) m φ H s P Q E R W hw K

theorem se_slice {e : Expr} {lo hi : Option Expr} {a l h : X} {p pos : Pos} (he : SE prog w base C A e a sc Γ env) (hl : cO D sc Γ lo = some l) (hh : cO D sc Γ hi = some h)
    (IHl : ∀ e, lo = some e → ∀ x, cE D sc Γ e = some x → SE prog w base C A e x sc Γ env) (IHh : ∀ e, hi = some e → ∀ x, cE D sc Γ e = some x → SE prog w base C A e x sc Γ env) :
    SE prog w base C A (.Subscript e (.Slice lo hi none p) pos) (.slice a l h) sc Γ env := fun m φ H s P Q E R W hw K => by
  simp only [VN, VJ, VU, VS, VO, VT, Wc, VW, VF, VY, VV, Wb, VZ, VM, VK, VX, VE, VL, VD] at hw
  refine PyProof.Rows.Subscript_ (he m φ H s _ _ E R W hw fun v x φ₁ H₁ s₁ hp st₁ R₁ rv => ?_)
  refine wpAny_Slice (se_part hl IHl R₁ (W.step R st₁) hp fun u y φ₂ H₂ s₂ hp₂ st₂ R₂ ru => ?_)
  refine se_part hh IHh R₂ ((W.step R st₁).step R₁ st₂) hp₂ fun t z φ₃ H₃ s₃ hp₃ st₃ R₃ rt => ?_
  rw [evalPart_none]
  refine wpAny_pure ?_
  have rv₃ := R₂.mono st₃ (R₁.mono st₂ rv)
  have ru₃ := R₂.mono st₃ ru
  split at hp₃
  · rename_i k li hi' hlo hhi
    split at hp₃
    · rename_i vs hk
      obtain ⟨d, us, n, rfl, _, hd, hr⟩ := rep_ref R₃ rv₃ hk
      have pl := part_is hlo ru₃
      have ph := part_is hhi rt
      have kp : ∀ b o, s₃.heap.get? b = some o → (s₃.heap.push { cls := .type "slice", data := .fields #[y, z, .none] }).get? b = some o := fun b o e => Heap.get?_push_of_some _ e
      have R₄ := R₃.grow kp
      have hL : (s₃.heap.push { cls := .type "slice", data := .fields #[y, z, .none] }).IsList d us.toArray := ⟨_, kp _ _ hd, rfl, n, rfl⟩
      have hr₄ : RepL base φ₃ (s₃.heap.push { cls := .type "slice", data := .fields #[y, z, .none] }) vs us := RepL.mono (List.prefix_refl _) (fun b o e _ => kp b o e) _ _ hr
      refine PyProof.Rows.tail_any (s := { s₃ with heap := s₃.heap.push { cls := .type "slice", data := .fields #[y, z, .none] } }) hL.typeIs slot_list_getitem.lookup (ops := [.ref s₃.heap.objs.size, .ref d]) ?_ (by rfl)
      have hz := R₃.short hk
      refine wpAny_getItem_list_slice (s := { s₃ with heap := s₃.heap.push { cls := .type "slice", data := .fields #[y, z, .none] } }) hL (Heap.IsSliceOf.new ..) pl ph .none (by simp) ?_ (by have := hr.length; simp only [List.size_toArray, sizeLine]; unfold room at hz; lia)
      obtain ⟨qs, e1, r1⟩ := picked_rep (s := { s₃ with heap := s₃.heap.push { cls := .type "slice", data := .fields #[y, z, .none] } }) (lo := li) (hi := hi') hr₄
      rw [e1]
      refine ((K.after ((st₁.trans st₂).trans st₃)).after (Step.grow (tk := s₃.toks) kp)).pushList R₄ r1 ?_ hp₃
      have := picked_len vs li hi'; lia
    · exact hp₃.elim
  · exact hp₃.elim
end
end Mine

open PySem
namespace Mine

section
variable {prog : Program} {w : World} {base : Heap} {D : Tabs} {T : Nat → Option Fn} {mg mb : Str → Option Value} {C : Calls} {A : Around} {sc : Scope} {Γ : List Str} {env : Env}

/-- list(reversed(x)) -/
noncomputable def RevSound (prog : Program) (w : World) (base : Heap) (A : Around) : Prop :=
  ∀ (φ : List Addr) (H : Hp) (s : Shared) (v : V) (x : Value) (P : PV) (Q : Value → Shared → Prop) (E : Value → Shared → Prop), Rel base φ H s.heap → Rep base φ s.heap v x → wpU .rev v H P → Cont base φ s P Q →
    wpAny (model prog w) A (call (.type "reversed") [x]) (fun r s₁ => wpAny (model prog w) A (call (.type "list") [r]) Q E s₁) E s

/-- a comprehension over zip -/
noncomputable def ZipSound (prog : Program) (w : World) (base : Heap) (D : Tabs) (C : Calls) (A : Around) : Prop :=
  ∀ (sc csc : Scope) (Γ : List Str) (env : Env) (elt iter : Expr) (tg : Expr) (xs : List Str) (pos pos' : Pos) (a b ex : X) (use : Option (Value → Sem Unit)), tgts tg = some xs → cE D sc Γ iter = some (.bin .zip a b) → okComp sc csc = true → okOwn csc Γ xs = true →
    (∀ x ∈ xs, isOwn csc x = true) → xs.length = 2 → cE D csc xs.reverse elt = some ex →
    (∀ e', sizeOf e' ≤ sizeOf iter → ∀ y, cE D sc Γ e' = some y → SE prog w base C A e' y sc Γ env) → (∀ cenv, SE prog w base C A elt ex csc xs.reverse cenv) →
    ∀ (m : Loc) (φ : List Addr) (H : Hp) (s : Shared) (P : PV) (Q : Value → Shared → Prop) (E : Value → Shared → Prop), Rel base φ H s.heap → EnvR base φ sc env Γ m s.heap → wpE C (.zcomp ex a b) m H P →
    (∀ (d c : Addr) (φ' : List Addr) (H' : Hp) (s' : Shared) (acc : List V), P (.ref H'.length) (H' ++ [acc]) → Step [] φ (φ' ++ [d]) s s' → Rel base (φ' ++ [d]) (H' ++ [acc]) s'.heap → Rep base (φ' ++ [d]) s'.heap (.ref H'.length) (.ref d) →
      (∃ mm, s'.heap.Ns c mm) → s.heap.get? c = none → base.get? c = none → c ∉ φ' ++ [d] → compPost (model prog w) A E use Q (.ref d) c (.ok .next) s') →
    wpAny (model prog w) A (comprehension (.ListComp elt [⟨tg, iter, [], 0⟩] csc pos) csc env pos' (newList []) false (eval iter env) use) Q E s

/-- a call of a built-in upon one tree -/
theorem call_b1 (G : Ground base D T mg mb) {f : Str} {p pos : Pos} {id : String} {e : Expr} {x : X} (hb : (f, Value.builtin id) ∈ biTab) (hx : isGlob sc f = true) (hd : (f == ("__debug__" : Str)) = false) (hc : cE D sc Γ e = some x)
    {m : Loc} {φ : List Addr} {H : Hp} {s : Shared} {Q : Value → Shared → Prop} {E : Value → Shared → Prop} (R : Rel base φ H s.heap) (W : EnvR base φ sc env Γ m s.heap)
    (h : wpAny (model prog w) A (eval e env) (fun v s₁ => wpAny (model prog w) A (call (.builtin id) [v]) Q E s₁) E s) : wpAny (model prog w) A (eval (.Call (.Name f p) [e] [] pos) env) Q E s := by
  refine wpAny_Call_NameR (blt_name G R W hx hd hb ?_)
  have e1 : backTo pos (starEach [e] env) = [(false, eval e env)] := by rw [not_star hc]; rfl
  rw [e1]
  refine PySem.Calls.callWith_builtin rfl (PySem.Calls.evalArgs_plain ?_)
  rw [← e1]
  exact wpAny_items_cons (wpAny_mono h (fun v s₁ hv => wpAny_items_nil hv) fun _ _ y => y) (not_star hc [])
theorem call_t1 (G : Ground base D T mg mb) {f : Str} {p pos : Pos} {id : String} {e : Expr} {x : X} (hb : (f, Value.type id) ∈ biTab) (hx : isGlob sc f = true) (hd : (f == ("__debug__" : Str)) = false) (hc : cE D sc Γ e = some x)
    {m : Loc} {φ : List Addr} {H : Hp} {s : Shared} {Q : Value → Shared → Prop} {E : Value → Shared → Prop} (R : Rel base φ H s.heap) (W : EnvR base φ sc env Γ m s.heap)
    (h : wpAny (model prog w) A (eval e env) (fun v s₁ => wpAny (model prog w) A (call (.type id) [v]) Q E s₁) E s) : wpAny (model prog w) A (eval (.Call (.Name f p) [e] [] pos) env) Q E s := by
  refine wpAny_Call_NameR (blt_name G R W hx hd hb ?_)
  have e1 : backTo pos (starEach [e] env) = [(false, eval e env)] := by rw [not_star hc]; rfl
  rw [e1]
  refine callWith_type rfl (PySem.Calls.evalArgs_plain ?_)
  rw [← e1]
  exact wpAny_items_cons (wpAny_mono h (fun v s₁ hv => wpAny_items_nil hv) fun _ _ y => y) (not_star hc [])

set_option maxHeartbeats 4000000 in
/-- calls by a name -/
theorem se_call (G : Ground base D T mg mb) (hh : A.handled = none) (hC : SoundC prog w base D T C A) (hR : D.revs = true → RevSound prog w base A) {f : Str} {p pos : Pos} {args : List Expr} {as : List X} {x : X}
    (hx : isGlob sc f = true) (hd : (f == ("__debug__" : Str)) = false) (hc : cEs D sc Γ args = some as) (hm : mkCall D f as = some x)
    (IH : ∀ e', sizeOf e' < sizeOf args → ∀ y, cE D sc Γ e' = some y → SE prog w base C A e' y sc Γ env) : SE prog w base C A (.Call (.Name f p) args [] pos) x sc Γ env := fun m φ H s P Q E R W hw K => by
  have IHa : ∀ e ∈ args, ∀ y, cE D sc Γ e = some y → SE prog w base C A e y sc Γ env := fun e he y hy => IH e (List.sizeOf_lt_of_mem he) y hy
  rcases mkCall_cases hm with ⟨k, hk, rfl⟩ | ⟨_, ⟨a, rfl, hq⟩ | ⟨a, b, rfl, hq⟩⟩
  · simp only [VN, VJ, VU, VS, VO, VT, Wc, VW, VF, VY, VV, Wb, VZ, VM, VK, VX, VE, VL, VD] at hw
    exact se_call_f G hC hk hx hd hc IHa R W hw K
  · -- one argument
    obtain ⟨e, rfl, he⟩ := args1 hc
    have IHe := IHa e (by simp) a he
    rcases call1_cases hq with ⟨rfl, ⟨e', rfl, rfl⟩ | rfl⟩ | ⟨rfl, ⟨e', hrev, rfl, rfl⟩ | rfl⟩ | ⟨u, hu, rfl⟩
    · obtain ⟨g, p', args', pos', as', rfl, hd', hg, has', hm'⟩ := inv_un he (by simp)
      obtain ⟨_, rfl, hff⟩ := mk_un hm' (.inr (.inr (.inr rfl)))
      simp only [reduceCtorEq, false_and, false_or, true_and] at hff
      subst hff
      obtain ⟨e2, rfl, he2⟩ := args1 has'
      simp only [VN, VJ, VU, VS, VO, VT, Wc, VW, VF, VY, VV, Wb, VZ, VM, VK, VX, VE, VL, VD] at hw
      refine call_b1 (id := "len") G (bt 0 rfl) hx hd he R W ?_
      refine call_t1 (id := "set") G (bt 6 rfl) hg hd' he2 R W ?_
      refine IH e2 (by simp; lia) _ he2 m φ H s _ _ E R W hw fun v y φ' H' s' hp st R' r => ?_
      exact sNset hh R' r hp (K.after st)
    · simp only [VN, VJ, VU, VS, VO, VT, Wc, VW, VF, VY, VV, Wb, VZ, VM, VK, VX, VE, VL, VD] at hw
      exact call_b1 (id := "len") G (bt 0 rfl) hx hd he R W (IHe m φ H s _ _ E R W hw fun v y φ' H' s' hp st R' r => sLen R' r hp (K.after st))
    · obtain ⟨g, p', args', pos', as', rfl, hd', hg, has', hm'⟩ := inv_un he (by simp)
      obtain ⟨_, rfl, hff⟩ := mk_un hm' (.inr (.inr (.inl rfl)))
      simp only [reduceCtorEq, false_and, false_or, or_false, true_and] at hff
      subst hff
      obtain ⟨e2, rfl, he2⟩ := args1 has'
      simp only [VN, VJ, VU, VS, VO, VT, Wc, VW, VF, VY, VV, Wb, VZ, VM, VK, VX, VE, VL, VD] at hw
      refine call_t1 (id := "list") G (bt 1 rfl) hx hd he R W ?_
      refine call_t1 (id := "reversed") G (bt 7 rfl) hg hd' he2 R W ?_
      refine IH e2 (by simp; lia) _ he2 m φ H s _ _ E R W hw fun v y φ' H' s' hp st R' r => ?_
      exact hR hrev φ' H' s' v y P Q E R' r hp (K.after st)
    · simp only [VN, VJ, VU, VS, VO, VT, Wc, VW, VF, VY, VV, Wb, VZ, VM, VK, VX, VE, VL, VD] at hw
      exact call_t1 (id := "list") G (bt 1 rfl) hx hd he R W (IHe m φ H s _ _ E R W hw fun v y φ' H' s' hp st R' r => sList R' r hp (K.after st))
    · simp only [tab1, List.mem_cons, Prod.mk.injEq, List.not_mem_nil, or_false] at hu
      simp only [VN, VJ, VU, VS, VO, VT, Wc, VW, VF, VY, VV, Wb, VZ, VM, VK, VX, VE, VL, VD] at hw
      rcases hu with ⟨rfl, rfl⟩ | ⟨rfl, rfl⟩ | ⟨rfl, rfl⟩ | ⟨rfl, rfl⟩ | ⟨rfl, rfl⟩ | ⟨rfl, rfl⟩ | ⟨rfl, rfl⟩ | ⟨rfl, rfl⟩
      · exact call_t1 (id := "tuple") G (bt 2 rfl) hx hd he R W (IHe m φ H s _ _ E R W hw fun v y φ' H' s' hp st R' r => sTuple R' r hp (K.after st))
      · exact call_b1 (id := "sum") G (bt 3 rfl) hx hd he R W (IHe m φ H s _ _ E R W hw fun v y φ' H' s' hp st R' r => sSum hh R' r hp (K.after st))
      · exact call_b1 (id := "sorted") G (bt 4 rfl) hx hd he R W (IHe m φ H s _ _ E R W hw fun v y φ' H' s' hp st R' r => sSorted R' r hp (K.after st))
      · exact call_b1 (id := "abs") G (bt 5 rfl) hx hd he R W (IHe m φ H s _ _ E R W hw fun v y φ' H' s' hp st R' r => sAbs R' r hp (K.after st))
      · exact call_t1 (id := "set") G (bt 6 rfl) hx hd he R W (IHe m φ H s _ _ E R W hw fun v y φ' H' s' hp st R' r => hp.elim)
      · exact call_t1 (id := "reversed") G (bt 7 rfl) hx hd he R W (IHe m φ H s _ _ E R W hw fun v y φ' H' s' hp st R' r => hp.elim)
      · exact call_t1 (id := "range") G (bt 8 rfl) hx hd he R W (IHe m φ H s _ _ E R W hw fun v y φ' H' s' hp st R' r => hp.elim)
      · exact call_t1 (id := "enumerate") G (bt 9 rfl) hx hd he R W (IHe m φ H s _ _ E R W hw fun v y φ' H' s' hp st R' r => hp.elim)
  · -- two arguments
    obtain ⟨e, e', rfl, he, he'⟩ := args2 hc
    rcases call2_cases hq with ⟨rfl, t, u, rfl, hu, rfl⟩ | ⟨o, ho, rfl⟩
    · -- isinstance
      obtain ⟨p', rfl, hd', hg'⟩ := inv_glob he'
      have IHe := IHa e (by simp) a he
      have ht := isi_of hu
      have hbt : ∃ id : String, (t, Value.type id) ∈ biTab ∧ ((id = "int" ∧ u = .isInt) ∨ (id = "bool" ∧ u = .isBool) ∨ (id = "list" ∧ u = .isList) ∨ (id = "tuple" ∧ u = .isTuple)) := by
        rcases ht with ⟨rfl, rfl⟩ | ⟨rfl, rfl⟩ | ⟨rfl, rfl⟩ | ⟨rfl, rfl⟩
        · exact ⟨"int", bt 11 rfl, by simp⟩
        · exact ⟨"bool", bt 12 rfl, by simp⟩
        · exact ⟨"list", bt 1 rfl, by simp⟩
        · exact ⟨"tuple", bt 2 rfl, by simp⟩
      obtain ⟨id, hid, hiu⟩ := hbt
      simp only [VN, VJ, VU, VS, VO, VT, Wc, VW, VF, VY, VV, Wb, VZ, VM, VK, VX, VE, VL, VD] at hw
      refine wpAny_Call_NameR (blt_name G R W hx hd (v := .builtin "isinstance") (bt 10 rfl) ?_)
      have e1 : backTo pos (starEach [e, .Name t p'] env) = [(false, eval e env), (false, eval (.Name t p') env)] := by rw [not_star he]; rfl
      rw [e1]
      refine PySem.Calls.callWith_builtin rfl (PySem.Calls.evalArgs_plain ?_)
      rw [← e1]
      refine wpAny_items_cons (IHe m φ H s _ _ E R W hw fun v y φ' H' s' hp st R' r => ?_) (not_star he _)
      refine wpAny_items_cons (blt_name G R' (W.step R st) hg' hd' hid (wpAny_items_nil ?_)) rfl
      exact sIsi hiu R' r hp (K.after st)
    · have two : ∀ (o : B), wpE C (.bin o a b) m H P → wpEs C [a, b] m H (fun vs H' => match vs with | [v, z] => wpB o v z H' P | _ => False) := fun o hw => by
        simpa [VN, VJ, VU, VS, VO, VT, Wc, VW, VF, VY, VV, Wb, VZ, VM, VK, VX, VE, VL, VD, wes_nil, wes_cons] using hw
      replace hw := two _ hw
      simp only [tab2, List.mem_cons, Prod.mk.injEq, List.not_mem_nil, or_false] at ho
      rcases ho with ⟨rfl, rfl⟩ | ⟨rfl, rfl⟩ | ⟨rfl, rfl⟩ | ⟨rfl, rfl⟩
      · refine se_call_b (id := "max") G (bt 13 rfl) hx hd hc (by simp) IHa R W hw fun vs ws φ' H' s' hp st R' rv => ?_
        split at hp
        · obtain ⟨x1, r1, rfl, h1, x2, r2, rfl, h2, h3⟩ := rv
          rw [show r2 = [] from h3]
          exact sMax hh R' h1 h2 hp (K.after st)
        · exact hp.elim
      · refine se_call_b (id := "min") G (bt 14 rfl) hx hd hc (by simp) IHa R W hw fun vs ws φ' H' s' hp st R' rv => ?_
        split at hp
        · obtain ⟨x1, r1, rfl, h1, x2, r2, rfl, h2, h3⟩ := rv
          rw [show r2 = [] from h3]
          exact sMin hh R' h1 h2 hp (K.after st)
        · exact hp.elim
      · refine se_call_t (id := "range") G (bt 8 rfl) hx hd hc (by simp) IHa R W hw fun vs ws φ' H' s' hp st R' rv => ?_
        split at hp <;> exact hp.elim
      · refine se_call_t (id := "zip") G (bt 15 rfl) hx hd hc (by simp) IHa R W hw fun vs ws φ' H' s' hp st R' rv => ?_
        split at hp <;> exact hp.elim
end
end Mine

open PySem
namespace Mine

section
variable {prog : Program} {w : World} {base : Heap} {D : Tabs} {T : Nat → Option Fn} {mg mb : Str → Option Value} {C : Calls} {A : Around}

theorem tgts_one {tg : Expr} {x : Str} (h : tgts tg = some [x]) : ∃ p, tg = .Name x p := by
  unfold tgts at h
  cases hn : nameOf tg with
  | some y => rw [hn] at h; cases h; exact nameOf_eq hn
  | none =>
    rw [hn] at h
    obtain ⟨p, _, h⟩ := Option.bind_eq_some_iff.mp h
    split at h <;> cases h

/-- a comprehension's value -/
theorem comp_none {φ : List Addr} {s : Shared} {P : PV} {Q : Value → Shared → Prop} {E : Value → Shared → Prop} (K : Cont base φ s P Q) (d c : Addr) (φ' : List Addr) (H' : Hp) (s' : Shared) (acc : List V) (hp : P (.ref H'.length) (H' ++ [acc]))
    (st : Step [] φ (φ' ++ [d]) s s') (R : Rel base (φ' ++ [d]) (H' ++ [acc]) s'.heap) (r : Rep base (φ' ++ [d]) s'.heap (.ref H'.length) (.ref d)) (hn : ∃ mm, s'.heap.Ns c mm) (hc : s.heap.get? c = none) (hb : base.get? c = none) (hcn : c ∉ φ' ++ [d]) :
    compPost (model prog w) A E none Q (.ref d) c (.ok .next) s' := by
  obtain ⟨mm, hn⟩ := hn
  refine ⟨mm, hn, fun h' hs => ?_⟩
  have nt := ns_not_tup hn
  exact K _ _ _ _ _ hp (st.skip (wr := [c]) (by simpa using hc) (fun b o hb' e => hs.extBut b o (by simpa using hb') e) ⟨h', s'.toks, rfl⟩) (R.but hcn hb hs.extBut nt) (r.but hs.extBut nt)

theorem sub_plain {i : Expr} (h : ∀ lo hi p, i ≠ .Slice lo hi none p) (o i' : Value) : subscripted i false o i' = operate [o, i'] (getItem o i') := by
  cases i <;> first
    | rfl
    | (rename_i lo hi st p
       cases st with
       | none => exact absurd rfl (h lo hi p)
       | some _ => rfl)
theorem okIt_ne {i : It} (h : okIt i 1 = true) : i ≠ .enum := fun q => by rw [q] at h; simp [okIt] at h

set_option maxHeartbeats 2000000 in
theorem soundE (G : Ground base D T mg mb) (hh : A.handled = none) (hu : A.units + 64 < cLine) (hC : SoundC prog w base D T C A) (hR : D.revs = true → RevSound prog w base A) (hZ : D.zips = true → ZipSound prog w base D C A) :
    ∀ (N : Nat) (e : Expr), sizeOf e < N → ∀ (sc : Scope) (Γ : List Str) (env : Env) (x : X), cE D sc Γ e = some x → SE prog w base C A e x sc Γ env ∧ ST prog w base C A e x sc Γ env
  | 0, _, h, _, _, _, _, _ => absurd h (Nat.not_lt_zero _)
  | N + 1, e, hN, sc, Γ, env, x, hc => by
    have IH := soundE G hh hu hC hR hZ N
    have marks : ∀ {op : CmpOp} {r : Expr} {y : X} {sc : Scope} {Γ : List Str}, cE D sc Γ r = some y → behindInMarks op r = false := fun {op r y sc Γ} h => by
      exact cE_elim (M := fun r _ => behindInMarks op r = false) (by intros; rfl) (by intros; rfl) (by intros; rfl) (by intros; rfl) (by intros; rfl) (by intros; rfl) (by intros; rfl) (by intros; rfl) (by intros; rfl) (by intros; rfl) (by intros; rfl) (by intros; rfl) (by intros; rfl) r y h
    have val : ∀ {e : Expr} {x : X}, (∀ whole, isTrue e env whole = (do let v ← whole; standAt e.pos; holding [v] (truthy v))) → SE prog w base C A e x sc Γ env → SE prog w base C A e x sc Γ env ∧ ST prog w base C A e x sc Γ env :=
      fun he h => ⟨h, st_of_se h he⟩
    revert hN
    refine cE_elim (M := fun e x => sizeOf e < N + 1 → SE prog w base C A e x sc Γ env ∧ ST prog w base C A e x sc Γ env) ?_ ?_ ?_ ?_ ?_ ?_ ?_ ?_ ?_ ?_ ?_ ?_ ?_ e x hc
    · -- Constant
      intro c k p x hc hN
      cases c with
      | none => cases hc; exact val (fun _ => rfl) fun m φ H s P Q E R W hw K => wpAny_Constant_none (K.here (v := .none) R (by simpa [VN, VJ, VU, VS, VO, VT, Wc, VW, VF, VY, VV, Wb, VZ, VM, VK, VX, VE, VL, VD] using hw) rfl)
      | bool b => cases hc; exact val (fun _ => rfl) fun m φ H s P Q E R W hw K => wpAny_Constant_bool (K.here (v := .bool _) R (by simpa [VN, VJ, VU, VS, VO, VT, Wc, VW, VF, VY, VV, Wb, VZ, VM, VK, VX, VE, VL, VD] using hw) rfl)
      | int i => cases hc; exact val (fun _ => rfl) fun m φ H s P Q E R W hw K => wpAny_Constant_int (K.tok (v := .int _) _ R (by simpa [VN, VJ, VU, VS, VO, VT, Wc, VW, VF, VY, VV, Wb, VZ, VM, VK, VX, VE, VL, VD] using hw) ⟨_, rfl⟩)
      | str t => cases hc; exact val (fun _ => rfl) fun m φ H s P Q E R W hw K => wpAny_Constant_str (K.tok (v := .str _) _ R (by simpa [VN, VJ, VU, VS, VO, VT, Wc, VW, VF, VY, VV, Wb, VZ, VM, VK, VX, VE, VL, VD] using hw) ⟨_, rfl⟩)
      | _ => cases hc
    · intro y p x hc hN
      exact val (fun _ => rfl) (se_name G hc)
    · intro l op r p o a b h1 h2 h3 hN
      exact val (fun _ => rfl) (se_bin h1 (IH l (by simp at hN; lia) sc Γ env a h2).1 (IH r (by simp at hN; lia) sc Γ env b h3).1)
    · intro op e' p x hc hN
      rcases un_kind hc with ⟨a, rfl, ha, rfl⟩ | ⟨a, rfl, ha, rfl⟩
      · refine val (fun _ => rfl) fun m φ H s P Q E R W hw K => ?_
        simp only [VN, VJ, VU, VS, VO, VT, Wc, VW, VF, VY, VV, Wb, VZ, VM, VK, VX, VE, VL, VD] at hw
        exact wpAny_UnaryOp ((IH e' (by simp at hN; lia) sc Γ env a ha).1 m φ H s _ _ E R W hw fun v y φ' H' s' hp st R' r => sNeg R' r hp (K.after st))
      · have := IH e' (by simp at hN; lia) sc Γ env a ha
        exact se_not this.1 this.2
    · intro op v vs p x hc hN
      rcases bool_kind hc with ⟨a, b, rfl, h1, h2, rfl⟩ | ⟨a, b, rfl, h1, h2, rfl⟩
      · have hand : cAnd D sc Γ (v :: vs) = some (.and a b) := by
          cases vs with
          | nil => rw [cAnd_nil] at h2; cases h2
          | cons v' vs' => rw [cAnd_two, h1, h2]; rfl
        obtain ⟨g1, g2⟩ := and_list (prog := prog) (w := w) (base := base) (C := C) (A := A) (env := env) (pos := p) (v :: vs) _ hand fun e he y hy => IH e (by have := List.sizeOf_lt_of_mem he; simp at hN this; lia) sc Γ env y hy
        exact ⟨g1, fun m φ H s P Q E R W hw K hb => wpAny_isTrue_BoolOp (g2 m φ H s P Q E R W hw K hb)⟩
      · have hand : cOr D sc Γ (v :: vs) = some (.or a b) := by
          cases vs with
          | nil => rw [cOr_nil] at h2; cases h2
          | cons v' vs' => rw [cOr_two, h1, h2]; rfl
        obtain ⟨g1, g2⟩ := or_list (prog := prog) (w := w) (base := base) (C := C) (A := A) (env := env) (pos := p) (v :: vs) _ hand fun e he y hy => IH e (by have := List.sizeOf_lt_of_mem he; simp at hN this; lia) sc Γ env y hy
        exact ⟨g1, fun m φ H s P Q E R W hw K hb => wpAny_isTrue_BoolOp (g2 m φ H s P Q E R W hw K hb)⟩
    · intro t a b p t' a' b' h1 h2 h3 hN
      exact se_ite (IH t (by simp at hN; lia) sc Γ env t' h1).2 (IH a (by simp at hN; lia) sc Γ env a' h2) (IH b (by simp at hN; lia) sc Γ env b' h3)
    · intro l ops rs p x hc hN
      rcases cmp_kind hc with ⟨op, a, b, rfl, h1, h2, rfl⟩ | ⟨op₁, op₂, a, b, c, rfl, h1, h2, rfl⟩
      · obtain ⟨r, rfl, h3⟩ := args1 h2
        exact se_cmp hu (marks h3) (IH l (by simp at hN; lia) sc Γ env a h1).1 (IH r (by simp at hN; lia) sc Γ env b h3).1
      · obtain ⟨r₁, r₂, rfl, h3, h4⟩ := args2 h2
        exact se_chain hu (marks h4) (IH l (by simp at hN; lia) sc Γ env a h1).1 (IH r₁ (by simp at hN; lia) sc Γ env b h3).1 (IH r₂ (by simp at hN; lia) sc Γ env c h4).1
    · intro es p xs hz hxs hN
      exact val (fun _ => rfl) (se_list hxs hz fun e he y hy => (IH e (by have := List.sizeOf_lt_of_mem he; simp at hN; lia) sc Γ env y hy).1)
    · intro es k p xs hz hxs hN
      exact val (fun _ => rfl) (se_tup hxs hz fun e he y hy => (IH e (by have := List.sizeOf_lt_of_mem he; simp at hN; lia) sc Γ env y hy).1)
    · intro e' lo hi q p a l h h1 h2 h3 hN
      exact val (fun _ => rfl) (se_slice (IH e' (by simp at hN; lia) sc Γ env a h1).1 h2 h3 (fun e he y hy => (IH e (by subst he; simp at hN; lia) sc Γ env y hy).1) fun e he y hy => (IH e (by subst he; simp at hN; lia) sc Γ env y hy).1)
    · intro e' i p a b hns h1 h2 hN
      exact val (fun _ => rfl) (se_item (sub_plain hns) (IH e' (by simp at hN; lia) sc Γ env a h1).1 (IH i (by simp at hN; lia) sc Γ env b h2).1)
    · intro f p args p' as x h1 h2 has hc hN
      exact val (fun _ => rfl) (se_call G hh hC hR h2 h1 has hc fun e' he y hy => (IH e' (by simp at hN; lia) sc Γ env y hy).1)
    · -- ListComp
      intro elt tg iter ifs csc p x hc hN
      obtain ⟨xs, h1, ⟨hok, hown, hall⟩, ⟨a, b, ex, h2, hz, hlen, rfl, hex, _, rfl⟩ | ⟨ix, cx, ex, h2, hlen, hit, h3, h4, rfl⟩⟩ := cComp_cases hc
      · refine val (fun _ => rfl) fun m φ H s P Q E R W hw K => ?_
        exact hZ hz sc csc Γ env elt iter tg xs p _ a b ex none h1 h2 hok hown hall hlen hex (fun e' he y hy => (IH e' (by simp at hN; lia) sc Γ env y hy).1) (fun cenv => (IH elt (by simp at hN; lia) csc xs.reverse cenv ex hex).1) m φ H s P Q E R W hw (comp_none K)
      · obtain ⟨y, rfl⟩ := List.length_eq_one_iff.mp hlen
        obtain ⟨px, rfl⟩ := tgts_one h1
        refine val (fun _ => rfl) fun m φ H s P Q E R W hw K => ?_
        exact comp_core G hh h2 (okIt_ne hit) hok hown (hall y (.head _)) h3 h4 (fun e' he z hz => (IH e' (by simp at hN; lia) sc Γ env z hz).1) (fun cenv => (IH elt (by simp at hN; lia) csc _ cenv ex h4).1)
          (fun cenv e he z hz => (IH e (by have := List.sizeOf_lt_of_mem he; simp at hN; lia) csc _ cenv z hz).2) R W hw (comp_none K)
end
end Mine

open PySem
namespace Mine

section
variable {prog : Program} {w : World} {base : Heap} {D : Tabs} {T : Nat → Option Fn} {mg mb : Str → Option Value} {C : Calls} {A : Around} {sc : Scope} {Γ : List Str} {env : Env}

noncomputable def FlRep (base : Heap) (φ : List Addr) (h : Heap) : Fl → Flow → Prop
  | .next, f => f = .next
  | .ret v, f => ∃ x, f = .ret x ∧ Rep base φ h v x

/-- what a statement hands on -/
noncomputable def ContF (base : Heap) (sc : Scope) (Γ : List Str) (env : Env) (φ : List Addr) (s : Shared) (Q : PF) (QQ : Flow → Shared → Prop) : Prop :=
  ∀ fl f m' φ' H' s', Q fl m' H' → Step (own env) φ φ' s s' → Rel base φ' H' s'.heap → EnvR base φ' sc env Γ m' s'.heap → FlRep base φ' s'.heap fl f → QQ f s'

theorem ContF.after {φ φ' : List Addr} {s s' : Shared} {Q : PF} {QQ : Flow → Shared → Prop} (K : ContF base sc Γ env φ s Q QQ) (st : Step (own env) φ φ' s s') : ContF base sc Γ env φ' s' Q QQ :=
  fun fl f m' φ'' H' s'' hq st' R W r => K fl f m' φ'' H' s'' hq (st.trans st') R W r

noncomputable def SS (prog : Program) (w : World) (base : Heap) (C : Calls) (A : Around) (st : Stmt) (x : S) (sc : Scope) (Γ : List Str) (env : Env) : Prop :=
  ∀ (m : Loc) (φ : List Addr) (H : Hp) (s : Shared) (Q : PF) (QQ : Flow → Shared → Prop) (E : Value → Shared → Prop), Rel base φ H s.heap → EnvR base φ sc env Γ m s.heap → wpS C x m H Q → ContF base sc Γ env φ s Q QQ → wpAny (model prog w) A (exec st env) QQ E s
noncomputable def SSs (prog : Program) (w : World) (base : Heap) (C : Calls) (A : Around) (sts : List Stmt) (xs : List S) (sc : Scope) (Γ : List Str) (env : Env) : Prop :=
  ∀ (m : Loc) (φ : List Addr) (H : Hp) (s : Shared) (Q : PF) (QQ : Flow → Shared → Prop) (E : Value → Shared → Prop), Rel base φ H s.heap → EnvR base φ sc env Γ m s.heap → wpSs C xs m H Q → ContF base sc Γ env φ s Q QQ → wpAny (model prog w) A (execs sts env) QQ E s

theorem up (own' : List Addr) {φ φ' : List Addr} {s s' : Shared} (st : Step [] φ φ' s s') : Step own' φ φ' s s' := st.weaken fun _ h => nomatch h

theorem sss_nil : SSs prog w base C A [] [] sc Γ env := fun m φ H s Q QQ E R W hw K => by
  simp only [wss_nil, wss_cons] at hw
  exact wpAny_execs_nil (K .next .next m φ H s hw (Step.refl _ _ _) R W rfl)
theorem sss_cons {st : Stmt} {r : List Stmt} {x : S} {xs : List S} (h1 : SS prog w base C A st x sc Γ env) (h2 : SSs prog w base C A r xs sc Γ env) : SSs prog w base C A (st :: r) (x :: xs) sc Γ env := fun m φ H s Q QQ E R W hw K => by
  simp only [wss_nil, wss_cons] at hw
  refine wpAny_execs_cons (h1 m φ H s _ _ E R W hw fun fl f m' φ' H' s' hq st' R' W' hf => ?_)
  cases fl with
  | next =>
    rw [show f = .next from hf]
    exact h2 m' φ' H' s' Q QQ E R' W' hq (K.after st')
  | ret v =>
    obtain ⟨x, rfl, r⟩ := hf
    exact K (.ret v) (.ret x) m' φ' H' s' hq st' R' W' ⟨x, rfl, r⟩

/-- a name is stored -/
theorem bind_name {x : Str} {i : Nat} {p : Pos} {v : V} {y : Value} {m : Loc} {φ : List Addr} {H : Hp} {s : Shared} {Q : Unit → Shared → Prop} {E : Value → Shared → Prop} (hx : isOwn sc x = true) (hi : slot Γ x = some i) (R : Rel base φ H s.heap) (W : EnvR base φ sc env Γ m s.heap)
    (r : Rep base φ s.heap v y) (K : ∀ s', Step (own env) φ φ s s' → Rel base φ H s'.heap → EnvR base φ sc env Γ (m.set i (some v)) s'.heap → (∀ u z, Rep base φ s.heap u z → Rep base φ s'.heap u z) → Q () s') : wpAny (model prog w) A (assign (.Name x p) env y) Q E s :=
  wpAny_assign_Name (W.store R hx hi r fun s' a ha st kp R' W' => K s' (st.weaken fun b hb => by simp only [List.mem_singleton] at hb; subst hb; exact own_of ha) R' W' fun u z ru => ru.but kp fun o e => by
    rcases ha with rfl | ⟨_, h2⟩
    · obtain ⟨mm, hn, _⟩ := W.ns; exact ns_not_tup hn o e
    · obtain ⟨_, v', hv'⟩ := W.cellat _ (mem_of_lookup h2); exact cell_not_tup hv' o e)

theorem tgts_two {tg : Expr} {x y : Str} (h : tgts tg = some [x, y]) : ∃ p q k p', tg = .Tuple [.Name x p, .Name y q] k p' ∧ x ≠ y := by
  unfold tgts at h
  cases hn : nameOf tg with
  | some y => rw [hn] at h; cases h
  | none =>
    rw [hn] at h
    obtain ⟨⟨x', y'⟩, hp, h⟩ := Option.bind_eq_some_iff.mp h
    split at h
    · cases h
    · rename_i hne
      cases h
      obtain ⟨p, q, k, p', e⟩ := pairOf_eq hp
      exact ⟨p, q, k, p', e, by simpa using hne⟩

theorem slots_cons {x : Str} {r : List Str} {is : List Nat} (h : slots Γ (x :: r) = some is) : ∃ i is', is = i :: is' ∧ slot Γ x = some i ∧ slots Γ r = some is' := by
  rw [slots] at h
  split at h
  · rename_i i is' h1 h2; cases h; exact ⟨i, is', rfl, h1, h2⟩
  · cases h
theorem slots_nil {xs : List Str} (h : slots Γ xs = some []) : xs = [] := by
  cases xs with
  | nil => rfl
  | cons x r => obtain ⟨i, is', e, _⟩ := slots_cons h; cases e
theorem slots_one {xs : List Str} {i : Nat} (h : slots Γ xs = some [i]) : ∃ x, xs = [x] ∧ slot Γ x = some i := by
  cases xs with
  | nil => simp [slots] at h
  | cons x r =>
    obtain ⟨i', is', e, h1, h2⟩ := slots_cons h
    cases e
    exact ⟨x, by rw [slots_nil h2], h1⟩
theorem slots_two {xs : List Str} {i j : Nat} (h : slots Γ xs = some [i, j]) : ∃ x y, xs = [x, y] ∧ slot Γ x = some i ∧ slot Γ y = some j := by
  cases xs with
  | nil => simp [slots] at h
  | cons x r =>
    obtain ⟨i', is', e, h1, h2⟩ := slots_cons h
    cases e
    obtain ⟨y, rfl, h3⟩ := slots_one h2
    exact ⟨x, y, rfl, h1, h3⟩

/-- a target is told -/
theorem put_sound (hh : A.handled = none) {tg : Expr} {xs : List Str} {is : List Nat} {v : V} {y : Value} {m m₁ : Loc} {φ : List Addr} {H : Hp} {s : Shared} {Q : Unit → Shared → Prop} {E : Value → Shared → Prop} (ht : tgts tg = some xs) (hs : slots Γ xs = some is) (hown : ∀ x ∈ xs, isOwn sc x = true)
    (hp : put is v m = some m₁) (R : Rel base φ H s.heap) (W : EnvR base φ sc env Γ m s.heap) (r : Rep base φ s.heap v y)
    (K : ∀ s', Step (own env) φ φ s s' → Rel base φ H s'.heap → EnvR base φ sc env Γ m₁ s'.heap → Q () s') : wpAny (model prog w) A (assign tg env y) Q E s := by
  unfold put at hp
  split at hp
  · -- one name
    cases hp
    obtain ⟨x, rfl, hi⟩ := slots_one hs
    obtain ⟨p, rfl⟩ := tgts_one ht
    exact bind_name (hown x (by simp)) hi R W r fun s' st R' W' _ => K s' st R' W'
  · -- two names
    cases hp
    obtain ⟨x, z, rfl, hi, hj⟩ := slots_two hs
    obtain ⟨p, q, k, p', rfl, hxz⟩ := tgts_two ht
    obtain ⟨a, us, rfl, htu, hr, hz⟩ := r
    obtain ⟨y1, r1, rfl, h1, y2, r2, rfl, h2, h3⟩ := hr
    rw [show r2 = [] from h3] at htu
    refine wpAny_assign_Tuple hh htu rfl rfl fun h' hb => ?_
    have kp : ∀ b o, s.heap.get? b = some o → h'.get? b = some o := fun b o e => hb b o (Nat.ne_of_lt (Heap.lt_size e)) e
    have st₁ : Step [] φ φ s { s with heap := h' } := Step.grow (tk := s.toks) kp
    show wpAny (model prog w) A (holding [y2] (assign (.Name x p) env y1) >>= fun _ => holding [] (assign (.Name z q) env y2) >>= fun _ => pure ()) Q E { s with heap := h' }
    have R₁ := R.grow kp
    have W₁ := W.step R st₁
    refine wpAny_bind (wpAny_holding (bind_name (s := { s with heap := h' }) (hown x (by simp)) hi R₁ W₁ (R.mono st₁ h1) fun s₂ st₂ R₂ W₂ carry => ?_))
    refine wpAny_bind (wpAny_holding (bind_name (hown z (by simp)) hj R₂ W₂ (carry _ _ (R.mono st₁ h2)) fun s₃ st₃ R₃ W₃ _ => ?_))
    exact wpAny_pure (K s₃ ((up _ st₁).trans (st₂.trans st₃)) R₃ W₃)
  · cases hp

theorem ss_assign {x : Str} {i : Nat} {v : Expr} {e : X} {p pos : Pos} (hx : isOwn sc x = true) (hi : slot Γ x = some i) (hv : SE prog w base C A v e sc Γ env) (hsw : swapsWith v (some (.Name x p)) pos.line env = pure false) :
    SS prog w base C A (.Assign [.Name x p] v pos) (.assign i e) sc Γ env := fun m φ H s Q QQ E R W hw K => by
  simp only [ws_assign, ws_unpack, ws_setItem, ws_append, ws_expr, ws_ite, ws_loop, ws_each, ws_ret, ws_raise] at hw
  refine wpAny_Assign_Name (hv m φ H s _ _ E R W hw fun u y φ' H' s' hp st R' r => ?_) hsw
  refine (W.step R st).store R' hx hi r fun s'' a ha st' kp R'' W'' => ?_
  exact K .next .next _ _ _ _ hp ((up _ st).trans (st'.weaken fun b hb => by simp only [List.mem_singleton] at hb; subst hb; exact own_of ha)) R'' W'' rfl

/-- a comprehension that is stored as it ends -/
theorem comp_some {x : Str} {i : Nat} {p : Pos} {m : Loc} {φ : List Addr} {H : Hp} {s : Shared} {P : PV} {QQ : Flow → Shared → Prop} {E : Value → Shared → Prop} (hx : isOwn sc x = true) (hi : slot Γ x = some i) (R : Rel base φ H s.heap) (W : EnvR base φ sc env Γ m s.heap)
    (K : ∀ v φ' H' s', P v H' → Step (own env) φ φ' s s' → Rel base φ' H' s'.heap → EnvR base φ' sc env Γ (m.set i (some v)) s'.heap → QQ .next s')
    (d c : Addr) (φ' : List Addr) (H' : Hp) (s' : Shared) (acc : List V) (hp : P (.ref H'.length) (H' ++ [acc])) (st : Step [] φ (φ' ++ [d]) s s') (R' : Rel base (φ' ++ [d]) (H' ++ [acc]) s'.heap) (r : Rep base (φ' ++ [d]) s'.heap (.ref H'.length) (.ref d))
    (hn : ∃ mm, s'.heap.Ns c mm) (hc : s.heap.get? c = none) (hb : base.get? c = none) (hcn : c ∉ φ' ++ [d]) :
    compPost (model prog w) A E (some (assign (.Name x p) env)) (fun _ s'' => QQ .next s'') (.ref d) c (.ok .next) s' := by
  obtain ⟨mm, hn⟩ := hn
  have W' := W.step R st
  have hcL : c ≠ env.locals := fun q => by
    obtain ⟨mm', ⟨o, es, ep, ho, _⟩, _⟩ := W.ns
    rw [← q, hc] at ho; cases ho
  have hcc : ∀ z ∈ env.cells, c ≠ z.2 := fun z hz q => by
    obtain ⟨_, v', o, ho, _⟩ := W.cellat z hz
    rw [← q, hc] at ho; cases ho
  refine wpAny_assign_Name (W'.store R' hx hi r fun s'' a ha st' kp R'' W'' => ?_)
  have hca : c ≠ a := by
    rcases ha with rfl | ⟨_, h2⟩
    · exact hcL
    · exact hcc (x, a) (mem_of_lookup h2)
  have hn'' : s''.heap.Ns c mm := by
    obtain ⟨o, es, ep, ho, rr⟩ := hn
    exact ⟨o, es, ep, kp c o hca ho, rr⟩
  refine ⟨mm, hn'', fun h' hs => ?_⟩
  have nt := ns_not_tup hn''
  have R₃ := R''.but hcn hb hs.extBut nt
  have W₃ : EnvR base (φ' ++ [d]) sc env Γ (m.set i (some (.ref H'.length))) h' := by
    obtain ⟨mm₂, hn₂, hm₂⟩ := W''.ns
    have cell : ∀ {z : Str × Addr} {v : Option Value}, z ∈ env.cells → s''.heap.IsCell z.2 v → h'.IsCell z.2 v := fun {z v} hz ⟨o, ho, hd⟩ => ⟨o, hs.extBut _ _ (Ne.symm (hcc z hz)) ho, hd⟩
    refine ⟨W''.kind, W''.glob, W''.blt, W''.len, W''.kinds, W''.fresh, ⟨mm₂, hn₂.sameBut hs (Ne.symm hcL), fun y j u h1 h2 h3 => ?_⟩, fun z hz => ?_, fun y j u h1 h2 h3 => ?_, W''.inj, W''.has⟩
    · obtain ⟨w', e, rr⟩ := hm₂ y j u h1 h2 h3
      exact ⟨w', e, rr.but hs.extBut nt⟩
    · obtain ⟨h1, v, hv⟩ := W''.cellat z hz
      exact ⟨h1, v, cell hz hv⟩
    · obtain ⟨c', w', e, hc', rr⟩ := W''.cellv y j u h1 h2 h3
      exact ⟨c', w', e, cell (mem_of_lookup e) hc', rr.but hs.extBut nt⟩
  refine K _ _ _ _ hp ?_ R₃ W₃
  have st3 : Step (own env) φ (φ' ++ [d]) s s'' := (up _ st).trans (st'.weaken fun b hb => by simp only [List.mem_singleton] at hb; subst hb; exact own_of ha)
  exact st3.skip (wr := [c]) (by simpa using hc) (fun b o hb' e => hs.extBut b o (by simpa using hb') e) ⟨h', s''.toks, rfl⟩

theorem ss_setItem {o i v : Expr} {a j e : X} {p pos : Pos} (hv : SE prog w base C A v e sc Γ env) (ho : SE prog w base C A o a sc Γ env) (hi : SE prog w base C A i j sc Γ env) (hsw : swapsWith v (some (.Subscript o i p)) pos.line env = pure false) :
    SS prog w base C A (.Assign [.Subscript o i p] v pos) (.setItem a j e) sc Γ env := fun m φ H s Q QQ E R W hw K => by
  simp only [ws_assign, ws_unpack, ws_setItem, ws_append, ws_expr, ws_ite, ws_loop, ws_each, ws_ret, ws_raise] at hw
  refine wpAny_Assign_Subscript (hv m φ H s _ _ E R W hw fun u y φ₁ H₁ s₁ hp₁ st₁ R₁ r₁ => ?_) hsw
  have W₁ := W.step R st₁
  refine ho m φ₁ H₁ s₁ _ _ E R₁ W₁ hp₁ fun l z φ₂ H₂ s₂ hp₂ st₂ R₂ r₂ => ?_
  have W₂ := W₁.step R₁ st₂
  refine hi m φ₂ H₂ s₂ _ _ E R₂ W₂ hp₂ fun n q φ₃ H₃ s₃ hp₃ st₃ R₃ r₃ => ?_
  have W₃ := W₂.step R₂ st₃
  split at hp₃
  · rename_i k jj
    split at hp₃
    · rename_i vs hk
      obtain ⟨h0, h1, hq⟩ := hp₃
      obtain ⟨d, us, n', rfl, hd, hobj, hr⟩ := rep_ref R₃ (R₂.mono st₃ r₂) hk
      obtain ⟨t, rfl⟩ := r₃
      have hz := R₃.short hk
      have hl := hr.length
      have hT : s₃.TypeIs (.ref d) "list" := ⟨_, hobj, rfl⟩
      have ru := R₂.mono st₃ (R₁.mono st₂ r₁)
      unfold setItem
      try with_reducible refine wpAny_holding ?_
      first | refine wpAny_bind (wpAny_pure ?_) | skip
      refine wpAny_bind (wpAny_sequenceKey hT (by decide) ?_)
      refine wpAny_bind (wpAny_callSpecial?_slot (name := Str.ofString "__setitem__") hT slot_list_setitem
        (wpAny_call_entry slot_list_setitem hT entry_list_setitem ?_ (args_list_setitem _ _ _)))
      show wpAny _ _ (Builtin.List.listSubscript? (.int jj t) >>= _) _ _ s₃
      refine wpAny_bind (wpAny_listSubscript_int (fitsIndex_of h0 (by unfold room at hz; lia)) ?_)
      obtain ⟨jn, rfl⟩ := Int.eq_ofNat_of_zero_le h0
      have hj : jn < us.toArray.size := by simp only [List.size_toArray]; lia
      have hx' : us.toArray[jn]? = some us.toArray[jn] := Array.getElem?_eq_getElem hj
      show wpAny _ _ ((seqItemAt d jn >>= fun r => pure (r.map (jn, ·))) >>= _) _ _ s₃
      refine wpAny_bind (wpAny_bind (wpAny_seqItemAt hobj rfl (wpAny_pure ?_)))
      rw [hx']
      show wpAny _ _ (setSeqItemAt d jn y >>= _) _ _ s₃
      have hfin : (s₃.heap.update d (Obj.mapSeq (·.setIfInBounds jn y))).get? d = some ⟨.type "list", none, .seq (us.set jn y).toArray n', #[]⟩ := by
        rw [Heap.get?_update_self _ hobj (by rfl)]
        simp [Obj.mapSeq]
      have hb : ∀ b o, b ≠ d → s₃.heap.get? b = some o → (s₃.heap.update d (Obj.mapSeq (·.setIfInBounds jn y))).get? b = some o := (Heap.SameBut.update ..).extBut
      have R₄ := R₃.turn hd hfin hb (hr.set (i := jn) ru) (by simp; exact hz)
      have W₄ := W₃.butD hobj hb
      have st₄ : Step [] φ₃ φ₃ s₃ { s₃ with heap := s₃.heap.update d (Obj.mapSeq (·.setIfInBounds jn y)) } := Step.turn (tk := s₃.toks) (List.mem_of_getElem? hd) (by rw [hfin]; rfl) hb
      have fin : QQ .next { s₃ with heap := s₃.heap.update d (Obj.mapSeq (·.setIfInBounds jn y)) } :=
        K .next .next m φ₃ _ _ (by simpa using hq) (up _ (((st₁.trans st₂).trans st₃).trans st₄)) R₄ W₄ rfl
      refine wpAny_bind (wpAny_setSeqItemAt hobj rfl ?_)
      first
        | exact wpAny_bind (wpAny_pure (wpAny_pure ⟨.none, rfl, wpAny_pure fin⟩))
        | exact wpAny_pure ⟨.none, rfl, wpAny_pure fin⟩
    · exact hp₃.elim
  · exact hp₃.elim

theorem ss_append {o g : Expr} {a e : X} {ap cp pos : Pos} (hline : (ap.endLine == cp.line) = true) (hpl : plainBase o = true) (hcg : cE D sc Γ g = some e) (ho : SE prog w base C A o a sc Γ env) (hg : SE prog w base C A g e sc Γ env) :
    SS prog w base C A (.Expr (.Call (.Attribute o "append" ap) [g] [] cp) pos) (.append a e) sc Γ env := fun m φ H s Q QQ E R W hw K => by
  simp only [ws_assign, ws_unpack, ws_setItem, ws_append, ws_expr, ws_ite, ws_loop, ws_each, ws_ret, ws_raise] at hw
  refine wpAny_Expr ?_ (by unfold interactive; rw [W.kind]; rfl) rfl
  have hbase : attributeBase o "append" env (eval o env) = eval o env := by
    unfold plainBase at hpl
    simp only [Bool.or_eq_true, Option.isSome_iff_exists] at hpl
    rcases hpl with ⟨_, h⟩ | ⟨⟨_, _⟩, h⟩
    · obtain ⟨_, rfl⟩ := nameOf_eq h; rfl
    · obtain ⟨_, rfl⟩ := subOf_eq h; rfl
  refine wpAny_Call_append hbase (by rw [not_star hcg]; rfl) hline (by rw [not_star hcg]; rfl) ?_
  refine ho m φ H s _ _ E R W hw fun l z φ₁ H₁ s₁ hp₁ st₁ R₁ r₁ => ?_
  have W₁ := W.step R st₁
  split at hp₁
  · rename_i k
    obtain ⟨d, rfl, hd⟩ := r₁
    obtain ⟨us, n, _, hobj, _, _⟩ := R₁.lists k d hd
    refine ⟨d, us.toArray, rfl, ⟨_, n, hobj, rfl, rfl, rfl⟩, ?_⟩
    refine hg m φ₁ H₁ s₁ _ _ E R₁ W₁ hp₁ fun u y φ₂ H₂ s₂ hp₂ st₂ R₂ r₂ => ?_
    have W₂ := W₁.step R₁ st₂
    split at hp₂
    · rename_i vs hk
      have hd₂ := Vz st₂.pre hd
      obtain ⟨us₂, n₂, xs₂, hobj₂, hk₂, hr₂⟩ := R₂.lists k d hd₂
      rw [hk] at hk₂; cases hk₂
      refine append_d hobj₂ (fun h' k' hfin hb => ?_) (by have := hr₂.length; simp only [List.size_toArray, sizeLine]; have := hp₂.1; unfold room at this; lia)
      have hrr : RepL base φ₂ s₂.heap (vs ++ [u]) (us₂ ++ [y]) := hr₂.append ⟨y, [], rfl, r₂, rfl⟩
      have R₃ := R₂.turn hd₂ hfin hb.extBut hrr (by simp; have := hp₂.1; lia)
      have W₃ := W₂.butD hobj₂ hb.extBut
      exact K .next .next m φ₂ _ _ hp₂.2 (up _ ((st₁.trans st₂).trans (Step.turn (tk := s₂.toks) (List.mem_of_getElem? hd₂) (by rw [hfin]; rfl) hb.extBut))) R₃ W₃ rfl
    · exact hp₂.elim
  · exact hp₁.elim
end
end Mine

open PySem
namespace Mine
set_option maxRecDepth 100000

section
variable {prog : Program} {w : World} {A : Around} {E : Value → Shared → Prop} {s : Shared}

/-- the next item of a tuple's iterator -/
theorem nextOf_tup_item {it t : Addr} {i : Nat} {items : Array Value} {x : Value} {Q : Value → Shared → Prop} (hit : s.heap.IsTupleIter it t i) (ht : s.heap.IsTuple t items) (hx : items[i]? = some x)
    (hQ : ∀ h', h'.IsTupleIter it t (i + 1) → Heap.SameBut it s.heap h' → Q x { s with heap := h' }) : wpAny (model prog w) A (Builtin.SmallTypes.nextOf (.ref it)) Q E s := by
  obtain ⟨o, ho, hc, hd⟩ := id hit
  obtain ⟨ol, hol, _, nl, hdl⟩ := ht
  unfold Builtin.SmallTypes.nextOf
  refine wpAny_bind (wpAny_callSpecial?_slot (name := Str.ofString "__next__") hit.typeIs F.slot_tuple_iterator_next
    (wpAny_call_entry F.slot_tuple_iterator_next hit.typeIs F.entry_tuple_iterator_next ?_ (F.args_tuple_iterator_next_1 _)))
  show wpAny _ _ (field (.ref it) 0 >>= _) _ _ s
  refine wpAny_bind (wpAny_field ho hd (x := .ref t) rfl ?_)
  show wpAny _ _ (if (Value.ref t == Value.none) = true then _ else _) _ _ s
  rw [if_neg (show ¬ ((Value.ref t == Value.none) = true) from Bool.false_ne_true)]
  show wpAny _ _ (field (.ref it) 1 >>= _) _ _ s
  refine wpAny_bind (wpAny_field ho hd (x := .int i 0) rfl ?_)
  show wpAny _ _ (seqItems? (.ref t) >>= _) _ _ s
  refine wpAny_bind (wpAny_seqItems hol hdl ?_)
  simp only [Int.toNat_natCast, hx]
  refine wpAny_bind (wpAny_setField ho hd (by simp) (wpAny_pure ⟨x, rfl, wpAny_pure (hQ _ ?_ (Heap.SameBut.update ..))⟩))
  exact ⟨_, Heap.get?_update_self _ ho (Obj.isFreed_of_fields (Obj.data_mapFields hd _)), (Obj.cls_mapFields ..).trans hc, by
    rw [Obj.data_mapFields hd]; simp [rawInt]⟩

theorem nextOf_tup_end {it t : Addr} {i : Nat} {items : Array Value} {Q : Value → Shared → Prop} (hh : A.handled = none) (hit : s.heap.IsTupleIter it t i) (ht : s.heap.IsTuple t items) (hx : items[i]? = none)
    (hE : ∀ h' e, Heap.ExtBut it s.heap h' → (∃ o, h'.get? e = some o ∧ o.cls = .type "StopIteration") → E (.ref e) { s with heap := h' }) : wpAny (model prog w) A (Builtin.SmallTypes.nextOf (.ref it)) Q E s := by
  obtain ⟨o, ho, hc, hd⟩ := id hit
  obtain ⟨ol, hol, _, nl, hdl⟩ := ht
  unfold Builtin.SmallTypes.nextOf
  refine wpAny_bind (wpAny_callSpecial?_slot (name := Str.ofString "__next__") hit.typeIs F.slot_tuple_iterator_next
    (wpAny_call_entry F.slot_tuple_iterator_next hit.typeIs F.entry_tuple_iterator_next ?_ (F.args_tuple_iterator_next_1 _)))
  show wpAny _ _ (field (.ref it) 0 >>= _) _ _ s
  refine wpAny_bind (wpAny_field ho hd (x := .ref t) rfl ?_)
  show wpAny _ _ (if (Value.ref t == Value.none) = true then _ else _) _ _ s
  rw [if_neg (show ¬ ((Value.ref t == Value.none) = true) from Bool.false_ne_true)]
  show wpAny _ _ (field (.ref it) 1 >>= _) _ _ s
  refine wpAny_bind (wpAny_field ho hd (x := .int i 0) rfl ?_)
  show wpAny _ _ (seqItems? (.ref t) >>= _) _ _ s
  refine wpAny_bind (wpAny_seqItems hol hdl ?_)
  simp only [Int.toNat_natCast, hx]
  refine wpAny_bind (wpAny_rule (wpAny_bind (wpAny_setField ho hd (by simp) ?_)))
  show wpAny _ _ (newExc (.type "StopIteration") [] >>= _) _ _ _
  refine wpAny_bind ?_
  simp only [newExc, newTuple]
  refine wpAny_bind (wpAny_newObj_type ?_ (by size_fits))
  refine wpAny_bind (m := firstArgMember _ _) (wpAny_of_eq (a := Value.none) (by first | rfl | (simp only [firstArgMember]; rfl)) ?_)
  refine wpAny_newObj_type ?_ (by size_fits)
  simp only [raiseNew]
  refine wpAny_bind (wpAny_handled ?_)
  first | rw [show A.in1.handled = none from hh] | rw [hh]
  refine wpAny_bind (wpAny_pure (wpAny_throw ?_))
  exact hE _ _ (((Heap.SameBut.update ..).extBut.push _).push _) ⟨_, Heap.get?_push_size _ rfl, rfl⟩

/-- zip, over a tuple and a list: an item -/
theorem zipT_item {z TI TO i1 i2 l1 l2 : Addr} {k1 k2 : Nat} {xs ys : Array Value} {x y a b : Value} {Q : Value → Shared → Prop} (D : ZipApart z TI TO i1 i2 l1 l2)
    (hz : IsZip s.heap z TI TO .none) (hTI : IsPair s.heap TI (.ref i1) (.ref i2)) (hTO : IsPair s.heap TO a b)
    (h1 : s.heap.IsTupleIter i1 l1 k1) (h2 : s.heap.IsListIter i2 l2 k2) (hl1 : s.heap.IsTuple l1 xs) (hl2 : s.heap.IsList l2 ys) (hx : xs[k1]? = some x) (hy : ys[k2]? = some y)
    (hQ : ∀ h', IsZip h' z TI TO (rawInt s.heap.objs.size) → IsPair h' TO x y → h'.IsTupleIter i1 l1 (k1 + 1) → h'.IsListIter i2 l2 (k2 + 1) → IsPair h' s.heap.objs.size x y → h'.objs.size = s.heap.objs.size + 1 →
      (∀ c o, c ≠ z → c ≠ TO → c ≠ i1 → c ≠ i2 → s.heap.get? c = some o → h'.get? c = some o) → Q (.ref s.heap.objs.size) { s with heap := h' }) :
    wpAny (model prog w) A (Builtin.«zip.__next__» ⟨[.ref z], []⟩) (fun fin s' => ∃ v, fin = .done (.ret v) ∧ Q v s') E s := by
  show wpAny _ _ (field (.ref z) 2 >>= _) _ _ _
  refine wpAny_bind (wpAny_field hz rfl (x := .bool false) rfl ?_)
  show wpAny _ _ (field (.ref z) 3 >>= _) _ _ _
  refine wpAny_bind (wpAny_field hz rfl (x := .ref TI) rfl ?_)
  refine wpAny_bind (wpAny_seqItems hTI rfl ?_)
  show wpAny _ _ (Builtin.SmallTypes.ownedTupleIsFree (.ref z) >>= _) _ _ _
  refine wpAny_bind ?_
  unfold Builtin.SmallTypes.ownedTupleIsFree
  refine wpAny_bind (wpAny_field hz rfl (x := .none) rfl (wpAny_pure ?_))
  simp only [if_true]
  refine wpAny_bind (wpAny_rule ?_)
  refine wpAny_bind (wpAny_field hz rfl (x := .ref TO) rfl ?_)
  refine wpAny_bind (wpAny_setField_rec hz (by simp) fun h₁ hz₁ hs₁ => ?_)
  replace hz₁ : IsZip h₁ z TI TO .ellipsis := hz₁
  refine wpAny_bind ?_
  simp only [List.zipIdx_cons, List.zipIdx_nil, List.forIn_cons, List.forIn_nil]
  -- the first
  refine wpAny_bind (wpAny_bind (wpAny_onRaise ?_))
  show wpAny _ _ (Builtin.SmallTypes.nextOf (.ref i1) >>= _) _ _ _
  refine wpAny_bind (nextOf_tup_item (h1.extBut hs₁.extBut D.i1z) (hl1.extBut hs₁.extBut D.l1z) hx fun h₂ h1₂ hs₂ => wpAny_pure ?_)
  have hTO₂ : IsPair h₂ TO a b := hs₂.extBut _ _ D.TOi1 (hs₁.extBut _ _ D.TOz hTO)
  refine wpAny_bind (wpAny_seqItems hTO₂ rfl ?_)
  refine wpAny_bind (wpAny_updateSeq_pair hTO₂ fun h₃ hTO₃ hs₃ => ?_)
  replace hTO₃ : IsPair h₃ TO x b := hTO₃
  refine wpAny_bind (wpAny_letGo (wpAny_pure ?_))
  -- the second
  refine wpAny_bind (wpAny_bind (wpAny_onRaise ?_))
  show wpAny _ _ (Builtin.SmallTypes.nextOf (.ref i2) >>= _) _ _ _
  refine wpAny_bind (wpAny_nextOf_list_item (((h2.extBut hs₁.extBut D.i2z).extBut hs₂.extBut D.i12.symm).extBut hs₃.extBut D.TOi2.symm)
    (((hl2.extBut hs₁.extBut D.l2z).extBut hs₂.extBut D.l2i1).extBut hs₃.extBut D.l2TO) hy fun h₄ h2₄ hs₄ => wpAny_pure ?_)
  have hTO₄ : IsPair h₄ TO x b := hs₄.extBut _ _ D.TOi2 hTO₃
  refine wpAny_bind (wpAny_seqItems hTO₄ rfl ?_)
  refine wpAny_bind (wpAny_updateSeq_pair hTO₄ fun h₅ hTO₅ hs₅ => ?_)
  replace hTO₅ : IsPair h₅ TO x y := hTO₅
  refine wpAny_bind (wpAny_letGo (wpAny_pure (wpAny_pure ?_)))
  -- the pair
  refine wpAny_bind (wpAny_seqItems hTO₅ rfl ?_)
  refine wpAny_bind (wpAny_newTuple ?_)
  have hsz : h₅.objs.size = s.heap.objs.size := by rw [hs₅.1, hs₄.1, hs₃.1, hs₂.1, hs₁.1]
  have hz₅ : IsZip h₅ z TI TO .ellipsis := hs₅.extBut _ _ D.TOz.symm (hs₄.extBut _ _ D.i2z.symm (hs₃.extBut _ _ D.TOz.symm (hs₂.extBut _ _ D.i1z.symm hz₁)))
  have hk₅ : ∀ c o, c ≠ z → c ≠ TO → c ≠ i1 → c ≠ i2 → s.heap.get? c = some o → h₅.get? c = some o := fun c o c1 c2 c3 c4 e =>
    hs₅.extBut _ _ c2 (hs₄.extBut _ _ c4 (hs₃.extBut _ _ c2 (hs₂.extBut _ _ c3 (hs₁.extBut _ _ c1 e))))
  have h1₅ : h₅.IsTupleIter i1 l1 (k1 + 1) := ((h1₂.extBut hs₃.extBut D.TOi1.symm).extBut hs₄.extBut D.i12).extBut hs₅.extBut D.TOi1.symm
  have h2₅ : h₅.IsListIter i2 l2 (k2 + 1) := h2₄.extBut hs₅.extBut D.TOi2.symm
  have hzlt : z < h₅.objs.size := Heap.lt_size hz₅
  show wpAny _ _ (Builtin.SmallTypes.ownedTupleHandOut (.ref z) (.ref h₅.objs.size) >>= _) _ _ _
  refine wpAny_bind ?_
  unfold Builtin.SmallTypes.ownedTupleHandOut
  have hz₆ : IsZip (h₅.push { cls := .type "tuple", data := .seq #[x, y] }) z TI TO .ellipsis := Heap.get?_push_of_some _ hz₅
  refine wpAny_bind (wpAny_setField_rec hz₆ (by simp) fun h₇ hz₇ hs₇ => ?_)
  replace hz₇ : IsZip h₇ z TI TO (rawInt h₅.objs.size) := hz₇
  refine wpAny_setField_rec hz₇ (by simp) fun h₈ hz₈ hs₈ => ?_
  replace hz₈ : IsZip h₈ z TI TO (rawInt h₅.objs.size) := hz₈
  have up : ∀ c o, c ≠ z → h₅.get? c = some o → h₈.get? c = some o := fun c o c1 e => hs₈.extBut _ _ c1 (hs₇.extBut _ _ c1 (Heap.get?_push_of_some _ e))
  have hT₈ : IsPair h₈ h₅.objs.size x y := hs₈.extBut _ _ (Nat.ne_of_gt hzlt) (hs₇.extBut _ _ (Nat.ne_of_gt hzlt) (Heap.get?_push_size _ rfl))
  have hz8 : h₈.objs.size = h₅.objs.size + 1 := by rw [hs₈.1, hs₇.1, Heap.size_push]
  rw [hsz] at hz₈ hT₈ hz8
  refine wpAny_pure ⟨_, rfl, ?_⟩
  show Q (.ref h₅.objs.size) _
  rw [hsz]
  obtain ⟨o1, e1, r1⟩ := h1₅
  exact hQ h₈ hz₈ (up _ _ D.TOz hTO₅) ⟨o1, up _ o1 D.i1z e1, r1⟩ (h2₅.at fun o e => up _ o D.i2z e) hT₈ hz8 fun c o c1 c2 c3 c4 e => up c o c1 (hk₅ c o c1 c2 c3 c4 e)

/-- the end, when the tuple is through -/
theorem zipT_end {z TI TO i1 i2 l1 l2 : Addr} {k1 : Nat} {xs : Array Value} {Q : Fin → Shared → Prop} (hh : A.handled = none) (D : ZipApart z TI TO i1 i2 l1 l2)
    (hz : IsZip s.heap z TI TO .none) (hTI : IsPair s.heap TI (.ref i1) (.ref i2)) (h1 : s.heap.IsTupleIter i1 l1 k1) (hl1 : s.heap.IsTuple l1 xs) (hx : xs[k1]? = none)
    (hE : ∀ h' e, (∀ c o, c ≠ z → c ≠ i1 → s.heap.get? c = some o → h'.get? c = some o) → (∃ o, h'.get? e = some o ∧ o.cls = .type "StopIteration") → E (.ref e) { s with heap := h' }) :
    wpAny (model prog w) A (Builtin.«zip.__next__» ⟨[.ref z], []⟩) Q E s := by
  show wpAny _ _ (field (.ref z) 2 >>= _) _ _ _
  refine wpAny_bind (wpAny_field hz rfl (x := .bool false) rfl ?_)
  show wpAny _ _ (field (.ref z) 3 >>= _) _ _ _
  refine wpAny_bind (wpAny_field hz rfl (x := .ref TI) rfl ?_)
  refine wpAny_bind (wpAny_seqItems hTI rfl ?_)
  show wpAny _ _ (Builtin.SmallTypes.ownedTupleIsFree (.ref z) >>= _) _ _ _
  refine wpAny_bind ?_
  unfold Builtin.SmallTypes.ownedTupleIsFree
  refine wpAny_bind (wpAny_field hz rfl (x := .none) rfl (wpAny_pure ?_))
  simp only [if_true]
  refine wpAny_bind (wpAny_rule ?_)
  refine wpAny_bind (wpAny_field hz rfl (x := .ref TO) rfl ?_)
  refine wpAny_bind (wpAny_setField_rec hz (by simp) fun h₁ hz₁ hs₁ => ?_)
  replace hz₁ : IsZip h₁ z TI TO .ellipsis := hz₁
  refine wpAny_bind ?_
  simp only [List.zipIdx_cons, List.zipIdx_nil, List.forIn_cons, List.forIn_nil]
  refine wpAny_bind (wpAny_bind (wpAny_onRaise ?_))
  show wpAny _ _ (Builtin.SmallTypes.nextOf (.ref i1) >>= _) _ _ _
  refine wpAny_bind (nextOf_tup_end hh (h1.extBut hs₁.extBut D.i1z) (hl1.extBut hs₁.extBut D.l1z) hx fun h₂ e hs₂ he => ?_)
  obtain ⟨oe, hoe, hce⟩ := he
  have hz₂ : IsZip h₂ z TI TO .ellipsis := hs₂ _ _ D.i1z.symm hz₁
  have hez : e ≠ z := fun x => by subst x; rw [hz₂] at hoe; cases hoe; simp at hce
  refine wpAny_setField_rec hz₂ (by simp) fun h₃ _ hs₃ => hE h₃ e (fun c o c1 c3 x => hs₃.extBut _ _ c1 (hs₂ _ _ c3 (hs₁.extBut _ _ c1 x))) ⟨oe, hs₃.extBut _ _ hez hoe, hce⟩

theorem next_zipT_item {z TI TO i1 i2 l1 l2 : Addr} {k1 k2 : Nat} {xs ys : Array Value} {x y a b : Value} {Q : Option Value → Shared → Prop} (D : ZipApart z TI TO i1 i2 l1 l2)
    (hz : IsZip s.heap z TI TO .none) (hTI : IsPair s.heap TI (.ref i1) (.ref i2)) (hTO : IsPair s.heap TO a b)
    (h1 : s.heap.IsTupleIter i1 l1 k1) (h2 : s.heap.IsListIter i2 l2 k2) (hl1 : s.heap.IsTuple l1 xs) (hl2 : s.heap.IsList l2 ys) (hx : xs[k1]? = some x) (hy : ys[k2]? = some y)
    (hQ : ∀ h', IsZip h' z TI TO (rawInt s.heap.objs.size) → IsPair h' TO x y → h'.IsTupleIter i1 l1 (k1 + 1) → h'.IsListIter i2 l2 (k2 + 1) → IsPair h' s.heap.objs.size x y → h'.objs.size = s.heap.objs.size + 1 →
      (∀ c o, c ≠ z → c ≠ TO → c ≠ i1 → c ≠ i2 → s.heap.get? c = some o → h'.get? c = some o) → Q (some (.ref s.heap.objs.size)) { s with heap := h' }) :
    wpAny (model prog w) A (pyNext (.ref z)) Q E s := by
  have hT : s.TypeIs (.ref z) "zip" := ⟨_, hz, rfl⟩
  unfold pyNext
  exact wpAny_bind (wpAny_attempt (wpAny_callSpecial?_slot (name := Str.ofString "__next__") hT F.slot_zip_next
    (wpAny_call_entry F.slot_zip_next hT F.entry_zip_next
      (zipT_item D hz hTI hTO h1 h2 hl1 hl2 hx hy fun h' a1 a2 a3 a4 a5 a6 a7 => wpAny_pure (hQ h' a1 a2 a3 a4 a5 a6 a7)) (F.args_zip_next_1 _))))

theorem next_zipT_end {z TI TO i1 i2 l1 l2 : Addr} {k1 : Nat} {xs : Array Value} {Q : Option Value → Shared → Prop} (hh : A.handled = none) (D : ZipApart z TI TO i1 i2 l1 l2)
    (hz : IsZip s.heap z TI TO .none) (hTI : IsPair s.heap TI (.ref i1) (.ref i2)) (h1 : s.heap.IsTupleIter i1 l1 k1) (hl1 : s.heap.IsTuple l1 xs) (hx : xs[k1]? = none)
    (hQ : ∀ h', (∀ c o, c ≠ z → c ≠ i1 → s.heap.get? c = some o → h'.get? c = some o) → Q none { s with heap := h' }) : wpAny (model prog w) A (pyNext (.ref z)) Q E s := by
  have hT : s.TypeIs (.ref z) "zip" := ⟨_, hz, rfl⟩
  unfold pyNext
  refine wpAny_bind (wpAny_attempt (wpAny_callSpecial?_slot (name := Str.ofString "__next__") hT F.slot_zip_next
    (wpAny_call_entry F.slot_zip_next hT F.entry_zip_next (zipT_end hh D hz hTI h1 hl1 hx fun h' e hk he => ?_) (F.args_zip_next_1 _))))
  obtain ⟨o, ho, hc⟩ := he
  refine wpAny_bind (wpAny_isInstance (T := "StopIteration") (b := true) ⟨o, ho, hc⟩ isSubtype_stop ?_)
  exact wpAny_pure (hQ _ hk)
end

/-- the heap behind zip(tuple, list) -/
noncomputable abbrev zh1 (h : Heap) (l1 : Addr) : Heap := h.push { cls := .type "tuple_iterator", data := .fields #[.ref l1, .int 0 0] }
noncomputable abbrev zh2 (h : Heap) (l1 l2 : Addr) : Heap := (zh1 h l1).push { cls := .type "list_iterator", data := .fields #[.ref l2, .int 0 0] }
noncomputable abbrev zh3 (h : Heap) (l1 l2 : Addr) : Heap := (zh2 h l1 l2).push { cls := .type "tuple", data := .seq #[.ref h.objs.size, .ref (zh1 h l1).objs.size] }
noncomputable abbrev zh4 (h : Heap) (l1 l2 : Addr) : Heap := (zh3 h l1 l2).push { cls := .type "tuple", data := .seq #[.none, .none] }
noncomputable abbrev zh5 (h : Heap) (l1 l2 : Addr) : Heap := (zh4 h l1 l2).push { cls := .type "zip", data := .fields #[.none, .bool false, .bool false, .ref (zh2 h l1 l2).objs.size, .ref (zh3 h l1 l2).objs.size] }

set_option maxHeartbeats 4000000 in
theorem meets_zipT (l1 l2 : Addr) (xs ys : Array Value) :
    Meets (Builtin.«zip.__new__» ⟨[.type "zip", .ref l1, .ref l2], []⟩) (fun _ R s => s.heap.IsTuple l1 xs ∧ s.heap.IsList l2 ys ∧ R (.ok (.ret (.ref (zh4 s.heap l1 l2).objs.size))) { s with heap := zh5 s.heap l1 l2 }) :=
  .of_wp fun prog w A R s h => by
    obtain ⟨hp, g, d, tk, os⟩ := s; obtain ⟨hl1, hl2, h⟩ := h
    have hsub := sub_zip
    have hL1 : Heap.IsTuple (Shared.heap ⟨hp, g, d, tk, os⟩) l1 xs := hl1
    have hL2 : Heap.IsList (Shared.heap ⟨hp.push { cls := .type "tuple_iterator", data := .fields #[.ref l1, .int 0 0] }, g, d, tk, os⟩) l2 ys := Heap.IsList.push hl2 _
    wp_walk using wpAny_pyIter_tuple hL1, wpAny_pyIter_list hL2
    exact ⟨_, rfl, h⟩

theorem call_zipT {prog : Program} {w : World} {A : Around} {E : Value → Shared → Prop} {s : Shared} {l1 l2 : Addr} {xs ys : Array Value} {Q : Value → Shared → Prop} (hl1 : s.heap.IsTuple l1 xs) (hl2 : s.heap.IsList l2 ys)
    (h : ∀ h', IsZip h' (s.heap.objs.size + 4) (s.heap.objs.size + 2) (s.heap.objs.size + 3) .none → IsPair h' (s.heap.objs.size + 2) (.ref s.heap.objs.size) (.ref (s.heap.objs.size + 1)) →
      IsPair h' (s.heap.objs.size + 3) .none .none → h'.IsTupleIter s.heap.objs.size l1 0 → h'.IsListIter (s.heap.objs.size + 1) l2 0 → h'.objs.size = s.heap.objs.size + 5 →
      (∀ c o, s.heap.get? c = some o → h'.get? c = some o) → Q (.ref (s.heap.objs.size + 4)) { s with heap := h' }) :
    wpAny (model prog w) A (call (.type "zip") [.ref l1, .ref l2]) Q E s := by
  refine callType_new F.called_zip (by decide) (F.typeCall_zip_2 _ _) (F.newCall_zip_2 _ _) (fun obj => F.args_object_init_3 obj _ _) F.entry_zip_new
    (meets_zipT l1 l2 xs ys) ⟨hl1, hl2, ?_⟩
  have z1 : (zh1 s.heap l1).objs.size = s.heap.objs.size + 1 := Heap.size_push ..
  have z2 : (zh2 s.heap l1 l2).objs.size = s.heap.objs.size + 2 := by rw [Heap.size_push, z1]
  have z3 : (zh3 s.heap l1 l2).objs.size = s.heap.objs.size + 3 := by rw [Heap.size_push, z2]
  have z4 : (zh4 s.heap l1 l2).objs.size = s.heap.objs.size + 4 := by rw [Heap.size_push, z3]
  have z5 : (zh5 s.heap l1 l2).objs.size = s.heap.objs.size + 5 := by rw [Heap.size_push, z4]
  have g5 : (zh5 s.heap l1 l2).get? (zh4 s.heap l1 l2).objs.size = some _ := Heap.get?_push_size _ rfl
  have g4 : (zh5 s.heap l1 l2).get? (zh3 s.heap l1 l2).objs.size = some _ := Heap.get?_push_of_some _ (Heap.get?_push_size _ rfl)
  have g3 : (zh5 s.heap l1 l2).get? (zh2 s.heap l1 l2).objs.size = some _ := Heap.get?_push_of_some _ (Heap.get?_push_of_some _ (Heap.get?_push_size _ rfl))
  have g2 : (zh5 s.heap l1 l2).get? (zh1 s.heap l1).objs.size = some _ := Heap.get?_push_of_some _ (Heap.get?_push_of_some _ (Heap.get?_push_of_some _ (Heap.get?_push_size _ rfl)))
  have g1 : (zh5 s.heap l1 l2).get? s.heap.objs.size = some _ := Heap.get?_push_of_some _ (Heap.get?_push_of_some _ (Heap.get?_push_of_some _ (Heap.get?_push_of_some _ (Heap.get?_push_size _ rfl))))
  show _ ∧ _
  rw [z2, z3, z4] at g5
  rw [z1, z2] at g3
  rw [z3] at g4
  rw [z1] at g2
  rw [z4]
  exact ⟨⟨_, g5, rfl⟩, h _ g5 g3 g4 ⟨_, g1, rfl, rfl⟩ ⟨_, g2, rfl, rfl⟩ z5 fun c o x =>
    Heap.get?_push_of_some _ (Heap.get?_push_of_some _ (Heap.get?_push_of_some _ (Heap.get?_push_of_some _ (Heap.get?_push_of_some _ x))))⟩
end Mine

open PySem
namespace Mine
set_option maxRecDepth 100000

section
variable {base : Heap} {h h' : Heap}

/-- where zip stands -/
noncomputable def ZSt (z TI TO i1 i2 tA lA : Addr) (f : Value) (i : Nat) (h : Heap) : Prop :=
  IsZip h z TI TO f ∧ IsPair h TI (.ref i1) (.ref i2) ∧ (∃ p q, IsPair h TO p q) ∧ h.IsTupleIter i1 tA i ∧ h.IsListIter i2 lA i

theorem ZSt.keep {z TI TO i1 i2 tA lA a : Addr} {f : Value} {i : Nat} (x : ZSt z TI TO i1 i2 tA lA f i h) (hk : ∀ b o, b ≠ a → h.get? b = some o → h'.get? b = some o)
    (ha : ∀ o, h.get? a = some o → (∀ fs, o.data ≠ .fields fs) ∧ (o.cls = .type "tuple" → ∀ vs n, o.data ≠ .seq vs n)) : ZSt z TI TO i1 i2 tA lA f i h' := by
  obtain ⟨h1, h2, ⟨p, q, h3⟩, ⟨o4, h4, c4, d4⟩, ⟨o5, h5, c5, d5⟩⟩ := x
  have nf : ∀ {b o fs}, h.get? b = some o → o.data = .fields fs → b ≠ a := fun {b o fs} e d q => (ha o (q ▸ e)).1 fs d
  have nt : ∀ {b o vs n}, h.get? b = some o → o.cls = .type "tuple" → o.data = .seq vs n → b ≠ a := fun {b o vs n} e c d q => (ha o (q ▸ e)).2 c vs n d
  exact ⟨hk _ _ (nf h1 rfl) h1, hk _ _ (nt h2 rfl rfl) h2, ⟨p, q, hk _ _ (nt h3 rfl rfl) h3⟩, ⟨o4, hk _ _ (nf h4 d4) h4, c4, d4⟩, ⟨o5, hk _ _ (nf h5 d5) h5, c5, d5⟩⟩

/-- an env whose names hold ints stays -/
theorem env_keep {csc : Scope} {ce : Env} {Γ : List Str} {m : Loc} (W : EnvR base [] csc ce Γ m h) (hi : ∀ v, some v ∈ m → ∃ i, v = .int i)
    (hk : ∀ b o, ((∃ es ep, o.data = .dict es ep) ∨ ∃ v, o.data = .cell v) → h.get? b = some o → h'.get? b = some o) : EnvR base [] csc ce Γ m h' := by
  have ri : ∀ {v w}, some v ∈ m → Rep base [] h v w → Rep base [] h' v w := fun {v w} hv r => by
    obtain ⟨i, rfl⟩ := hi v hv; exact r
  refine ⟨W.kind, W.glob, W.blt, W.len, W.kinds, W.fresh, ?_, fun p hp => ?_, fun x i v hs hm hkd => ?_, W.inj, W.has⟩
  · obtain ⟨mm, ⟨o, es, ep, ho, hd, rest⟩, hv⟩ := W.ns
    refine ⟨mm, ⟨o, es, ep, hk _ _ (.inl ⟨es, ep, hd⟩) ho, hd, rest⟩, fun x i v hs hm hl => ?_⟩
    obtain ⟨w, hw, r⟩ := hv x i v hs hm hl
    exact ⟨w, hw, ri (List.mem_of_getElem? hm) r⟩
  · obtain ⟨hb, v, o, ho, hd⟩ := W.cellat p hp
    exact ⟨hb, v, o, hk _ _ (.inr ⟨_, hd⟩) ho, hd⟩
  · obtain ⟨c, w, hc, ⟨o, ho, hd⟩, r⟩ := W.cellv x i v hs hm hkd
    exact ⟨c, w, hc, ⟨o, hk _ _ (.inr ⟨_, hd⟩) ho, hd⟩, ri (List.mem_of_getElem? hm) r⟩

theorem rel_nil (R : ∀ a o, base.get? a = some o → h.get? a = some o) : Rel base [] [] h :=
  ⟨R, rfl, List.nodup_nil, fun a ha => (nomatch ha), fun xs hx => (nomatch hx), fun k a e => by simp at e⟩
theorem repL_ints {φ φ' : List Addr} : ∀ {acc : List V} {ys : List Value}, (∀ v ∈ acc, ∃ i, v = .int i) → RepL base φ h acc ys → RepL base φ' h' acc ys
  | [], _, _, r => r
  | v :: r, _, hi, ⟨u, us, e, hv, hr⟩ => ⟨u, us, e, by obtain ⟨i, rfl⟩ := hi v (.head _); exact hv, repL_ints (fun v hv => hi v (.tail _ hv)) hr⟩
end

section
variable {prog : Program} {w : World} {base : Heap} {A : Around} {csc : Scope} {ce : Env} {Γ : List Str} {z TI TO i1 i2 tA lA d : Addr} {s₁ : Shared} {i : Nat} {ys : List Value} {k : Nat} {m2 : Loc} {t : Shared}

/-- where the comprehension stands -/
noncomputable def ZK (base : Heap) (csc : Scope) (ce : Env) (Γ : List Str) (z TI TO i1 i2 tA lA d : Addr) (s₁ : Shared) (i : Nat) (ys : List Value) (k : Nat) (m2 : Loc) (t : Shared) : Prop :=
  ZSt z TI TO i1 i2 tA lA .none i t.heap ∧ (∀ a o, s₁.heap.get? a = some o → t.heap.get? a = some o) ∧ EnvR base [] csc ce Γ m2 t.heap ∧
  t.heap.get? d = some ⟨.type "list", none, .seq ys.toArray k, #[]⟩ ∧ ∃ hh tk, t = { s₁ with heap := hh, toks := tk }

noncomputable def IsBox (o : Obj) : Prop := (∃ es ep, o.data = .dict es ep) ∨ ∃ v, o.data = .cell v
theorem IsBox.nf {o : Obj} (b : IsBox o) (fs : Array Value) : o.data ≠ .fields fs := fun q => by
  rcases b with ⟨_, _, z⟩ | ⟨_, z⟩ <;> (rw [q] at z; cases z)
theorem IsBox.ns {o : Obj} (b : IsBox o) (vs : Array Value) (n : Nat) : o.data ≠ .seq vs n := fun q => by
  rcases b with ⟨_, _, z⟩ | ⟨_, z⟩ <;> (rw [q] at z; cases z)
/-- where a name is kept -/
noncomputable def At (ce : Env) (n : Str) (a : Addr) : Prop := a = ce.locals ∨ (ce.kindOf n = some .cell ∧ ce.cells.lookup n = some a)
theorem at_box {h : Heap} {n : Str} {a : Addr} {o : Obj} (W : EnvR base [] csc ce Γ m2 h) (ha : At ce n a) (e : h.get? a = some o) : IsBox o := by
  rcases ha with rfl | ⟨_, h2⟩
  · obtain ⟨mm, ⟨o', es, ep, ho, hd', _⟩, _⟩ := W.ns
    rw [e] at ho; cases ho; exact .inl ⟨es, ep, hd'⟩
  · obtain ⟨_, v, o', ho, hd'⟩ := W.cellat (n, a) (mem_of_lookup h2)
    rw [e] at ho; cases ho; exact .inr ⟨v, hd'⟩
theorem ne_of {h : Heap} {a b : Addr} {o : Obj} (hn : h.get? a = none) (e : h.get? b = some o) : b ≠ a := fun q => by
  rw [q, hn] at e; cases e
theorem ne_of2 {h : Heap} {a b : Addr} {o o' : Obj} (hn : h.get? a = some o') (e : h.get? b = some o) (n : o ≠ o') : b ≠ a := fun q => by
  rw [q, hn] at e; cases e; exact n rfl

theorem z_store {n : Str} {p : Pos} {j : Nat} {u : Int} {tu : Tok} {QQ : Unit → Shared → Prop} {EE : Value → Shared → Prop} (B : ∀ a o, base.get? a = some o → s₁.heap.get? a = some o)
    (hown : isOwn csc n = true) (hs : slot Γ n = some j) (F : ∀ a, At ce n a → s₁.heap.get? a = none)
    (Z : ZK base csc ce Γ z TI TO i1 i2 tA lA d s₁ i ys k m2 t) (K : ∀ t', ZK base csc ce Γ z TI TO i1 i2 tA lA d s₁ i ys k (m2.set j (some (.int u))) t' → QQ () t') :
    wpAny (model prog w) A (assign (.Name n p) ce (.int u tu)) QQ EE t := by
  obtain ⟨zs, ol, W, hd, h0, tk0, e0⟩ := Z
  refine wpAny_assign_Name (EnvR.store W (rel_nil fun a o e => ol a o (B a o e)) hown hs (v := .int u) ⟨tu, rfl⟩ fun s8 a8 ha8 st8 kp8 R8 W8 => ?_)
  obtain ⟨h8, tk8, e8⟩ := st8.same
  exact K s8 ⟨zs.keep kp8 fun o e => ⟨(at_box W ha8 e).nf, fun _ => (at_box W ha8 e).ns⟩, fun a o e => kp8 a o (ne_of (F a8 ha8) e) (ol a o e), W8,
    kp8 _ _ (fun q => (at_box W ha8 (q ▸ hd)).ns _ _ rfl) hd, h8, tk8, by rw [e8, e0]⟩

theorem list_nf {vs : Array Value} {n : Nat} (fs : Array Value) : (⟨.type "list", none, .seq vs n, #[]⟩ : Obj).data ≠ .fields fs := by simp
theorem list_nt {vs : Array Value} {n : Nat} (q : (⟨.type "list", none, .seq vs n, #[]⟩ : Obj).cls = .type "tuple") (us : Array Value) (j : Nat) : (⟨.type "list", none, .seq vs n, #[]⟩ : Obj).data ≠ .seq us j := by simp at q

/-- what zip's own objects are not -/
theorem z_apart {h : Heap} {b : Addr} {o : Obj} (zs : ZSt z TI TO i1 i2 tA lA .none i h) (e : h.get? b = some o) (nf : ∀ fs, o.data ≠ .fields fs) (nt : o.cls = .type "tuple" → ∀ vs n, o.data ≠ .seq vs n) :
    b ≠ z ∧ b ≠ TO ∧ b ≠ i1 ∧ b ≠ i2 := by
  obtain ⟨hz, _, ⟨p, q, hTO⟩, ⟨o1, g1, _, d1⟩, ⟨o2, g2, _, d2⟩⟩ := zs
  exact ⟨ne_of2 hz e (fun q => nf _ (by rw [q])), ne_of2 hTO e (fun q => nt (by rw [q]) _ _ (by rw [q])), ne_of2 g1 e (fun q => nf _ (q ▸ d1)), ne_of2 g2 e (fun q => nf _ (q ▸ d2))⟩

theorem z_next {tk' : Nat} {tp : Pos} {QE : Shared → Prop} {QI : Shared → Prop} {EE : Value → Shared → Prop} {x y : Str} {px py : Pos} {vsA vsL : List Value} {a b : Int} {t1 t2 : Tok}
    (hh : A.handled = none) (B : ∀ a o, base.get? a = some o → s₁.heap.get? a = some o) (DA : ZipApart z TI TO i1 i2 tA lA) (hT : s₁.heap.IsTuple tA vsA.toArray) (hL : s₁.heap.IsList lA vsL.toArray)
    (fz : s₁.heap.get? z = none) (fTO : s₁.heap.get? TO = none) (fi1 : s₁.heap.get? i1 = none) (fi2 : s₁.heap.get? i2 = none)
    (hox : isOwn csc x = true) (hoy : isOwn csc y = true) (sl0 : slot Γ x = some 0) (sl1 : slot Γ y = some 1) (Fx : ∀ a, At ce x a → s₁.heap.get? a = none) (Fy : ∀ a, At ce y a → s₁.heap.get? a = none)
    (e1 : vsA[i]? = some (.int a t1)) (e2 : vsL[i]? = some (.int b t2)) (hint : ∀ v, some v ∈ m2 → ∃ i, v = .int i) (hm2 : m2.length = 2)
    (Z : ZK base csc ce Γ z TI TO i1 i2 tA lA d s₁ i ys k m2 t) (K : ∀ t', ZK base csc ce Γ z TI TO i1 i2 tA lA d s₁ (i + 1) ys k [some (.int a), some (.int b)] t' → QI t') :
    wpAny (model prog w) A (pyNext (.ref z)) (fun r s => match r with
      | none => QE s
      | some v => wpAny (model prog w) A (letOwnedTupleGo (.Tuple [.Name x px, .Name y py] tk' tp) (.ref z) v) (fun _ s' => wpAny (model prog w) A (assign (.Tuple [.Name x px, .Name y py] tk' tp) ce v) (fun _ s₂ => QI s₂) EE s') EE s) EE t := by
  obtain ⟨zs, old, W2, hdt, h0, tk0, rfl⟩ := Z
  have zap := fun {b o} => z_apart (b := b) (o := o) zs
  obtain ⟨hz', hTI', ⟨p, q, hTO'⟩, h1', h2'⟩ := zs
  have hT' : Heap.IsTuple h0 tA vsA.toArray := by obtain ⟨o, ho, r⟩ := hT; exact ⟨o, old _ _ ho, r⟩
  have hL' : Heap.IsList h0 lA vsL.toArray := by obtain ⟨o, ho, r⟩ := hL; exact ⟨o, old _ _ ho, r⟩
  refine next_zipT_item DA hz' hTI' hTO' h1' h2' hT' hL' (by rw [List.getElem?_toArray]; exact e1) (by rw [List.getElem?_toArray]; exact e2) fun h₅ a1 a2 a3 a4 a5 a6 hk₅ => ?_
  refine wpAny_letOwnedTupleGo_zip a1 fun h₆ hz₆ hs₆ => ?_
  have hT6 : Heap.IsTuple h₆ h0.objs.size #[.int a t1, .int b t2] := ⟨_, hs₆.extBut _ _ (Nat.ne_of_gt (Heap.lt_size hz')) a5, rfl, 0, rfl⟩
  refine wpAny_assign_Tuple hh hT6 rfl rfl fun h₇ hb₇ => ?_
  have up7 : ∀ b o, h₆.get? b = some o → h₇.get? b = some o := fun b o e => hb₇ b o (Nat.ne_of_lt (Heap.lt_size e)) e
  have go7 : ∀ b o, (b ≠ z ∧ b ≠ TO ∧ b ≠ i1 ∧ b ≠ i2) → h0.get? b = some o → h₇.get? b = some o := fun b o n e => up7 _ _ (hs₆.extBut _ _ n.1 (hk₅ b o n.1 n.2.1 n.2.2.1 n.2.2.2 e))
  have Z7 : ZK base csc ce Γ z TI TO i1 i2 tA lA d s₁ (i + 1) ys k m2 { s₁ with heap := h₇, toks := tk0 } := by
    refine ⟨?_, fun a o e => go7 a o ⟨ne_of fz e, ne_of fTO e, ne_of fi1 e, ne_of fi2 e⟩ (old a o e), env_keep (h' := h₇) W2 hint fun b o hb e => go7 b o (zap e (IsBox.nf hb) fun _ => IsBox.ns hb) e, go7 _ _ (zap hdt list_nf list_nt) hdt, h₇, tk0, rfl⟩
    obtain ⟨o3, e3, r3⟩ := a3
    obtain ⟨o4, e4, r4⟩ := a4
    exact ⟨up7 _ _ hz₆, up7 _ _ (hs₆.extBut _ _ DA.TIz (hk₅ _ _ DA.TIz DA.TITO DA.TIi1 DA.TIi2 hTI')), ⟨_, _, up7 _ _ (hs₆.extBut _ _ DA.TOz a2)⟩, ⟨o3, up7 _ _ (hs₆.extBut _ _ DA.i1z e3), r3⟩, ⟨o4, up7 _ _ (hs₆.extBut _ _ DA.i2z e4), r4⟩⟩
  clear hk₅ a1 a2 a3 a4 a5 a6 hs₆ hz₆ hb₇ up7 go7 hT6 hT' hL' hTI' hTO' hz' h1' h2' zap W2 hdt old
  show wpAny (model prog w) A (holding [.int b t2] (assign (.Name x px) ce (.int a t1)) >>= fun _ => holding [] (assign (.Name y py) ce (.int b t2)) >>= fun _ => pure ()) _ _ _
  refine wpAny_bind (wpAny_holding (z_store B hox sl0 Fx Z7 fun s8 Z8 => wpAny_bind (wpAny_holding (z_store B hoy sl1 Fy Z8 fun s9 Z9 => wpAny_pure (K s9 ?_)))))
  match m2, hm2 with
  | [_, _], _ => exact Z9

theorem z_end {tg : Expr} {QE : Shared → Prop} {QI : Shared → Prop} {EE : Value → Shared → Prop} {vsA : List Value}
    (hh : A.handled = none) (DA : ZipApart z TI TO i1 i2 tA lA) (hT : s₁.heap.IsTuple tA vsA.toArray) (fz : s₁.heap.get? z = none) (fi1 : s₁.heap.get? i1 = none)
    (e1 : vsA[i]? = none) (hint : ∀ v, some v ∈ m2 → ∃ i, v = .int i)
    (Z : ZK base csc ce Γ z TI TO i1 i2 tA lA d s₁ i ys k m2 t)
    (K : ∀ h tk, (∀ a o, s₁.heap.get? a = some o → h.get? a = some o) → h.get? d = some ⟨.type "list", none, .seq ys.toArray k, #[]⟩ → EnvR base [] csc ce Γ m2 h → QE { s₁ with heap := h, toks := tk }) :
    wpAny (model prog w) A (pyNext (.ref z)) (fun r s => match r with
      | none => QE s
      | some v => wpAny (model prog w) A (letOwnedTupleGo tg (.ref z) v) (fun _ s' => wpAny (model prog w) A (assign tg ce v) (fun _ s₂ => QI s₂) EE s') EE s) EE t := by
  obtain ⟨zs, old, W2, hdt, h0, tk0, rfl⟩ := Z
  have zap := fun {b o} => z_apart (b := b) (o := o) zs
  obtain ⟨hz', hTI', _, h1', _⟩ := zs
  have hT' : Heap.IsTuple h0 tA vsA.toArray := by obtain ⟨o, ho, r⟩ := hT; exact ⟨o, old _ _ ho, r⟩
  refine next_zipT_end (k1 := i) hh DA hz' hTI' h1' hT' (by rw [List.getElem?_toArray]; exact e1) fun h₅ hk₅ => ?_
  have go : ∀ b o, (b ≠ z ∧ b ≠ TO ∧ b ≠ i1 ∧ b ≠ i2) → h0.get? b = some o → h₅.get? b = some o := fun b o n e => hk₅ b o n.1 n.2.2.1 e
  exact K h₅ tk0 (fun a o e => hk₅ a o (ne_of fz e) (ne_of fi1 e) (old a o e)) (go _ _ (zap hdt list_nf list_nt) hdt) (env_keep (h' := h₅) W2 hint fun b o hb e => go b o (zap e (IsBox.nf hb) fun _ => IsBox.ns hb) e)

theorem z_append {s' : Shared} {u : Value} {QI : Shared → Prop} {EE : Value → Shared → Prop} (hint : ∀ v, some v ∈ m2 → ∃ i, v = .int i) (hnd : s₁.heap.get? d = none) (hz : ys.length ≤ room)
    (Z : ZK base csc ce Γ z TI TO i1 i2 tA lA d s₁ i ys k m2 t) (up : ∀ b o, t.heap.get? b = some o → s'.heap.get? b = some o) (sh : ∃ hh tk, s' = { t with heap := hh, toks := tk })
    (K : ∀ k' t', ZK base csc ce Γ z TI TO i1 i2 tA lA d s₁ i (ys ++ [u]) k' m2 t' → QI t') :
    wpAny (model prog w) A (call (.builtin "list.append") [.ref d, u]) (fun _ s => QI s) EE s' := by
  obtain ⟨zs, old, W, hd, h0, tk0, rfl⟩ := Z
  obtain ⟨h10, tk10, rfl⟩ := sh
  have hd10 := up _ _ hd
  refine append_d (vs := ys) hd10 (fun h11 k11 hd11 hs11 => ?_) (by simp only [List.size_toArray, sizeLine]; unfold room at hz; lia)
  refine K k11 _ ⟨?_, fun a o e => hs11.extBut a o (ne_of hnd e) (up a o (old a o e)), env_keep W hint fun b o hb e => hs11.extBut b o (fun q => IsBox.ns hb _ _ (by rw [q, hd] at e; cases e; rfl)) (up b o e), hd11, h11, tk10, rfl⟩
  refine (ZSt.keep (a := d) zs (fun b o _ e => up b o e) fun o e => ?_).keep (a := d) hs11.extBut fun o e => ?_
  · rw [hd] at e; cases e; exact ⟨list_nf, list_nt⟩
  · rw [hd10] at e; cases e; exact ⟨list_nf, list_nt⟩

theorem zip_loop {C : Calls} {elt iter : Expr} {ex : X} {pos tp : Pos} {tk' : Nat} {x y : Str} {px py : Pos} {vsA vsL : List Value} {X Y : List Int} {PP : List V → Prop} {RR : Result → Shared → Prop}
    (hh : A.handled = none) (B : ∀ a o, base.get? a = some o → s₁.heap.get? a = some o) (DA : ZipApart z TI TO i1 i2 tA lA) (hT : s₁.heap.IsTuple tA vsA.toArray) (hL : s₁.heap.IsList lA vsL.toArray)
    (fz : s₁.heap.get? z = none) (fTO : s₁.heap.get? TO = none) (fi1 : s₁.heap.get? i1 = none) (fi2 : s₁.heap.get? i2 = none) (hnd : s₁.heap.get? d = none)
    (hall : ∀ n ∈ [x, y], isOwn csc n = true) (hxy : x ≠ y) (F : ∀ n ∈ [x, y], ∀ a, At ce n a → s₁.heap.get? a = none)
    (hI1 : PyProof.Rows.IntsAre vsA X) (hI2 : PyProof.Rows.IntsAre vsL Y) (hlen : X.length = Y.length) (hXr : X.length ≤ room) (IHe : SE prog w base C A elt ex csc [y, x] ce)
    (Z : ZK base csc ce [y, x] z TI TO i1 i2 tA lA d s₁ 0 [] 0 [none, none] t)
    (hpz : wpZip (fun x y P' => wpE C ex [some (.int x), some (.int y)] [] fun v _ => P' v) X Y [] PP)
    (K : ∀ acc ys k m2 h tk, PP acc → RepL base [] s₁.heap acc ys → (∀ v ∈ acc, ∃ i, v = .int i) → ys.length = X.length → (∀ a o, s₁.heap.get? a = some o → h.get? a = some o) → h.get? d = some ⟨.type "list", none, .seq ys.toArray k, #[]⟩ → EnvR base [] csc ce [y, x] m2 h → RR (.ok .next) { s₁ with heap := h, toks := tk }) :
    codeAny (model prog w) A (.compLoop (.ListComp elt [⟨.Tuple [.Name x px, .Name y py] tk' tp, iter, [], 0⟩] csc pos) 0 (.ref z) (.ref d) ce) RR t := by
  have sl0 : slot [y, x] x = some 0 := by
    have : (y == x) = false := by simpa using fun q : y = x => hxy q.symm
    simp [slot, this]
  have sl1 : slot [y, x] y = some 1 := by simp [slot]
  refine PyProof.Rows.LCp.codeAny_compLoop_pair (fun n t => ∃ (i : Nat) (acc : List V) (ys : List Value) (k : Nat) (m2 : Loc), n = X.length - i ∧ i ≤ X.length ∧ ZK base csc ce [y, x] z TI TO i1 i2 tA lA d s₁ i ys k m2 t ∧ (∀ v, some v ∈ m2 → ∃ i, v = .int i) ∧ m2.length = 2 ∧
    RepL base [] s₁.heap acc ys ∧ (∀ v ∈ acc, ∃ i, v = .int i) ∧ ys.length = i ∧ wpZip (fun x y P' => wpE C ex [some (.int x), some (.int y)] [] fun v _ => P' v) (X.drop i) (Y.drop i) acc PP) ?_ X.length
    ⟨0, [], [], 0, [none, none], rfl, Nat.zero_le _, Z, fun v hv => by simp at hv, rfl, rfl, fun v hv => (nomatch hv), rfl, hpz⟩
  rintro n t ⟨i, acc, ys, k, m2, rfl, hi, Z, hint, hm2, hacc, haint, hal, hwz⟩
  have l1 := hI1.length
  rcases Nat.lt_or_ge i X.length with c | c
  rotate_left
  · have ei : i = X.length := Nat.le_antisymm hi c
    refine z_end hh DA hT fz fi1 (List.getElem?_eq_none (by rw [l1]; exact c)) hint Z fun h tk old hd W => K acc ys k m2 h tk ?_ hacc haint (hal.trans ei) old hd W
    rw [ei, List.drop_length] at hwz
    cases hdr : Y.drop X.length <;> (rw [hdr] at hwz; exact hwz)
  · obtain ⟨u1, hu1, t1, rfl⟩ := (ints_repL (base := base) (φ := []) (h := s₁.heap) hI1).get (i := i) (x := .int X[i]) (by simp [zl, c])
    have c' : i < Y.length := hlen ▸ c
    obtain ⟨u2, hu2, t2, rfl⟩ := (ints_repL (base := base) (φ := []) (h := s₁.heap) hI2).get (i := i) (x := .int Y[i]) (by simp [zl, c'])
    rw [List.drop_eq_getElem_cons c, List.drop_eq_getElem_cons c'] at hwz
    generalize X[i] = xi at *
    generalize Y[i] = yi at *
    have im : ∀ v, some v ∈ [some (V.int xi), some (V.int yi)] → ∃ i, v = .int i := fun v hv => by
      simp only [List.mem_cons, Option.some.injEq, List.not_mem_nil, or_false] at hv
      rcases hv with rfl | rfl <;> exact ⟨_, rfl⟩
    refine z_next hh B DA hT hL fz fTO fi1 fi2 (hall x (.head _)) (hall y (.tail _ (.head _))) sl0 sl1 (F x (.head _)) (F y (.tail _ (.head _))) hu1 hu2 hint hm2 Z fun t' Z' => ?_
    refine IHe _ [] [] t' _ _ _ (rel_nil fun a o e => Z'.2.1 a o (B a o e)) Z'.2.2.1 hwz fun v zv φ7 H7 s7 hp7 st7 R7 rz => ?_
    obtain ⟨qq, rfl⟩ : ∃ q, v = .int q := by
      cases v <;> first | exact ⟨_, rfl⟩ | exact hp7.elim
    obtain ⟨tz, rfl⟩ := rz
    refine z_append im hnd (by lia) Z' (fun b o e => st7.evo b o e (by simp) (by simp)) st7.same fun k' t'' Z'' => ?_
    refine ⟨X.length - (i + 1), by lia, i + 1, acc ++ [.int qq], ys ++ [.int qq tz], k', _, rfl, c, Z'', im, rfl, RepL.append hacc (show RepL base [] s₁.heap [.int qq] [.int qq tz] from ⟨_, [], rfl, ⟨tz, rfl⟩, rfl⟩), fun v hv => ?_, by rw [List.length_append, hal]; rfl, hp7⟩
    rcases List.mem_append.mp hv with q | q
    · exact haint v q
    · simp only [List.mem_singleton] at q; exact ⟨_, q⟩
end

section
variable {prog : Program} {w : World} {base : Heap} {D : Tabs} {T : Nat → Option Fn} {mg mb : Str → Option Value} {C : Calls} {A : Around}

set_option maxHeartbeats 4000000 in
theorem zip_sound (G : Ground base D T mg mb) (hh : A.handled = none) : ZipSound prog w base D C A := by
  intro sc csc Γ env elt iter tg xs pos pos' a b ex use htg hci hok hown hall hlen hex IHi IHe m φ H s P Q E R W hw K
  obtain ⟨x, y, rfl⟩ : ∃ x y, xs = [x, y] := by
    match xs, hlen with
    | [x, y], _ => exact ⟨x, y, rfl⟩
  obtain ⟨px, py, tk', tp, rfl, hxy⟩ := tgts_two htg
  obtain ⟨f, fp, args, fpos, as, rfl, hd, hg, has, hm⟩ := inv_bin hci (.inr rfl)
  obtain ⟨_, rfl, hff⟩ := mk_bin hm (.inr rfl)
  simp only [reduceCtorEq, false_and, false_or, true_and] at hff
  subst hff
  have hsc : okScope csc = true := by unfold okComp at hok; simp only [Bool.and_eq_true] at hok; exact hok.1
  refine wpAny_comprehension_free (cl := clOf env csc.names []) rfl (fun y => rfl) (closureFor_eq (comp_free W hok)) (okScope_kind hsc) (fun p hp hl => by rw [okScope_once hsc hp, hl]) ?_
  simp only [VN, VJ, VU, VS, VO, VT, Wc, VW, VF, VY, VV, Wb, VZ, VM, VK, VX, VE, VL, VD] at hw
  refine se_call_t (id := "zip") G (bt 15 rfl) hg hd has (by intro q; subst q; rw [cEs_nil] at has; cases has) (fun e' he z hz => IHi e' (by have := List.sizeOf_lt_of_mem he; simp; lia) z hz) R W
    (P := fun vs H' => match vs with
      | [v, z] => zipV (fun x y P' => wpE C ex [some (.int x), some (.int y)] [] fun v _ => P' v) v z H' P
      | _ => False) (by simpa [wes_nil, wes_cons] using hw) fun vs ws φ₁ H₁ s₁ hp st₁ R₁ rv => ?_
  split at hp
  rotate_left
  · exact hp.elim
  rename_i v z
  obtain ⟨us, eu, hp⟩ := optV_elim hp
  obtain ⟨k, vs, ez, hk, hp⟩ := refV_elim hp
  obtain ⟨X, hX, hp⟩ := optV_elim hp
  obtain ⟨Y, hY, hlen', hpz⟩ := optV_elim hp
  have eu := tup_eq eu
  subst eu
  subst ez
  obtain ⟨w1, r1, rfl, rv1, w2, r2, rfl, rv2, hr⟩ := rv
  rw [show r2 = [] from hr]
  obtain ⟨tA, vsA, rfl, hT, hrA, hzA⟩ := rv1
  obtain ⟨lA, vsL, nL, rfl, hφ, hpL, hrL⟩ := rep_ref R₁ rv2 hk
  have hI1 := ints_areL hX hrA
  have hI2 := ints_areL hY hrL
  have hL : s₁.heap.IsList lA vsL.toArray := ⟨_, hpL, rfl, nL, rfl⟩
  have ltA : tA < s₁.heap.objs.size := by obtain ⟨o, ho, _⟩ := hT; exact Heap.lt_size ho
  have ltL : lA < s₁.heap.objs.size := Heap.lt_size hpL
  refine call_zipT hT hL fun h₂ hz hTI hTO h1 h2 hsz kp₂ => ?_
  refine wpAny_pyIter_zip hz ?_
  refine wpAny_newList ?_ (by simp [sizeLine])
  have DA : ZipApart (s₁.heap.objs.size + 4) (s₁.heap.objs.size + 2) (s₁.heap.objs.size + 3) s₁.heap.objs.size (s₁.heap.objs.size + 1) tA lA := by
    have e1 : @LT.lt Nat _ tA s₁.heap.objs.size := ltA
    have e2 : @LT.lt Nat _ lA s₁.heap.objs.size := ltL
    constructor <;> (refine fun (q : @Eq Nat _ _) => ?_; lia)
  have kp₃ : ∀ a o, s₁.heap.get? a = some o → (h₂.push { cls := .type "list", data := .seq ([] : List Value).toArray }).get? a = some o := fun a o e => Heap.get?_push_of_some _ (kp₂ a o e)
  have W₁ := W.step R st₁
  have R₃ := R₁.grow kp₃
  have st₃ : Step [] φ₁ φ₁ s₁ { s₁ with heap := h₂.push { cls := .type "list", data := .seq ([] : List Value).toArray } } := Step.grow (tk := s₁.toks) kp₃
  have W₃ := W₁.step R₁ st₃
  refine comp_env hok W₃ R₃ [x, y] hown hall fun cenv s₄ kp₄ st₄ R₄ _ W₄ hC hcell => ?_
  have hnC : s₁.heap.get? cenv.locals = none := old_none st₃ hC
  have hd4 : s₄.heap.get? h₂.objs.size = some ⟨.type "list", none, .seq ([] : List Value).toArray 0, #[]⟩ := kp₄ _ _ (Heap.get?_push_size _ rfl)
  have hnd : s₁.heap.get? h₂.objs.size = none := get_ge _ (by lia)
  have zs4 : ZSt (s₁.heap.objs.size + 4) (s₁.heap.objs.size + 2) (s₁.heap.objs.size + 3) s₁.heap.objs.size (s₁.heap.objs.size + 1) tA lA .none 0 s₄.heap := by
    have up : ∀ b o, h₂.get? b = some o → s₄.heap.get? b = some o := fun b o e => kp₄ _ _ (Heap.get?_push_of_some _ e)
    obtain ⟨o1, e1, r1⟩ := h1
    obtain ⟨o2, e2, r2⟩ := h2
    exact ⟨up _ _ hz, up _ _ hTI, ⟨_, _, up _ _ hTO⟩, ⟨o1, up _ _ e1, r1⟩, ⟨o2, up _ _ e2, r2⟩⟩
  have old4 : ∀ a o, s₁.heap.get? a = some o → s₄.heap.get? a = some o := fun a o e => kp₄ _ _ (kp₃ _ _ e)
  have fz : s₁.heap.get? (s₁.heap.objs.size + 4) = none := get_ge _ (by lia)
  have fTI : s₁.heap.get? (s₁.heap.objs.size + 2) = none := get_ge _ (by lia)
  have fTO : s₁.heap.get? (s₁.heap.objs.size + 3) = none := get_ge _ (by lia)
  have fi2 : s₁.heap.get? (s₁.heap.objs.size + 1) = none := get_ge _ (by lia)
  have fi1 : s₁.heap.get? s₁.heap.objs.size = none := get_size _
  generalize h₂.objs.size = d at hd4 hnd ⊢
  generalize s₁.heap.objs.size + 4 = zA at *
  generalize s₁.heap.objs.size + 2 = TI at *
  generalize s₁.heap.objs.size + 3 = TO at *
  generalize s₁.heap.objs.size + 1 = i2 at *
  generalize s₁.heap.objs.size = i1 at *
  have E4 : EnvR base [] csc { cenv with scope := relabel csc env } [y, x] [none, none] s₄.heap := by
    obtain ⟨mm, hn, _⟩ := W₄.ns
    have nm : ∀ {i : Nat} {v : V}, ([none, none] : Loc)[i]? = some (some v) → False := fun {i v} hm => by
      have := List.mem_of_getElem? hm
      simp at this
    exact ⟨W₄.kind, W₄.glob, W₄.blt, rfl, W₄.kinds, W₄.fresh, ⟨mm, hn, fun x i v _ hm _ => (nm hm).elim⟩, W₄.cellat, fun x i v _ hm _ => (nm hm).elim, W₄.inj, W₄.has⟩
  have hF : ∀ n ∈ [x, y], ∀ a, At { cenv with scope := relabel csc env } n a → s₁.heap.get? a = none := fun n hn a ha => by
    rcases ha with rfl | ⟨h1, h2⟩
    · exact hnC
    · exact old_none st₃ (hcell n hn a h1 h2)
  have hXr : X.length ≤ room := by
    have := hI1.length; have := hrA.length; lia
  obtain ⟨hh4, tk4, e4⟩ := st₄.same
  have hbn : ∀ {a : Addr}, s₁.heap.get? a = none → base.get? a = none := fun {a} q => by
    cases z : base.get? a with
    | none => rfl
    | some o => rw [R₁.keep a o z] at q; cases q
  have hloop : codeAny (model prog w) A (.compLoop (.ListComp elt [⟨.Tuple [.Name x px, .Name y py] tk' tp, .Call (.Name (Str.ofString "zip") fp) args [] fpos, [], 0⟩] csc pos) 0 (.ref zA) (.ref d) { cenv with scope := relabel csc env }) (compPost (model prog w) A E use Q (.ref d) cenv.locals) s₄ := by
    refine zip_loop hh R₁.keep DA hT hL fz fTO fi1 fi2 hnd hall hxy hF hI1 hI2 hlen' hXr (IHe _) ⟨zs4, old4, E4, hd4, hh4, tk4, by rw [e4]⟩ hpz fun acc ys k m2 h5 tk5 hwz hacc haint hys old5 hd5 W5 => ?_
    obtain ⟨R6, r6⟩ := (R₁.grow old5).adopt (R₁.none_not hnd) (hbn hnd) hd5 (repL_ints (φ' := φ₁) (h' := h5) haint hacc) (by have := hacc.length; lia)
    obtain ⟨mm, hn5, _⟩ := W5.ns
    refine K d cenv.locals φ₁ H₁ _ acc hwz ((st₁.trans (Step.grow (tk := tk5) old5)).adopt (old_none st₁ hnd)) R6 r6 ⟨mm, hn5⟩ (old_none st₁ hnC) (hbn hnC) fun q => ?_
    rcases List.mem_append.mp q with q | q
    · exact R₁.none_not hnC q
    · simp only [List.mem_singleton] at q
      obtain ⟨o, es, ep, ho, hd', _⟩ := hn5
      rw [q, hd5] at ho; cases ho; cases hd'
  exact codeAny_compStart_list hloop (wpAny_pyIter_zip zs4.1 hloop)
end
end Mine

open PySem
namespace Mine

section
variable {prog : Program} {w : World} {base : Heap} {D : Tabs} {T : Nat → Option Fn} {mg mb : Str → Option Value} {C : Calls} {A : Around} {sc : Scope} {Γ : List Str} {env : Env}

theorem ss_ret {e : Expr} {x : X} {pos : Pos} (he : SE prog w base C A e x sc Γ env) : SS prog w base C A (.Return (some e) pos) (.ret x) sc Γ env := fun m φ H s Q QQ E R W hw K => by
  simp only [ws_assign, ws_unpack, ws_setItem, ws_append, ws_expr, ws_ite, ws_loop, ws_each, ws_ret, ws_raise] at hw
  exact wpAny_Return_some (he m φ H s _ _ E R W hw fun v y φ' H' s' hp st R' r => K (.ret v) (.ret y) m φ' H' s' hp (up _ st) R' (W.step R st) ⟨y, rfl, r⟩)

theorem ss_if {t : Expr} {b c : List Stmt} {xt : X} {xb xc : List S} {pos : Pos} (ht : ST prog w base C A t xt sc Γ env) (hb : SSs prog w base C A b xb sc Γ env) (hc : SSs prog w base C A c xc sc Γ env) :
    SS prog w base C A (.If t b c pos) (.ite xt xb xc) sc Γ env := fun m φ H s Q QQ E R W hw K => by
  simp only [ws_assign, ws_unpack, ws_setItem, ws_append, ws_expr, ws_ite, ws_loop, ws_each, ws_ret, ws_raise] at hw
  refine wpAny_If (ht m φ H s _ _ E R W hw (fun v bb φ' H' s' hp hv st R' => ?_) fun v H' hp => ?_)
  · rw [hv] at hp
    cases bb with
    | true => simp only [if_true]; exact hb m φ' H' s' Q QQ E R' (W.step R st) hp (K.after (up _ st))
    | false => simp only [Bool.false_eq_true, if_false]; exact hc m φ' H' s' Q QQ E R' (W.step R st) hp (K.after (up _ st))
  · cases q : truth v with
    | none => rw [q] at hp; exact hp.elim
    | some b => exact ⟨b, rfl⟩

theorem ss_expr {f : Str} {fp cp pos : Pos} {args : List Expr} {x : X} (he : SE prog w base C A (.Call (.Name f fp) args [] cp) x sc Γ env) : SS prog w base C A (.Expr (.Call (.Name f fp) args [] cp) pos) (.expr x) sc Γ env := fun m φ H s Q QQ E R W hw K => by
  simp only [ws_assign, ws_unpack, ws_setItem, ws_append, ws_expr, ws_ite, ws_loop, ws_each, ws_ret, ws_raise] at hw
  refine wpAny_Expr (he m φ H s _ _ E R W hw fun v y φ' H' s' hp st R' r => ?_) (by unfold interactive; rw [W.kind]; rfl) rfl
  split at hp
  · rw [show y = .none from r]
    exact K .next .next m φ' H' s' hp (up _ st) R' (W.step R st) rfl
  · exact hp.elim

theorem ss_unpack (hh : A.handled = none) {x y : Str} {p q p' pos : Pos} {k : Nat} {v : Expr} {i j : Nat} {e : X} (hx : isOwn sc x = true) (hy : isOwn sc y = true) (hxy : x ≠ y) (hi : slot Γ x = some i) (hj : slot Γ y = some j) (hpl : plainPair sc x y v = true) (hv : SE prog w base C A v e sc Γ env) :
    SS prog w base C A (.Assign [.Tuple [.Name x p, .Name y q] k p'] v pos) (.unpack [i, j] e) sc Γ env := fun m φ H s Q QQ E R W hw K => by
  simp only [ws_assign, ws_unpack, ws_setItem, ws_append, ws_expr, ws_ite, ws_loop, ws_each, ws_ret, ws_raise] at hw
  have hsw : swapsWithSole [.Tuple [.Name x p, .Name y q] k p'] v pos.line env = pure false := by
    cases v <;> rfl
  have hst : swappedStores [.Tuple [.Name x p, .Name y q] k p'] v env = pure none := by
    cases v <;> first
      | rfl
      | (rename_i vs kk pp
         have hpl : ¬ sc.names.lookup x = some .local ∨ ¬ sc.names.lookup y = some .local := by simpa [plainPair, tupOf, sel] using hpl
         have hne : env.kindOf x ≠ some .local ∨ env.kindOf y ≠ some .local := by
           rcases hpl with h | h
           · left; intro z
             have kd := W.kinds x
             unfold isOwn at hx
             split at hx
             · rename_i e'; exact h e'
             · rename_i e'; rw [e'] at kd; rw [z] at kd; cases kd
             · cases hx
           · right; intro z
             have kd := W.kinds y
             unfold isOwn at hy
             split at hy
             · rename_i e'; exact h e'
             · rename_i e'; rw [e'] at kd; rw [z] at kd; cases kd
             · cases hy
         unfold swappedStores
         simp only [pure_bind]
         split
         · rfl
         · split
           · rfl
           · rcases hne with h | h
             · have h' : (env.kindOf x == some NameKind.local) = false := by simpa using h
               simp only [List.filterMap_cons, List.filterMap_nil, h', Bool.false_and, Bool.false_eq_true, if_false]
               cases (env.kindOf y == some NameKind.local && q.line == (Option.map (fun x => x.pos.line) [Expr.Name x p, Expr.Name y q].head?).getD 0) <;> rfl
             · have h' : (env.kindOf y == some NameKind.local) = false := by simpa using h
               simp only [List.filterMap_cons, List.filterMap_nil, h', Bool.false_and, Bool.false_eq_true, if_false]
               cases (env.kindOf x == some NameKind.local && p.line == (Option.map (fun x => x.pos.line) [Expr.Name x p, Expr.Name y q].head?).getD 0) <;> rfl)
  refine PyProof.Rows.Assign_Tuple (hv m φ H s _ _ E R W hw fun u z φ' H' s' hp st R' r => ?_) hsw hst
  split at hp
  · rename_i m₁ hm
    refine put_sound (xs := [x, y]) (is := [i, j]) hh (by simp [tgts, nameOf, pairOf, tupOf, sel, two?, one?, opt2, hxy]) (by simp [slots, hi, hj]) (by intro z hz; simp only [List.mem_cons, List.not_mem_nil, or_false] at hz; rcases hz with rfl | rfl <;> assumption) hm R' (W.step R st) r fun s'' st' R'' W'' => ?_
    exact K .next .next m₁ φ' H' s'' hp ((up _ st).trans st') R'' W'' rfl
  · exact hp.elim

/-- a while -/
theorem ss_while {t : Expr} {b : List Stmt} {xt : X} {xb : List S} {pos : Pos} (ht : ST prog w base C A t xt sc Γ env) (hb : SSs prog w base C A b xb sc Γ env) : SS prog w base C A (.While t b [] pos) (.loop xt xb) sc Γ env := fun m φ H s Q QQ E R W hw K => by
  simp only [ws_assign, ws_unpack, ws_setItem, ws_append, ws_expr, ws_ite, ws_loop, ws_each, ws_ret, ws_raise] at hw
  obtain ⟨n, hn⟩ := hw
  refine wpAny_While (codeAny_whileLoop (fun k t' => ∃ m' φ' H', Step (own env) φ φ' s t' ∧ Rel base φ' H' t'.heap ∧ EnvR base φ' sc env Γ m' t'.heap ∧ wpLoop (wpE C xt) (fun m H Q => wpSs C xb m H Q) Q k m' H') ?_ n ⟨m, φ, H, Step.refl _ _ _, R, W, hn⟩)
  rintro k t' ⟨m', φ', H', st, R', W', hl⟩
  cases k with
  | zero => exact hl.elim
  | succ k =>
    rw [wpLoop] at hl
    refine ht m' φ' H' t' _ _ _ R' W' hl (fun v bb φ₁ H₁ s₁ hp hv st₁ R₁ => ?_) fun v H' hp => ?_
    · rw [hv] at hp
      have W₁ := W'.step R' st₁
      cases bb with
      | true =>
        simp only [if_true]
        refine hb m' φ₁ H₁ s₁ _ _ _ R₁ W₁ hp fun fl f m₂ φ₂ H₂ s₂ hq st₂ R₂ W₂ hf => ?_
        cases fl with
        | next =>
          rw [show f = .next from hf]
          exact ⟨k, Nat.lt_succ_self _, m₂, φ₂, H₂, (st.trans (up _ st₁)).trans st₂, R₂, W₂, hq⟩
        | ret x =>
          obtain ⟨y, rfl, r⟩ := hf
          exact K (.ret x) (.ret y) m₂ φ₂ H₂ s₂ hq ((st.trans (up _ st₁)).trans st₂) R₂ W₂ ⟨y, rfl, r⟩
      | false =>
        simp only [Bool.false_eq_true, if_false]
        exact wpAny_execs_nil (K .next .next m' φ₁ H₁ s₁ hp (st.trans (up _ st₁)) R₁ W₁ rfl)
    · cases q : truth v with
      | none => rw [q] at hp; exact hp.elim
      | some b => exact ⟨b, rfl⟩

/-- a for -/
theorem ss_for (G : Ground base D T mg mb) (hh : A.handled = none) {tg iter : Expr} {b : List Stmt} {xs : List Str} {is : List Nat} {ix : X} {xb : List S} {pos : Pos} (htg : tgts tg = some xs) (hs : slots Γ xs = some is) (hown : ∀ x ∈ xs, isOwn sc x = true) (hit : okIt (itOf ix).1 xs.length = true)
    (hci : cE D sc Γ iter = some ix) (IHi : ∀ e', sizeOf e' ≤ sizeOf iter → ∀ y, cE D sc Γ e' = some y → SE prog w base C A e' y sc Γ env) (hb : SSs prog w base C A b xb sc Γ env) :
    SS prog w base C A (.For tg iter b [] pos) (.each is (itOf ix).1 (itOf ix).2.1 (itOf ix).2.2 xb) sc Γ env := fun m φ H s Q QQ E R W hw K => by
  simp only [ws_assign, ws_unpack, ws_setItem, ws_append, ws_expr, ws_ite, ws_loop, ws_each, ws_ret, ws_raise] at hw
  have hnotset : ∀ y, foldedSetIterable iter env y = pure y := fun y => by
    exact cE_elim (M := fun e _ => foldedSetIterable e env y = pure y) (by intros; rfl) (by intros; rfl) (by intros; rfl) (by intros; rfl) (by intros; rfl) (by intros; rfl) (by intros; rfl) (by intros; rfl) (by intros; rfl) (by intros; rfl) (by intros; rfl) (by intros; rfl) (by intros; rfl) _ _ hci
  have htok : TgOk (itOf ix).1 tg := by
    constructor
    · intro q
      rw [q] at hit
      simp only [okIt, beq_iff_eq] at hit
      cases xs with
      | nil => simp at hit
      | cons x r => cases r with
        | nil => simp at hit
        | cons y r' => cases r' with
          | nil => obtain ⟨p, q, k, p', rfl, _⟩ := tgts_two htg; exact ⟨_, _, _, rfl⟩
          | cons _ _ => simp at hit
    · intro q
      have hl : xs.length = 1 := by
        cases hi : (itOf ix).1 <;> rw [hi] at hit q <;> simp [okIt] at hit q <;> exact hit
      cases xs with
      | nil => simp at hl
      | cons x r => cases r with
        | nil => obtain ⟨p, rfl⟩ := tgts_one htg; exact ⟨_, _, rfl⟩
        | cons _ _ => simp at hl
  refine wpAny_For (source G hh htok hci IHi R W (P := fun vs src H' => wpEach is (fun m H Q => wpSs C xb m H Q) src Q vs m H') hw fun vs src φ₁ H₁ s₁ I wr St Mid hp st₁ R₁ Wk st0 hwr hz => ?_) hnotset
  have W₁ := W.step R st₁
  have hbd : ∀ {a : Addr}, s.heap.get? a = none → base.get? a = none := fun {a} q => by
    cases z : base.get? a with
    | none => rfl
    | some o => rw [R.keep a o z] at q; cases q
  refine codeAny_forLoop_any (fun n t => ∃ (i : Nat) (m' : Loc) (φ' : List Addr) (H' : Hp), n = vs.length - i ∧ i ≤ vs.length ∧ St i φ' t.heap ∧ Rel base φ' H' t.heap ∧ EnvR base φ' sc env Γ m' t.heap ∧ Step (own env) φ φ' s t ∧
    wpEach is (fun m H Q => wpSs C xb m H Q) src Q (vs.drop i) m' H') ?_ vs.length ⟨0, m, φ₁, H₁, by simp, Nat.zero_le _, st0, R₁, W₁, up _ st₁, by simpa using hp⟩
  rintro n t ⟨i, m', φ', H', rfl, hi, hst, Rt, Wt, sst, hwc⟩
  have hF : Fields wr t.heap := fun b hb o e => by
    obtain ⟨o', fs, h1, h2⟩ := Wk.wrobj i φ' t.heap hst b hb
    rw [e] at h1; cases h1; exact ⟨fs, h2⟩
  have hwb : ∀ b ∈ wr, base.get? b = none := fun b hb => hbd (hwr b hb)
  cases hdr : vs.drop i with
  | nil =>
    have hlen : i = vs.length := by
      have := congrArg List.length hdr; simp at this; lia
    subst hlen
    rw [hdr] at hwc
    obtain ⟨hstill, hQ⟩ := hwc
    refine Wk.done t φ' H' _ _ hst Rt hstill fun h' tk hk => ?_
    exact wpAny_execs_nil (K .next .next m' φ' H' _ hQ (sst.skip hwr hk ⟨_, _, rfl⟩) (Rt.butL hF hwb hk) (Wt.butL hF hk) rfl)
  | cons v rest =>
    have hv : vs[i]? = some v := by
      have := congrArg List.head? hdr
      simpa [List.head?_drop] using this
    have hrest : vs.drop (i + 1) = rest := by rw [← List.drop_drop, hdr]; rfl
    have hil : i < vs.length := by
      rcases Nat.lt_or_ge i vs.length with q | q
      · exact q
      · rw [List.getElem?_eq_none q] at hv; cases hv
    rw [hdr] at hwc
    obtain ⟨hstill, hturn⟩ := hwc
    refine Wk.next i v t φ' H' _ _ hv hst Rt hstill fun xv h' tk hmid rv hk => ?_
    have hF' : Fields wr h' → True := fun _ => trivial
    refine Wk.go i xv { t with heap := h', toks := tk } φ' _ _ hmid fun h'' hst' hk' => ?_
    have kall : ∀ b o, b ∉ wr → t.heap.get? b = some o → h''.get? b = some o := fun b o hb e => hk' b o hb (hk b o hb e)
    have R4 := Rt.butL (h' := h'') hF hwb kall
    have W4 := Wt.butL (h' := h'') hF kall
    have rv' : Rep base φ' h'' v xv := by
      refine Rep.mono (List.prefix_refl _) (fun c o e c' => ?_) _ _ rv
      refine hk' c o (fun q => ?_) e
      exact (Wk.wrmid i xv φ' h' hmid c q).elim fun o' ⟨fs, h1, h2⟩ => by
        rw [e] at h1; cases h1
        obtain ⟨_, vs', n', c2⟩ := c'
        rw [h2] at c2; cases c2
    split at hturn
    · rename_i m₁ hm
      refine put_sound hh htg hs hown hm (s := { t with heap := h'', toks := tk }) R4 W4 rv' fun s5 st5 R5 W5 => ?_
      have st4 : Step (own env) φ φ' s { t with heap := h'', toks := tk } := sst.skip hwr kall ⟨_, _, rfl⟩
      have hst5 : St (i + 1) φ' s5.heap := Wk.frame (i + 1) φ' φ' h'' s5.heap hst' (List.prefix_refl _) (fun b o fs hb e hd => st5.walk R4 W4 b o fs e hd) (st5.tups R4 W4)
      refine hb m₁ φ' H' s5 _ _ _ R5 W5 hturn fun fl f m₆ φ₆ H₆ s₆ hq st₆ R₆ W₆ hf => ?_
      cases fl with
      | next =>
        rw [show f = .next from hf]
        refine ⟨vs.length - (i + 1), by lia, i + 1, m₆, φ₆, H₆, rfl, by lia, ?_, R₆, W₆, (st4.trans st5).trans st₆, by rw [hrest]; exact hq⟩
        exact Wk.frame (i + 1) φ' φ₆ s5.heap s₆.heap hst5 st₆.pre (fun b o fs hb e hd => st₆.walk R5 W5 b o fs e hd) (st₆.tups R5 W5)
      | ret x =>
        obtain ⟨y, rfl, r⟩ := hf
        exact K (.ret x) (.ret y) m₆ φ₆ H₆ s₆ hq ((st4.trans st5).trans st₆) R₆ W₆ ⟨y, rfl, r⟩
    · exact hturn.elim
end
end Mine

open PySem
namespace Mine

section
variable {prog : Program} {w : World} {base : Heap} {D : Tabs} {T : Nat → Option Fn} {mg mb : Str → Option Value} {C : Calls} {A : Around}

set_option maxHeartbeats 2000000 in
theorem soundS (G : Ground base D T mg mb) (hh : A.handled = none) (hu : A.units + 64 < cLine) (hC : SoundC prog w base D T C A) (hR : D.revs = true → RevSound prog w base A) (hZ : D.zips = true → ZipSound prog w base D C A)
    (sc : Scope) (Γ : List Str) (env : Env) :
    ∀ (N : Nat), (∀ (st : Stmt), sizeOf st < N → ∀ x, cS D sc Γ st = some x → SS prog w base C A st x sc Γ env) ∧ (∀ (sts : List Stmt), sizeOf sts < N → ∀ xs, cSs D sc Γ sts = some xs → SSs prog w base C A sts xs sc Γ env)
  | 0 => ⟨fun _ h => absurd h (Nat.not_lt_zero _), fun _ h => absurd h (Nat.not_lt_zero _)⟩
  | N + 1 => by
    obtain ⟨IH, IHs⟩ := soundS G hh hu hC hR hZ sc Γ env N
    have E1 : ∀ {e : Expr} {x : X}, cE D sc Γ e = some x → SE prog w base C A e x sc Γ env := fun {e x} h => (soundE G hh hu hC hR hZ _ e (Nat.lt_succ_self _) sc Γ env x h).1
    have E2 : ∀ {e : Expr} {x : X}, cE D sc Γ e = some x → ST prog w base C A e x sc Γ env := fun {e x} h => (soundE G hh hu hC hR hZ _ e (Nat.lt_succ_self _) sc Γ env x h).2
    refine ⟨fun st hN x hc => ?_, fun sts hN xs hc => ?_⟩
    · refine cS_elim (M := fun st x => sizeOf st < N + 1 → SS prog w base C A st x sc Γ env) ?_ ?_ ?_ ?_ ?_ ?_ ?_ st x hc hN
      · -- Assign
        intro tgs v pos x hc hN
        unfold cAssign at hc
        obtain ⟨t, ht, hd⟩ := Option.bind_eq_some_iff.mp hc
        clear hc
        have ht := one_eq ht
        subst ht
        cases hn : nameOf t with
        | some y =>
          rw [hn] at hd
          obtain ⟨p, rfl⟩ := nameOf_eq hn
          obtain ⟨hown, hd⟩ := if_some hd
          obtain ⟨i, e, h1, h2, hd⟩ := opt2_some hd
          cases hd
          by_cases hlc : ∃ elt gens csc cp, v = .ListComp elt gens csc cp
          · obtain ⟨elt, gens, csc, cp, rfl⟩ := hlc
            have hsw : ∃ bb, swapsWith (.ListComp elt gens csc cp) (some (.Name y p)) pos.line env = pure bb := ⟨_, rfl⟩
            obtain ⟨bb, hsw⟩ := hsw
            cases bb with
            | false => exact ss_assign hown h1 (E1 h2) hsw
            | true =>
              intro m φ H s Q QQ E R W hw K
              rw [exec_Assign_Name_used _ _ _ _ hsw]
              refine wpAny_bind (wpAny_standAt ?_)
              simp only [ws_assign, ws_unpack, ws_setItem, ws_append, ws_expr, ws_ite, ws_loop, ws_each, ws_ret, ws_raise] at hw
              obtain ⟨tg, iter, ifs, rfl, hcc⟩ := inv_comp h2
              refine wpAny_bind ?_
              show wpAny (model prog w) A (comprehension (.ListComp elt [⟨tg, iter, ifs, 0⟩] csc cp) csc env iter.pos (newList []) false (eval iter env) (some (assign (.Name y p) env)) >>= fun _ => pure ()) _ E s
              refine wpAny_bind (wpAny_mono (Q := fun _ s'' => QQ .next s'') ?_ (fun _ s'' h => wpAny_pure (wpAny_pure h)) fun _ _ h => h)
              have fin : ∀ v φ' H' s', Q .next (m.set i (some v)) H' → Step (own env) φ φ' s s' → Rel base φ' H' s'.heap → EnvR base φ' sc env Γ (m.set i (some v)) s'.heap → QQ .next s' :=
                fun v φ' H' s' hq st R' W' => K .next .next _ φ' H' s' hq st R' W' rfl
              obtain ⟨xs, q1, ⟨hok, hownc, hall⟩, ⟨a, b, ex, q2, hz, hlen, rfl, hex, _, rfl⟩ | ⟨ix, cx, ex, q2, hlen, hit, h3, h4, rfl⟩⟩ := cComp_cases hcc
              · exact hZ hz sc csc Γ env elt iter tg xs cp _ a b ex _ q1 q2 hok hownc hall hlen hex (fun e' _ z hz => E1 hz) (fun cenv => (soundE G hh hu hC hR hZ _ elt (Nat.lt_succ_self _) csc xs.reverse cenv ex hex).1) m φ H s _ _ E R W hw (comp_some hown h1 R W fin)
              · obtain ⟨z, rfl⟩ := List.length_eq_one_iff.mp hlen
                obtain ⟨px, rfl⟩ := tgts_one q1
                exact comp_core G hh q2 (okIt_ne hit) hok hownc (hall z (.head _)) h3 h4 (fun e' _ z hz => E1 hz) (fun cenv => (soundE G hh hu hC hR hZ _ elt (Nat.lt_succ_self _) csc _ cenv ex h4).1)
                  (fun cenv e he z hz => (soundE G hh hu hC hR hZ _ e (Nat.lt_succ_self _) csc _ cenv z hz).2) R W hw (comp_some hown h1 R W fin)
          · refine ss_assign hown h1 (E1 h2) ?_
            refine cE_elim (M := fun v _ => (¬∃ elt gens csc cp, v = .ListComp elt gens csc cp) → swapsWith v (some (.Name y p)) pos.line env = pure false) (by intros; rfl) (by intros; rfl) (by intros; rfl) (by intros; rfl) (by intros; rfl) (by intros; rfl) (by intros; rfl) (by intros; rfl) (by intros; rfl) (by intros; rfl) (by intros; rfl) (by intros; rfl) ?_ v _ h2 hlc
            intro elt tg iter ifs csc p x _ hlc
            exact absurd ⟨_, _, _, _, rfl⟩ hlc
        | none =>
          rw [hn] at hd
          cases hs : subOf t with
          | some oi =>
            rw [hs] at hd
            obtain ⟨o, i⟩ := oi
            obtain ⟨p, rfl⟩ := subOf_eq hs
            obtain ⟨e, a, j, g1, g2, g3, hd⟩ := opt3_some hd
            cases hd
            refine ss_setItem (E1 g1) (E1 g2) (E1 g3) ?_
            cases v <;> rfl
          | none =>
            rw [hs] at hd
            obtain ⟨⟨y, z⟩, hp, hd⟩ := Option.bind_eq_some_iff.mp hd
            obtain ⟨p, q, k, p', rfl⟩ := pairOf_eq hp
            obtain ⟨hcond, hd⟩ := if_some hd
            simp only [Bool.and_eq_true, Bool.not_eq_true', beq_eq_false_iff_ne, ne_eq] at hcond
            obtain ⟨⟨⟨h1, h2⟩, h3⟩, h4⟩ := hcond
            obtain ⟨i, j, e, g1, g2, g3, hd⟩ := opt3_some hd
            cases hd
            exact ss_unpack hh h1 h2 h3 g1 g2 h4 (E1 g3)
      · -- Expr
        intro e0 pos x hc hN
        unfold cExpr at hc
        obtain ⟨⟨fe, args, cp⟩, he0, hd⟩ := Option.bind_eq_some_iff.mp hc
        clear hc
        have he0 := callOf_eq he0
        subst he0
        cases ha : attrOf fe with
        | some am =>
          rw [ha] at hd
          obtain ⟨o, mth, ap⟩ := am
          have ha := attrOf_eq ha
          subst ha
          obtain ⟨g, hg, hd2⟩ := Option.bind_eq_some_iff.mp hd
          clear hd
          have hg := one_eq hg
          subst hg
          obtain ⟨hcond, hd⟩ := if_some hd2
          clear hd2
          simp only [Bool.and_eq_true, beq_iff_eq] at hcond
          obtain ⟨⟨h1, h2⟩, h3⟩ := hcond
          subst h1
          obtain ⟨a, e, g1, g2, hd⟩ := opt2_some hd
          cases hd
          exact ss_append (by simpa using h2) h3 g2 (E1 g1) (E1 g2)
        | none =>
          rw [ha] at hd
          obtain ⟨f, hf, hd⟩ := Option.bind_eq_some_iff.mp hd
          obtain ⟨fp, rfl⟩ := nameOf_eq hf
          simp only [Option.map_eq_some_iff] at hd
          obtain ⟨e, he, rfl⟩ := hd
          exact ss_expr (E1 he)
      · intro t b c pos t' b' c' g1 g2 g3 hN
        exact ss_if (E2 g1) (IHs b (by simp at hN; lia) b' g2) (IHs c (by simp at hN; lia) c' g3)
      · intro t b pos t' b' g1 g2 hN
        exact ss_while (E2 g1) (IHs b (by simp at hN; lia) b' g2)
      · intro tg iter b pos xs ix b' is g1 g2 g3 hcond g4 hN
        simp only [Bool.and_eq_true, List.all_eq_true] at hcond
        exact ss_for G hh g1 g4 hcond.1 hcond.2 g2 (fun e' _ y hy => E1 hy) (IHs b (by simp at hN; lia) b' g3)
      · intro e pos e' g1 hN
        exact ss_ret (E1 g1)
      · intro a b pos hN m φ H s Q QQ E R W hw K
        simp only [ws_assign, ws_unpack, ws_setItem, ws_append, ws_expr, ws_ite, ws_loop, ws_each, ws_ret, ws_raise] at hw
    · cases sts with
      | nil => rw [cSs_nil] at hc; cases hc; exact sss_nil
      | cons st r =>
        obtain ⟨a, as, g1, g2, rfl⟩ := cSs_cons hc
        exact sss_cons (IH st (by simp at hN; lia) a g1) (IHs r (by simp at hN; lia) as g2)
end
end Mine

open PySem
namespace Mine

theorem slot_at : ∀ {Γ : List Str}, Γ.Nodup → ∀ {i : Nat} {x : Str}, Γ.reverse[i]? = some x → slot Γ x = some i
  | [], _, _, _, e => by simp at e
  | z :: r, N, i, x, e => by
    obtain ⟨hz, hr⟩ := List.nodup_cons.mp N
    rw [List.reverse_cons] at e
    unfold slot
    rcases Nat.lt_or_ge i r.length with q | q
    · rw [List.getElem?_append_left (by simpa using q)] at e
      have hx : x ∈ r := List.mem_reverse.mp (List.mem_of_getElem? e)
      have : (z == x) = false := by
        rw [beq_eq_false_iff_ne]; intro h; exact hz (h ▸ hx)
      rw [this]
      simpa using slot_at hr e
    · rw [List.getElem?_append_right (by simpa using q)] at e
      simp only [List.length_reverse] at e
      have hi : i = r.length := by
        rcases Nat.lt_or_ge r.length i with y | y
        · rw [List.getElem?_eq_none (by simp; lia)] at e; cases e
        · lia
      subst hi
      simp at e
      simp [e]

noncomputable def putAll : Nat → List V → Loc → Loc
  | _, [], m => m
  | k, v :: r, m => putAll (k + 1) r (m.set k (some v))

theorem putAll_eq : ∀ (vs : List V) (pre : Loc) (n : Nat), vs.length ≤ n → putAll pre.length vs (pre ++ List.replicate n none) = pre ++ vs.map some ++ List.replicate (n - vs.length) none
  | [], pre, n, _ => by simp [putAll]
  | v :: r, pre, 0, h => by simp at h
  | v :: r, pre, n + 1, h => by
    have e : (pre ++ List.replicate (n + 1) none).set pre.length (some v) = (pre ++ [some v]) ++ List.replicate n none := by
      rw [List.replicate_succ, List.set_append_right _ _ (Nat.le_refl _)]; simp
    have ih := putAll_eq r (pre ++ [some v]) n (by simp at h; lia)
    rw [putAll, e]
    rw [show pre.length + 1 = (pre ++ [some v]).length by simp, ih]
    simp [List.append_assoc]

section
variable {prog : Program} {w : World} {base : Heap} {D : Tabs} {T : Nat → Option Fn} {mg mb : Str → Option Value} {A : Around}

theorem own_is {sc : Scope} {x : Str} (hok : okScope sc = true) (h : x ∈ ownNames sc) : isOwn sc x = true := by
  unfold ownNames at h
  rw [List.mem_reverse, List.mem_map] at h
  obtain ⟨p, hp, rfl⟩ := h
  rw [List.mem_filter] at hp
  have := okScope_once hok hp.1
  unfold isOwn
  rw [this]
  rcases p with ⟨n, k⟩
  cases k <;> simp at hp ⊢

/-- the parameters are stored -/
theorem bind_params {M : Model} {sc : Scope} {Γ : List Str} {env : Env} {E : Value → Shared → Prop} (f : Str × Value → PUnit → Sem (ForInStep PUnit)) (hf : ∀ n v u, f (n, v) u = (do storeName env n v; pure (.yield ⟨⟩))) :
    ∀ (ps : List Str) (vs : List V) (ws : List Value) (k : Nat) (m : Loc) (φ : List Addr) (H : Hp) (s : Shared) (Q : PUnit → Shared → Prop), (∀ i x, ps[i]? = some x → slot Γ x = some (k + i) ∧ isOwn sc x = true) → ps.length = vs.length → Rel base φ H s.heap → EnvR base φ sc env Γ m s.heap → RepL base φ s.heap vs ws →
      (∀ s', Step (own env) φ φ s s' → Rel base φ H s'.heap → EnvR base φ sc env Γ (putAll k vs m) s'.heap → Q ⟨⟩ s') → wpAny M A (forIn (ps.zip ws) ⟨⟩ f) Q E s
  | [], [], ws, k, m, φ, H, s, Q, _, _, R, W, _, h => by
    rw [List.zip_nil_left, List.forIn_nil]
    exact wpAny_pure (h s (Step.refl _ _ _) R W)
  | p :: ps, v :: vs, ws, k, m, φ, H, s, Q, hs, hl, R, W, ⟨y, r, e, hv, hr⟩, h => by
    subst e
    rw [List.zip_cons_cons, List.forIn_cons, hf]
    obtain ⟨h1, h2⟩ := hs 0 p rfl
    refine wpAny_bind (wpAny_bind (W.store R h2 h1 hv fun s' a ha st kp R' W' => wpAny_pure ?_))
    have nt : ∀ o, s.heap.get? a = some o → ¬ TupObj o := fun o e => by
      rcases ha with rfl | ⟨_, h2⟩
      · obtain ⟨mm, hn, _⟩ := W.ns; exact ns_not_tup hn o e
      · obtain ⟨_, v', hv'⟩ := W.cellat _ (mem_of_lookup h2); exact cell_not_tup hv' o e
    refine bind_params f hf ps vs r (k + 1) _ φ H s' Q (fun i x e => ?_) (by simpa using hl) R' W' (RepL.mono (List.prefix_refl _) (fun c o e c' => kp c o (fun q => nt o (q ▸ e) c') e) _ _ hr) fun s'' st' R'' W'' => ?_
    · have := hs (i + 1) x (by simpa using e)
      rw [show k + 1 + i = k + (i + 1) by lia]; exact this
    · exact h s'' ((st.weaken fun b hb => by simp only [List.mem_singleton] at hb; subst hb; exact own_of ha).trans st') R'' W''
  | [], _ :: _, _, _, _, _, _, _, _, _, hl, _, _, _, _ => by simp at hl
  | _ :: _, [], _, _, _, _, _, _, _, _, hl, _, _, _, _ => by simp at hl

/-- the frame of a call -/
theorem fn_env {M : Model} {E : Value → Shared → Prop} {s : Shared} {φ : List Addr} {H : Hp} {sc : Scope} {ps : List Str} {vs : List V} {ws : List Value} {qual : Str} {a : Addr} {code : Value} {Q : Env → Shared → Prop}
    (hok : okScope sc = true) (hnf : ∀ p ∈ sc.names, p.2 ≠ .free) (hnd : (ownNames sc).Nodup) (hps : (ownNames sc).reverse.take ps.length = ps) (hl : ps.length = vs.length) (hle : vs.length ≤ (ownNames sc).length) (R : Rel base φ H s.heap) (rv : RepL base φ s.heap vs ws)
    (h : ∀ env s', Step [] φ φ s s' → (∀ b ∈ own env, s.heap.get? b = none) → Rel base φ H s'.heap →
      EnvR base φ sc env (ownNames sc) (vs.map some ++ List.replicate ((ownNames sc).length - vs.length) none) s'.heap → Q env s') :
    wpAny M A (newFunctionEnv sc mainGlobals [] (ps.zip ws) qual (some a) code none builtinsNs) Q E s := by
  simp only [newFunctionEnv, Option.isSome_none, Bool.false_eq_true, if_false]
  refine wpAny_bind (wpAny_alloc ?_)
  refine wpAny_bind (wpAny_layCells _ (fun name kind cells => by cases hkc : kind == NameKind.cell <;> simp [hkc]) _ _ _ _ ?_)
  have ok := cellsFrom_ok sc.names (s.heap.push { cls := .type "frame", data := .dict #[] }) (s.heap.objs.size + 1) [] ⟨fun _ _ hm => (nomatch hm), List.Pairwise.nil⟩ (by rw [Heap.size_push]; exact Nat.le_refl _)
  rw [Heap.size_push] at ok
  rw [show ({ s with heap := s.heap.push { cls := .type "frame", data := .dict #[] } } : Shared).heap.objs.size = s.heap.objs.size + 1 from Heap.size_push ..]
  have kp : ∀ b o, s.heap.get? b = some o → (pushCells (s.heap.push { cls := .type "frame", data := .dict #[] }) sc.names).get? b = some o := fun b o e => pushCells_keeps _ _ _ _ (Heap.get?_push_of_some _ e)
  have R' : Rel base φ H (pushCells (s.heap.push { cls := .type "frame", data := .dict #[] }) sc.names) := R.grow kp
  have hn : (pushCells (s.heap.push { cls := .type "frame", data := .dict #[] }) sc.names).Ns s.heap.objs.size fun _ => none := (Heap.Ns.new s.heap (.type "frame")).keeps (pushCells_keeps _ _)
  have big : ∀ b : Addr, s.heap.objs.size ≤ b → base.get? b = none := fun b hb => by
    cases q : base.get? b with
    | none => rfl
    | some o => have := Heap.lt_size (R.keep b o q); exact absurd this (Nat.not_lt.mpr hb)
  have W' : EnvR base φ sc (newEnv sc s.heap.objs.size mainGlobals (cellsFrom (s.heap.objs.size + 1) sc.names []) qual (some a) code none builtinsNs) (ownNames sc) (List.replicate (ownNames sc).length none)
      (pushCells (s.heap.push { cls := .type "frame", data := .dict #[] }) sc.names) := by
    have no : ∀ {i : Nat} {v : V}, (List.replicate (ownNames sc).length (none : Option V))[i]? ≠ some (some v) := fun {i v} e => by
      rw [List.getElem?_replicate] at e
      split at e <;> simp at e
    refine ⟨okScope_kind (sc := sc) hok, rfl, rfl, by simp, fun x => ?_, big _ (Nat.le_refl _), ⟨_, hn, fun x i v _ h2 _ => absurd h2 no⟩, fun p hp => ?_, fun x i v _ h2 _ => absurd h2 no, fun x y c hx hy => ?_, fun x hx => ?_⟩
    · show KindOk (sc.names.lookup x) (sc.names.lookup x)
      cases q : sc.names.lookup x with
      | none => trivial
      | some k => cases k <;> simp [KindOk]
    · have := ok.empty p.1 p.2 hp
      exact ⟨big _ (by have := this.2; lia), none, this.1⟩
    · exact name_of_addr ok.apart (mem_of_lookup hx) (mem_of_lookup hy)
    · have hc : sc.names.lookup x = some .cell := by
        rcases hx with q | q
        · exact q
        · exact absurd rfl (hnf (x, .free) (mem_lookupK q))
      obtain ⟨c, hc'⟩ := cellsFrom_has sc.names (s.heap.objs.size + 1) x (mem_lookupK hc)
      exact lookup_some_of_mem hc'
  refine wpAny_bind (bind_params (env := newEnv sc s.heap.objs.size mainGlobals (cellsFrom (s.heap.objs.size + 1) sc.names []) qual (some a) code none builtinsNs) _ (fun _ _ _ => rfl) ps vs ws 0 _ φ H
    { s with heap := pushCells (s.heap.push { cls := .type "frame", data := .dict #[] }) sc.names } _ (fun i x e => ?_) hl R' W' (RepL.mono (List.prefix_refl _) (fun c o e _ => kp c o e) _ _ rv) fun s' st R'' W'' => wpAny_pure ?_)
  · have hx : (ownNames sc).reverse[i]? = some x := by
      rw [← hps] at e
      rw [List.getElem?_take] at e
      split at e
      · exact e
      · cases e
    refine ⟨by simpa using slot_at hnd hx, own_is hok (List.mem_reverse.mp (List.mem_of_getElem? hx))⟩
  · have hown : ∀ b ∈ own (newEnv sc s.heap.objs.size mainGlobals (cellsFrom (s.heap.objs.size + 1) sc.names []) qual (some a) code none builtinsNs), s.heap.get? b = none := fun b hb => by
      rcases List.mem_cons.mp hb with rfl | hb
      · exact get_size _
      · obtain ⟨p, hp, rfl⟩ := List.mem_map.mp hb
        have := (ok.empty p.1 p.2 hp).2
        exact get_ge _ (by lia)
    have e := putAll_eq vs [] (ownNames sc).length hle
    simp only [List.length_nil, List.nil_append] at e
    rw [e] at W''
    refine h _ s' ⟨List.prefix_refl _, fun _ h h' => absurd h h', fun x o e hx _ => ?_, fun x e => ?_, ?_⟩ hown R'' W''
    · exact st.evo x o (kp x o e) hx (fun q => by rw [hown x q] at e; cases e)
    · obtain ⟨o, ho⟩ := Option.isSome_iff_exists.mp e
      exact st.live x (by show ((pushCells _ _).get? x).isSome; rw [kp x o ho]; rfl)
    · obtain ⟨h', tk, e'⟩ := st.same
      exact ⟨h', tk, by rw [e']⟩

noncomputable def Room (n : Nat) (A : Around) : Prop := A.handled = none ∧ A.depth + n < 900 ∧ A.units + 8 * n + 100 < cLine

theorem Room.deeper {n : Nat} (h : Room (n + 1) A) (env : Env) : Room n (A.deeper env) := by
  obtain ⟨h1, h2, h3⟩ := h
  exact ⟨h1, by show A.depth + 1 + n < 900; lia, by show A.units + 3 + 8 * n + 100 < cLine; lia⟩

/-- the calls are sound to every depth -/
theorem soundC (G : Ground base D T mg mb) (hR : ∀ A, A.handled = none → D.revs = true → RevSound prog w base A) (hZ : ∀ C A, A.handled = none → D.zips = true → ZipSound prog w base D C A) :
    ∀ (n : Nat) (A : Around), Room n A → SoundC prog w base D T (run T n) A
  | 0, _, _ => fun _ _ _ _ _ _ _ _ _ _ _ _ _ _ _ _ _ _ hc _ => hc.elim
  | n + 1, A, hA => fun k a o fd body d params vs ws H P φ s Q E hF R rv hc K => by
    simp only [run, hF.tab] at hc
    obtain ⟨hp, hle, hw⟩ := hc
    have hcf := hF.comp
    unfold cFn at hcf
    split at hcf
    · rename_i hcond
      simp only [Bool.and_eq_true, Bool.not_eq_true', beq_iff_eq, List.all_eq_true, decide_eq_true_eq, bne_iff_ne, ne_eq] at hcond
      obtain ⟨⟨⟨⟨⟨hok, hgen⟩, hco⟩, hps⟩, hnf⟩, hnd⟩ := hcond
      simp only [Option.map_eq_some_iff] at hcf
      obtain ⟨b, hb, rfl⟩ := hcf
      dsimp only at hp hle hw
      have hlen := rv.length
      refine wpAny_call (codeAny_call_function (fd := fd) (body := body) (by have := hA.2.1; unfold recursionLimit; lia) (R.keep _ _ hF.obj) hF.dat hco hgen hF.bod (hF.code.keeps R.keep) ?_)
      rw [hF.bind ws (by rw [hlen, hp]), hF.glob, hF.clos, hF.blt]
      refine wpAny_pure (fn_env hok hnf hnd hps (by rw [hp]) (by rw [hp]; exact hle) R rv fun env s' st hown R' W' => ?_)
      refine ⟨(G.nolim.keeps R'.keep), codeAny_func ?_⟩
      have hA' := hA.deeper env
      have hS := (soundS (C := run T n) (A := A.deeper env) G hA'.1 (by have := hA'.2.2; lia) (soundC G hR hZ n _ hA') (hR _ hA'.1) (hZ _ _ hA'.1) fd.scope (ownNames fd.scope) env _).2 body (Nat.lt_succ_self _) b hb
      refine hS _ φ H s' _ _ _ R' W' (by simpa [entry, hp] using hw) fun fl f m' φ' H' s'' hq st' R'' W'' hf => ?_
      have stt : Step [] φ φ' s s'' := by
        refine ⟨st'.pre, fun x hx hx' => ?_, fun x o' e hx _ => ?_, fun x e => st'.live x (st.live x e), ?_⟩
        · exact old_none st (st'.new x hx hx')
        · exact st'.evo x o' (st.evo x o' e hx (by simp)) hx (fun q => by rw [hown x q] at e; cases e)
        · obtain ⟨h1, t1, e1⟩ := st.same
          obtain ⟨h2, t2, e2⟩ := st'.same
          exact ⟨h2, t2, by rw [e2, e1]⟩
      cases fl with
      | next =>
        rw [show f = .next from hf]
        exact K .none .none φ' H' s'' hq stt R'' rfl
      | ret v =>
        obtain ⟨x, rfl, r⟩ := hf
        exact K v x φ' H' s'' hq stt R'' r
    · cases hcf
end
end Mine

open PySem
namespace Mine

theorem filterMap_ext {α β : Type} {f g : α → Option β} : ∀ {l : List α}, (∀ x ∈ l, f x = g x) → l.filterMap f = l.filterMap g
  | [], _ => rfl
  | a :: r, h => by
    rw [List.filterMap_cons, List.filterMap_cons, h a (.head _), filterMap_ext fun x hx => h x (.tail _ hx)]

theorem lookups {α : Type} : ∀ (names : List Str) (vs : List α), names.Nodup → vs.length = names.length → (names.filterMap fun n => ((names.zip vs).lookup n).map (n, ·)) = names.zip vs
  | [], _, _, _ => rfl
  | n :: r, [], _, h => by simp at h
  | n :: r, v :: vs, hn, h => by
    obtain ⟨h1, h2⟩ := List.nodup_cons.mp hn
    rw [List.zip_cons_cons, List.filterMap_cons]
    simp only [List.lookup_cons, beq_self_eq_true, Option.map_some]
    congr 1
    refine Eq.trans (filterMap_ext fun x hx => ?_) (lookups r vs h2 (by simpa using h))
    have : (x == n) = false := by rw [beq_eq_false_iff_ne]; intro q; exact h1 (q ▸ hx)
    rw [this]

theorem lookup_zip_some {α : Type} : ∀ (names : List Str) (vs : List α), vs.length = names.length → ∀ x ∈ names, ((names.zip vs).lookup x).isNone = false
  | [], _, _, x, hx => by cases hx
  | n :: r, [], h, _, _ => by simp at h
  | n :: r, v :: vs, h, x, hx => by
    rw [List.zip_cons_cons, List.lookup_cons]
    cases q : x == n with
    | true => rfl
    | false =>
      rcases List.mem_cons.mp hx with rfl | hx
      · simp at q
      · exact lookup_zip_some r vs (by simpa using h) x hx

noncomputable def plainFd (fd : FuncData) : Bool :=
  fd.params.posonlyargs.isEmpty && fd.params.vararg.isNone && fd.params.kwonlyargs.isEmpty && fd.params.kwarg.isNone && (match fd.defaults with | .none => true | _ => false) && decide ((fd.params.args.map (·.arg)).Nodup)

theorem bind_plain {fd : FuncData} (h : plainFd fd = true) (vs : List Value) (hl : vs.length = (fd.params.args.map (·.arg)).length) : bindArgs fd ⟨vs, []⟩ = pure ((fd.params.args.map (·.arg)).zip vs) := by
  unfold plainFd at h
  simp only [Bool.and_eq_true, List.isEmpty_iff, Option.isNone_iff_eq_none, decide_eq_true_eq] at h
  obtain ⟨⟨⟨⟨⟨h1, h2⟩, h3⟩, h4⟩, h5⟩, h6⟩ := h
  have h5' : fd.defaults = .none := by
    split at h5
    · assumption
    · cases h5
  unfold bindArgs
  simp only [h1, h2, h3, h4, h5', List.map_nil, List.nil_append, List.forIn_nil, seqItems?]
  generalize fd.params.args.map (·.arg) = N at hl h6 ⊢
  have pb : ∀ {α β : Type} (a : α) (f : α → Sem β), (pure a >>= f : Sem β) = f a := fun _ _ => rfl
  have na : (notAStandIn Value.none : Sem PUnit) = pure ⟨⟩ := rfl
  have hm : (N.filter fun n => ((N.zip vs).lookup n).isNone) = [] := by
    rw [List.filter_eq_nil_iff]
    intro x hx
    rw [lookup_zip_some _ _ hl x hx]; simp
  have hq : ¬ (vs.length > N.length) := by lia
  have e := lookups N vs h6 hl
  simp only [na, pb, hq, decide_false, Bool.false_and, Bool.false_eq_true, if_false, Option.getD_none, List.length_nil, List.drop_nil, Nat.sub_zero, List.take_length, hm, List.isEmpty_nil, Bool.not_true, List.drop_length, List.zip_nil_left, List.forIn_nil, List.append_nil, e]

end Mine

open PySem PySem.W
namespace Mine

/-- a function's compiled form, read off the text's defs -/
noncomputable def fnIn (rs : List DefRec) (D : Tabs) (f : Str) : Option Fn := (rs.find? fun d => d.name == f).bind fun d =>
  if plainFd (Calls.docDef d.name d.params d.body d.scope .none .none .none) then cFn D d.scope (d.params.args.map (·.arg)) d.body else none

noncomputable def fnsOk (rs : List DefRec) (D : Tabs) : List (Str × Nat) → List (Option Fn)
  | [] => []
  | p :: r => fnIn rs D p.1 :: fnsOk rs D r

noncomputable def isInt? : Option PyData → Option Int
  | some (.int i) => some i
  | _ => none
theorem isInt_eq {o : Option PyData} {i : Int} (h : isInt? o = some i) : o = some (.int i) := by
  cases o with
  | none => cases h
  | some d => cases d <;> first | (cases h; rfl) | cases h

theorem lookup_find {α : Type} : ∀ {l : List (Str × α)} {x : Str} {k : α}, l.lookup x = some k → (x, k) ∈ l
  | [], _, _, h => by cases h
  | (y, j) :: r, x, k, h => by
    rw [List.lookup_cons] at h
    cases q : x == y with
    | true =>
      rw [q] at h
      have := beq_iff_eq.mp q
      subst this
      cases h; exact .head _
    | false =>
      rw [q] at h
      exact .tail _ (lookup_find h)

theorem fnsOk_at {K : List DefRec} {D : Tabs} {T : Nat → Option Fn} : ∀ {l : List (Str × Nat)}, fnsOk K D l = l.map (fun p => T p.2) → ∀ {p : Str × Nat}, p ∈ l → fnIn K D p.1 = T p.2
  | [], _, _, h => by cases h
  | q :: r, e, p, h => by
    simp only [fnsOk, List.map_cons, List.cons.injEq] at e
    rcases List.mem_cons.mp h with rfl | h
    · exact e.1
    · exact fnsOk_at e.2 h

theorem fnAt_of {p : Program} {loose : List Str} {mean : ExcName → Option Value} {base : Heap} {mg mb : Str → Option Value} {D : Tabs} {T : Nat → Option Fn} {f : Str} {k : Nat} {d : Fn} (X : PyProof.Rows.Top p loose mean mg mb base) (h : fnIn (PyProof.Rows.recsOf p) D f = some d) (hT : T k = some d) :
    ∃ a o fd body d params, mg f = some (.ref a) ∧ FnAt base D T a k o fd body d params := by
  obtain ⟨r, hr, h⟩ := Option.bind_eq_some_iff.mp h
  obtain ⟨hp, h⟩ := if_some h
  obtain ⟨a, o, pm, code, doc, h1, h2, h3, h4⟩ := X.fn r (List.mem_of_find?_eq_some hr)
  have hn : r.name = f := by simpa using List.find?_some hr
  rw [hn] at h1
  exact ⟨a, o, _, r.body, d, _, h1, ⟨h2, h3, rfl, h4, rfl, rfl, rfl, hT, h, fun vs hl => bind_plain (fd := Calls.docDef r.name r.params r.body r.scope pm code doc) hp vs hl⟩⟩

/-- the ground, from the top of the text -/
theorem ground_of {p : Program} {loose : List Str} {mean : ExcName → Option Value} {base : Heap} {mg mb : Str → Option Value} {D : Tabs} {T : Nat → Option Fn} (X : PyProof.Rows.Top p loose mean mg mb base)
    (h1 : fnsOk (PyProof.Rows.recsOf p) D D.fids = D.fids.map (fun p => T p.2)) (h2 : D.fids.all (fun p => (T p.2).isSome) = true) (h3 : D.consts.all (fun q => isInt? (PyProof.Rows.valOf p q.1) == some q.2) = true)
    (h4 : biTab.all (fun q => !(startupNames ++ (loose ++ ((PyProof.Rows.recsOf p).map (·.name) ++ ((PyProof.Rows.litsOf p).map (·.1) ++ (PyProof.Rows.clssOf p loose).map (·.name))))).contains q.1) = true) : Ground base D T mg mb := by
  refine ⟨X.g, X.b, X.nolimit, fun x i hx => ?_, fun p hp => ?_, fun f k hf => ?_⟩
  · obtain ⟨v, hv, r⟩ := X.const x _ (isInt_eq (beq_iff_eq.mp (List.all_eq_true.mp h3 _ (lookup_find hx))))
    obtain ⟨t, rfl, _⟩ := PyProof.Rows.reads_int_inv (r base)
    exact ⟨t, hv⟩
  · refine ⟨?_, ?_⟩
    · have := List.all_eq_true.mp h4 _ hp
      simp only [Bool.not_eq_true', List.contains_eq_mem, decide_eq_false_iff_not, List.mem_append, not_or] at this
      exact X.free _ this.1 this.2.1 this.2.2.1 this.2.2.2.1 this.2.2.2.2
    · have hbt : ∀ p ∈ biTab, p.1 ≠ "__name__" ∧ bootBuiltins p.1 = some p.2 := by
        intro p hp
        simp only [biTab, List.mem_cons, List.not_mem_nil, or_false] at hp
        rcases hp with h | h | h | h | h | h | h | h | h | h | h | h | h | h | h | h <;> subst h <;> exact ⟨by decide, by rfl⟩
      rw [X.builtins _ (hbt p hp).1, (hbt p hp).2]
  · have hm := lookup_find hf
    have e := fnsOk_at h1 hm
    obtain ⟨d, hd⟩ := Option.isSome_iff_exists.mp (List.all_eq_true.mp h2 _ hm)
    rw [hd] at e
    exact fnAt_of X e hd

theorem fnAt_mg {base : Heap} {mg mb : Str → Option Value} {D : Tabs} {T : Nat → Option Fn} (G : Ground base D T mg mb) {f : Str} {k : Nat} (hf : D.fids.lookup f = some k) {a : Addr} (hm : mg f = some (.ref a)) : ∃ o fd body d params, FnAt base D T a k o fd body d params := by
  obtain ⟨a', o, fd, body, d, params, h1, h2⟩ := G.fn f k hf
  rw [hm] at h1
  cases h1
  exact ⟨o, fd, body, d, params, h2⟩

/-- the whole: the law's function is called and answers True -/
theorem at_top {prog : Program} {w : World} {c : ClaimW} {cl : Str → Option Addr} {mean : ExcName → Option Value} {args : List WData} {s₁ : Shared} {mg mb : Str → Option Value} {D : Tabs} {T : Nat → Option Fn}
    (G : Ground s₁.heap D T mg mb) (hR : ∀ A, A.handled = none → D.revs = true → RevSound prog w s₁.heap A) (hZ : ∀ C A, A.handled = none → D.zips = true → ZipSound prog w s₁.heap D C A)
    {f : Str} {k n : Nat} (hf : D.fids.lookup f = some k) {fa : Addr} (hm : mg f = some (.ref fa)) {a : Addr} {vs : List Value} {xs : List Int} (hL : s₁.heap.IsList a vs.toArray) (hI : PyProof.Rows.IntsAre vs xs) (hx : xs.length ≤ 63)
    (hn : n < 100) (hg : s₁.gens = #[]) (hr : ∀ cls, c.raises args cls = false) (hp : c.post args (.bool true) args = true)
    (h : run T n k [.frz xs] [] fun v _ => v = .bool true) :
    wpAny (model prog w) callerA ((fun f vs => call f vs) (Value.ref fa) [Value.ref a]) (fun v s' => GoodWG c cl mean args s₁ (.ok (.ret v)) s') (fun e s' => GoodWG c cl mean args s₁ (.error e) s') s₁ := by
  obtain ⟨o, fd, body, d, params, hF⟩ := fnAt_mg G hf hm
  have S := soundC (prog := prog) (w := w) G hR hZ n callerA ⟨rfl, by show 1 + claimMargin + n < 900; unfold claimMargin; lia, by show 4 + 8 * n + 100 < cLine; unfold cLine; lia⟩
  refine S k fa o fd body d params [.frz xs] [.ref a] [] _ [] s₁ _ _ hF ⟨fun _ _ e => e, rfl, List.nodup_nil, fun _ h => by simp at h, fun _ h => by simp at h, fun k a h => by simp at h⟩
    ⟨_, _, rfl, ⟨a, vs, rfl, hL, hI, by unfold room; lia⟩, rfl⟩ h fun v x φ' H' s' hv st R r => ?_
  subst hv
  rw [show x = .bool true from r]
  obtain ⟨h', tk, e⟩ := st.same
  refine GoodW.toG ⟨.inl ⟨_, .bool true, [], rfl, hr, .bool true, hp, fun _ => ⟨List.nodup_nil, fun _ h => by cases h⟩⟩, R.keep, ?_, ?_⟩
  · rw [e]
  · rw [e]; exact hg

end Mine

open PySem
namespace Mine

/-- power: 0=rest 1=many 2=found 3=factor -/
noncomputable def f_power : Fn := ⟨2, 4, [
  .assign 2 (.int 1),
  .assign 3 (.bin .mod (.var 0) (.int 251)),
  .loop (.bin .gt (.var 1) (.int 0)) [
    .ite (.bin .eq (.bin .mod (.var 1) (.int 2)) (.int 1)) [
      .assign 2 (.bin .mod (.bin .mul (.var 2) (.var 3)) (.int 251))] [],
    .assign 3 (.bin .mod (.bin .mul (.var 3) (.var 3)) (.int 251)),
    .assign 1 (.bin .fdiv (.var 1) (.int 2))],
  .ret (.var 2)]⟩
/-- inverse: 0=rest -/
noncomputable def f_inverse : Fn := ⟨1, 1, [
  .ret (.call 0 [(.var 0), (.bin .sub (.int 251) (.int 2))])]⟩
/-- _law_whole: 0=_law_found -/
noncomputable def f_law_whole : Fn := ⟨1, 1, [
  .ret (.and (.un .isInt (.var 0)) (.not (.un .isBool (.var 0))))]⟩
/-- _law_cell_at: 0=_law_script 1=_law_k -/
noncomputable def f_law_cell_at : Fn := ⟨2, 2, [
  .ite (.bin .lt (.var 1) (.un .len (.var 0))) [
    .ret (.bin .item (.var 0) (.var 1))] [],
  .ret (.int 0)]⟩
/-- _law_rests: 0=_law_found 1=_law_due 2=_law_k -/
noncomputable def f_law_rests : Fn := ⟨2, 3, [
  .ite (.or (.not (.un .isList (.var 0))) (.bin .ne (.un .len (.var 0)) (.un .len (.var 1)))) [
    .ret (.bool false)] [],
  .each [2] .range (.int 0) (.un .len (.var 1)) [
    .ite (.or (.not (.call 2 [(.bin .item (.var 0) (.var 2))])) (.bin .ne (.bin .item (.var 0) (.var 2)) (.bin .item (.var 1) (.var 2)))) [
      .ret (.bool false)] []],
  .ret (.bool true)]⟩
/-- value: 0=poly 1=rest 2=found 3=number -/
noncomputable def f_value : Fn := ⟨2, 4, [
  .assign 2 (.int 0),
  .each [3] .rev (.var 0) .none [
    .assign 2 (.bin .mod (.bin .add (.bin .mul (.var 2) (.var 1)) (.var 3)) (.int 251))],
  .ret (.var 2)]⟩
/-- roots: 0=poly -/
noncomputable def f_roots : Fn := ⟨1, 1, [
  .ret (.comp (.var 1) 1 .range (.int 1) (.int 251) (.bin .eq (.call 6 [(.var 0), (.var 1)]) (.int 0)))]⟩
/-- _law_poly: 0=_law_cell 1=_law_most 2=_law_size 3=_law_found 4=_law_k 5=_law_number -/
noncomputable def f_law_poly : Fn := ⟨2, 6, [
  .assign 2 (.bin .mod (.var 0) (.bin .add (.var 1) (.int 1))),
  .assign 0 (.bin .fdiv (.var 0) (.bin .add (.var 1) (.int 1))),
  .assign 3 (.list []),
  .each [4] .range (.int 0) (.var 2) [
    .assign 5 (.bin .mod (.bin .mod (.bin .mul (.bin .add (.var 0) (.bin .mul (.int 7919) (.var 4))) (.int 48271)) (.int 1000003)) (.int 251)),
    .ite (.bin .eq (.bin .mod (.bin .fdiv (.var 0) (.int 7)) (.int 3)) (.int 1)) [
      .assign 5 (.bin .item (.list [(.int 0), (.int 1), (.int 250), (.int 0), (.bin .mod (.bin .fdiv (.var 0) (.int 21)) (.int 251))]) (.bin .mod (.bin .add (.bin .fdiv (.var 0) (.int 21)) (.bin .mul (.var 4) (.var 4))) (.int 5)))] [],
    .append (.var 3) (.var 5)],
  .loop (.and (.bin .ne (.var 3) (.list [])) (.bin .eq (.bin .item (.var 3) (.un .neg (.int 1))) (.int 0))) [
    .assign 3 (.slice (.var 3) .none (.un .neg (.int 1)))],
  .ret (.var 3)]⟩
/-- _law_times: 0=_law_one 1=_law_other 2=_law_found 3=_law_k -/
noncomputable def f_law_times : Fn := ⟨2, 4, [
  .ite (.or (.bin .eq (.var 0) (.list [])) (.bin .eq (.var 1) (.list []))) [
    .ret (.list [])] [],
  .assign 2 (.list []),
  .each [3] .range (.int 0) (.bin .sub (.bin .add (.un .len (.var 0)) (.un .len (.var 1))) (.int 1)) [
    .append (.var 2) (.bin .mod (.un .sum (.comp (.bin .mul (.bin .item (.var 0) (.var 4)) (.bin .item (.var 1) (.bin .sub (.var 3) (.var 4)))) 1 .range (.int 0) (.un .len (.var 0)) (.chain .le .lt (.int 0) (.bin .sub (.var 3) (.var 4)) (.un .len (.var 1))))) (.int 251))],
  .ret (.var 2)]⟩
/-- _law_value: 0=_law_poly_here 1=_law_rest 2=_law_found 3=_law_factor 4=_law_number -/
noncomputable def f_law_value : Fn := ⟨2, 5, [
  .assign 2 (.int 0),
  .assign 3 (.int 1),
  .each [4] .seq (.var 0) .none [
    .assign 2 (.bin .mod (.bin .add (.var 2) (.bin .mul (.var 4) (.var 3))) (.int 251)),
    .assign 3 (.bin .mod (.bin .mul (.var 3) (.var 1)) (.int 251))],
  .ret (.var 2)]⟩
/-- trimmed: 0=numbers 1=size -/
noncomputable def f_trimmed : Fn := ⟨1, 2, [
  .assign 1 (.un .len (.var 0)),
  .loop (.and (.bin .gt (.var 1) (.int 0)) (.bin .eq (.bin .item (.var 0) (.bin .sub (.var 1) (.int 1))) (.int 0))) [
    .assign 1 (.bin .sub (.var 1) (.int 1))],
  .ret (.un .list (.slice (.var 0) .none (.var 1)))]⟩
/-- times: 0=one 1=other 2=found 3=at 4=left 5=beside 6=right -/
noncomputable def f_times : Fn := ⟨2, 7, [
  .assign 2 (.comp (.int 0) 1 .range (.int 0) (.bin .add (.un .len (.var 0)) (.un .len (.var 1))) (.bool true)),
  .each [3, 4] .enum (.var 0) .none [
    .each [5, 6] .enum (.var 1) .none [
      .setItem (.var 2) (.bin .add (.var 3) (.var 5)) (.bin .mod (.bin .add (.bin .item (.var 2) (.bin .add (.var 3) (.var 5))) (.bin .mul (.var 4) (.var 6))) (.int 251))]],
  .ret (.call 13 [(.var 2)])]⟩
/-- divided: 0=one 1=other 2=rest 3=quotient 4=factor 5=at 6=number 7=beside 8=right -/
noncomputable def f_divided : Fn := ⟨2, 9, [
  .assign 2 (.un .list (.var 0)),
  .assign 3 (.comp (.int 0) 1 .range (.int 0) (.bin .max (.int 0) (.bin .add (.bin .sub (.un .len (.var 0)) (.un .len (.var 1))) (.int 1))) (.bool true)),
  .assign 4 (.call 1 [(.bin .item (.var 1) (.un .neg (.int 1)))]),
  .loop (.bin .ge (.un .len (.var 2)) (.un .len (.var 1))) [
    .assign 5 (.bin .sub (.un .len (.var 2)) (.un .len (.var 1))),
    .assign 6 (.bin .mod (.bin .mul (.bin .item (.var 2) (.un .neg (.int 1))) (.var 4)) (.int 251)),
    .setItem (.var 3) (.var 5) (.var 6),
    .each [7, 8] .enum (.var 1) .none [
      .setItem (.var 2) (.bin .add (.var 5) (.var 7)) (.bin .mod (.bin .sub (.bin .item (.var 2) (.bin .add (.var 5) (.var 7))) (.bin .mul (.var 6) (.var 8))) (.int 251))],
    .assign 2 (.call 13 [(.var 2)])],
  .ret (.tup [(.call 13 [(.var 3)]), (.var 2)])]⟩
/-- _law_added: 0=_law_one 1=_law_other 2=_law_found 3=_law_k -/
noncomputable def f_law_added : Fn := ⟨2, 4, [
  .assign 2 (.list []),
  .each [3] .range (.int 0) (.bin .max (.un .len (.var 0)) (.un .len (.var 1))) [
    .append (.var 2) (.bin .mod (.bin .add (.un .sum (.slice (.var 0) (.var 3) (.bin .add (.var 3) (.int 1)))) (.un .sum (.slice (.var 1) (.var 3) (.bin .add (.var 3) (.int 1))))) (.int 251))],
  .loop (.and (.bin .ne (.var 2) (.list [])) (.bin .eq (.bin .item (.var 2) (.un .neg (.int 1))) (.int 0))) [
    .assign 2 (.slice (.var 2) .none (.un .neg (.int 1)))],
  .ret (.var 2)]⟩
/-- _law_is_poly: 0=_law_found 1=_law_number -/
noncomputable def f_law_is_poly : Fn := ⟨1, 2, [
  .ite (.not (.un .isList (.var 0))) [
    .ret (.bool false)] [],
  .each [1] .seq (.var 0) .none [
    .ite (.or (.not (.call 2 [(.var 1)])) (.not (.chain .le .le (.int 0) (.var 1) (.int 250)))) [
      .ret (.bool false)] []],
  .ret (.or (.bin .eq (.var 0) (.list [])) (.bin .ne (.bin .item (.var 0) (.un .neg (.int 1))) (.int 0)))]⟩
/-- is_whole: 0=thing 1=least 2=most -/
noncomputable def f_is_whole : Fn := ⟨3, 3, [
  .ret (.and (.un .isInt (.var 0)) (.and (.not (.un .isBool (.var 0))) (.chain .le .le (.var 1) (.var 0) (.var 2))))]⟩
/-- need_row: 0=row 1=number -/
noncomputable def f_need_row : Fn := ⟨1, 2, [
  .ite (.not (.un .isList (.var 0))) [
    .raise] [],
  .each [1] .seq (.var 0) .none [
    .ite (.not (.call 20 [(.var 1), (.int 1), (.bin .sub (.int 251) (.int 1))])) [
      .raise] []],
  .ite (.bin .ne (.un .nset (.var 0)) (.un .len (.var 0))) [
    .raise] []]⟩
/-- need_count: 0=many -/
noncomputable def f_need_count : Fn := ⟨1, 1, [
  .ite (.not (.call 20 [(.var 0), (.int 1), (.int 12)])) [
    .raise] []]⟩
/-- sums_of: 0=row 1=many -/
noncomputable def f_sums_of : Fn := ⟨2, 2, [
  .ret (.comp (.bin .mod (.un .sum (.comp (.call 0 [(.var 3), (.var 2)]) 1 .seq (.var 0) .none (.bool true))) (.int 251)) 1 .range (.int 1) (.bin .add (.var 1) (.int 1)) (.bool true))]⟩
/-- letter: 0=row 1=many -/
noncomputable def f_letter : Fn := ⟨2, 2, [
  .expr (.call 21 [(.var 0)]),
  .expr (.call 22 [(.var 1)]),
  .ret (.tup [(.un .len (.var 0)), (.un .tuple (.call 23 [(.var 0), (.var 1)]))])]⟩
/-- _law_row: 0=_law_script 1=_law_at 2=_law_most 3=_law_cell 4=_law_step 5=_law_begin 6=_law_found 7=_law_k 8=_law_number -/
noncomputable def f_law_row : Fn := ⟨3, 9, [
  .assign 3 (.call 3 [(.var 0), (.var 1)]),
  .assign 4 (.bin .item (.list [(.int 1), (.int 3), (.int 7), (.int 9), (.int 11), (.int 13), (.int 37), (.int 121), (.int 249), (.int 97)]) (.bin .mod (.bin .fdiv (.var 3) (.bin .add (.var 2) (.int 1))) (.int 10))),
  .assign 5 (.bin .fdiv (.bin .fdiv (.var 3) (.bin .add (.var 2) (.int 1))) (.int 10)),
  .assign 6 (.list []),
  .each [7] .range (.int 0) (.bin .mod (.var 3) (.bin .add (.var 2) (.int 1))) [
    .assign 8 (.bin .add (.int 1) (.bin .mod (.bin .add (.var 5) (.bin .mul (.var 4) (.var 7))) (.int 250))),
    .ite (.bin .eq (.bin .mod (.var 5) (.int 3)) (.int 1)) [
      .assign 8 (.bin .add (.int 1) (.bin .mod (.bin .mod (.bin .mul (.bin .add (.bin .add (.bin .fdiv (.var 5) (.int 3)) (.bin .mul (.bin .mul (.var 7) (.var 7)) (.int 7919))) (.bin .mul (.var 7) (.int 48271))) (.int 69621)) (.int 1000003)) (.int 250)))] [],
    .ite (.bin .eq (.bin .mod (.var 5) (.int 3)) (.int 2)) [
      .assign 8 (.bin .add (.int 1) (.bin .mod (.call 3 [(.var 0), (.bin .add (.bin .add (.int 8) (.bin .mul (.int 20) (.var 1))) (.var 7))]) (.int 250)))] [],
    .ite (.bin .notin (.var 8) (.var 6)) [
      .append (.var 6) (.var 8)] []],
  .ret (.var 6)]⟩
/-- _law_sums: 0=_law_row_here 1=_law_many 2=_law_found 3=_law_k 4=_law_number 5=_law_factor -/
noncomputable def f_law_sums : Fn := ⟨2, 6, [
  .assign 2 (.list []),
  .each [3] .range (.int 0) (.var 1) [
    .append (.var 2) (.int 0)],
  .each [4] .seq (.var 0) .none [
    .assign 5 (.int 1),
    .each [3] .range (.int 0) (.var 1) [
      .assign 5 (.bin .mod (.bin .mul (.var 5) (.var 4)) (.int 251)),
      .setItem (.var 2) (.var 3) (.bin .mod (.bin .add (.bin .item (.var 2) (.var 3)) (.var 5)) (.int 251))]],
  .ret (.var 2)]⟩
/-- need_letter: 0=told 1=rest -/
noncomputable def f_need_letter : Fn := ⟨1, 2, [
  .ite (.or (.not (.un .isTuple (.var 0))) (.or (.bin .ne (.un .len (.var 0)) (.int 2)) (.not (.call 20 [(.bin .item (.var 0) (.int 0)), (.int 0), (.bin .sub (.int 251) (.int 1))])))) [
    .raise] [],
  .ite (.or (.not (.un .isTuple (.bin .item (.var 0) (.int 1)))) (.not (.chain .le .le (.int 1) (.un .len (.bin .item (.var 0) (.int 1))) (.int 12)))) [
    .raise] [],
  .each [1] .seq (.bin .item (.var 0) (.int 1)) .none [
    .ite (.not (.call 20 [(.var 1), (.int 0), (.bin .sub (.int 251) (.int 1))])) [
      .raise] []]]⟩
/-- gaps: 0=row 1=told 2=own -/
noncomputable def f_gaps : Fn := ⟨2, 3, [
  .expr (.call 21 [(.var 0)]),
  .expr (.call 28 [(.var 1)]),
  .assign 2 (.call 23 [(.var 0), (.un .len (.bin .item (.var 1) (.int 1)))]),
  .ret (.tup [(.bin .sub (.bin .item (.var 1) (.int 0)) (.un .len (.var 0))), (.zcomp (.bin .mod (.bin .sub (.var 0) (.var 1)) (.int 251)) (.bin .item (.var 1) (.int 1)) (.var 2))])]⟩
/-- less: 0=one 1=other 2=found 3=at 4=left 5=right -/
noncomputable def f_less : Fn := ⟨2, 6, [
  .assign 2 (.list []),
  .each [3] .range (.int 0) (.bin .max (.un .len (.var 0)) (.un .len (.var 1))) [
    .assign 4 (.ite (.bin .lt (.var 3) (.un .len (.var 0))) (.bin .item (.var 0) (.var 3)) (.int 0)),
    .assign 5 (.ite (.bin .lt (.var 3) (.un .len (.var 1))) (.bin .item (.var 1) (.var 3)) (.int 0)),
    .append (.var 2) (.bin .mod (.bin .sub (.var 4) (.var 5)) (.int 251))],
  .ret (.call 13 [(.var 2)])]⟩
/-- series: 0=sums 1=found 2=k 3=whole 4=i -/
noncomputable def f_series : Fn := ⟨1, 5, [
  .assign 1 (.list [(.int 1)]),
  .each [2] .range (.int 1) (.bin .add (.un .len (.var 0)) (.int 1)) [
    .assign 3 (.int 0),
    .each [4] .range (.int 1) (.bin .add (.var 2) (.int 1)) [
      .assign 3 (.bin .add (.var 3) (.bin .mul (.bin .item (.var 0) (.bin .sub (.var 4) (.int 1))) (.bin .item (.var 1) (.bin .sub (.var 2) (.var 4)))))],
    .append (.var 1) (.bin .mod (.bin .mul (.un .neg (.var 3)) (.call 1 [(.var 2)])) (.int 251))],
  .ret (.var 1)]⟩
/-- fraction: 0=numbers 1=up 2=down 3=size 4=ahead 5=here 6=lower_ahead 7=lower 8=quotient 9=rest 10=more 11=factor -/
noncomputable def f_fraction : Fn := ⟨3, 12, [
  .assign 3 (.bin .add (.bin .add (.var 1) (.var 2)) (.int 1)),
  .assign 4 (.bin .add (.comp (.int 0) 1 .range (.int 0) (.var 3) (.bool true)) (.list [(.int 1)])),
  .assign 5 (.call 13 [(.slice (.var 0) .none (.var 3))]),
  .assign 6 (.list []),
  .assign 7 (.list [(.int 1)]),
  .loop (.bin .gt (.un .len (.var 5)) (.bin .add (.var 1) (.int 1))) [
    .unpack [8, 9] (.call 16 [(.var 4), (.var 5)]),
    .assign 4 (.var 5),
    .assign 5 (.var 9),
    .assign 10 (.call 31 [(.var 6), (.call 14 [(.var 8), (.var 7)])]),
    .assign 6 (.var 7),
    .assign 7 (.var 10)],
  .ite (.or (.bin .eq (.un .len (.var 7)) (.int 0)) (.or (.bin .eq (.bin .item (.var 7) (.int 0)) (.int 0)) (.bin .gt (.un .len (.var 7)) (.bin .add (.var 2) (.int 1))))) [
    .ret .none] [],
  .assign 11 (.call 1 [(.bin .item (.var 7) (.int 0))]),
  .ret (.tup [(.call 14 [(.var 5), (.list [(.var 11)])]), (.call 14 [(.var 7), (.list [(.var 11)])])])]⟩
/-- numbers_of: 0=poly 1=found -/
noncomputable def f_numbers_of : Fn := ⟨1, 2, [
  .assign 1 (.un .sorted (.comp (.call 1 [(.var 2)]) 1 .seq (.call 7 [(.var 0)]) .none (.bool true))),
  .ite (.bin .ne (.un .len (.var 1)) (.bin .sub (.un .len (.var 0)) (.int 1))) [
    .ret .none] [],
  .ret (.var 1)]⟩
/-- is_find: 0=row 1=told 2=lacked 3=over 4=behind -/
noncomputable def f_is_find : Fn := ⟨4, 5, [
  .ite (.bin .gt (.un .len (.comp (.var 5) 1 .seq (.var 2) .none (.bin .isin (.var 5) (.var 0)))) (.int 0)) [
    .ret (.bool false)] [],
  .ite (.or (.bin .gt (.un .len (.comp (.var 5) 1 .seq (.var 3) .none (.bin .notin (.var 5) (.var 0)))) (.int 0)) (.bin .gt (.bin .add (.un .len (.var 2)) (.un .len (.var 3))) (.un .len (.bin .item (.var 1) (.int 1))))) [
    .ret (.bool false)] [],
  .assign 4 (.bin .add (.comp (.var 5) 1 .seq (.var 0) .none (.bin .notin (.var 5) (.var 3))) (.var 2)),
  .ret (.and (.bin .eq (.un .len (.var 4)) (.bin .item (.var 1) (.int 0))) (.bin .eq (.un .tuple (.call 23 [(.var 4), (.un .len (.bin .item (.var 1) (.int 1)))])) (.bin .item (.var 1) (.int 1))))]⟩
/-- learnt: 0=row 1=told 2=more 3=sums 4=size 5=pair 6=lacked 7=over -/
noncomputable def f_learnt : Fn := ⟨2, 8, [
  .expr (.call 21 [(.var 0)]),
  .expr (.call 28 [(.var 1)]),
  .unpack [2, 3] (.call 29 [(.var 0), (.var 1)]),
  .assign 4 (.un .len (.var 3)),
  .ite (.bin .eq (.bin .mod (.bin .sub (.var 4) (.var 2)) (.int 2)) (.int 1)) [
    .assign 4 (.bin .sub (.var 4) (.int 1))] [],
  .ite (.bin .gt (.un .abs (.var 2)) (.var 4)) [
    .ret .none] [],
  .assign 5 (.call 33 [(.call 32 [(.var 3)]), (.bin .fdiv (.bin .add (.var 4) (.var 2)) (.int 2)), (.bin .fdiv (.bin .sub (.var 4) (.var 2)) (.int 2))]),
  .ite (.or (.bin .is_ (.var 5) .none) (.bin .eq (.un .len (.bin .item (.var 5) (.int 0))) (.int 0))) [
    .ret .none] [],
  .assign 6 (.call 34 [(.bin .item (.var 5) (.int 0))]),
  .assign 7 (.call 34 [(.bin .item (.var 5) (.int 1))]),
  .ite (.or (.bin .is_ (.var 6) .none) (.or (.bin .is_ (.var 7) .none) (.not (.call 35 [(.var 0), (.var 1), (.var 6), (.var 7)])))) [
    .ret .none] [],
  .ret (.tup [(.var 6), (.var 7)])]⟩
/-- sound: 0=row 1=lacked 2=over -/
noncomputable def f_sound : Fn := ⟨3, 3, [
  .expr (.call 21 [(.var 0)]),
  .ite (.bin .gt (.un .len (.comp (.var 3) 1 .seq (.var 1) .none (.bin .notin (.var 3) (.var 0)))) (.int 0)) [
    .ret (.bool false)] [],
  .ret (.bin .eq (.un .len (.comp (.var 3) 1 .seq (.var 2) .none (.bin .isin (.var 3) (.var 0)))) (.int 0))]⟩
/-- _law_other: 0=_law_row_here 1=_law_cell 2=_law_many 3=_law_step 4=_law_begin 5=_law_changes 6=_law_k 7=_law_number -/
noncomputable def f_law_other : Fn := ⟨3, 8, [
  .assign 3 (.bin .item (.list [(.int 1), (.int 3), (.int 7), (.int 9), (.int 11), (.int 13), (.int 37), (.int 121), (.int 249), (.int 97)]) (.bin .mod (.var 1) (.int 10))),
  .assign 4 (.bin .fdiv (.var 1) (.int 20)),
  .assign 5 (.list []),
  .each [6] .range (.int 0) (.var 2) [
    .assign 7 (.bin .add (.int 1) (.bin .mod (.bin .add (.var 4) (.bin .mul (.var 3) (.var 6))) (.int 250))),
    .ite (.and (.bin .eq (.bin .mod (.bin .fdiv (.var 1) (.int 10)) (.int 2)) (.int 1)) (.and (.bin .eq (.bin .mod (.var 6) (.int 2)) (.int 1)) (.bin .ne (.var 0) (.list [])))) [
      .assign 7 (.bin .item (.var 0) (.bin .mod (.bin .add (.var 4) (.var 6)) (.un .len (.var 0))))] [],
    .ite (.bin .notin (.var 7) (.var 5)) [
      .append (.var 5) (.var 7)] []],
  .ret (.bin .add (.comp (.var 8) 1 .seq (.var 0) .none (.bin .notin (.var 8) (.var 5))) (.comp (.var 8) 1 .seq (.var 5) .none (.bin .notin (.var 8) (.var 0))))]⟩
/-- _law_is_list: 0=_law_found 1=_law_k -/
noncomputable def f_law_is_list : Fn := ⟨1, 2, [
  .ite (.not (.un .isList (.var 0))) [
    .ret (.bool false)] [],
  .each [1] .range (.int 0) (.un .len (.var 0)) [
    .ite (.or (.not (.call 2 [(.bin .item (.var 0) (.var 1))])) (.or (.not (.chain .le .le (.int 1) (.bin .item (.var 0) (.var 1)) (.int 250))) (.and (.bin .gt (.var 1) (.int 0)) (.bin .ge (.bin .item (.var 0) (.bin .sub (.var 1) (.int 1))) (.bin .item (.var 0) (.var 1)))))) [
      .ret (.bool false)] []],
  .ret (.bool true)]⟩
/-- _law_gap: 0=_law_row_here 1=_law_told 2=_law_own -/
noncomputable def f_law_gap : Fn := ⟨2, 3, [
  .assign 2 (.call 26 [(.var 0), (.un .len (.bin .item (.var 1) (.int 1)))]),
  .ret (.comp (.bin .mod (.bin .sub (.bin .item (.bin .item (.var 1) (.int 1)) (.var 3)) (.bin .item (.var 2) (.var 3))) (.int 251)) 1 .range (.int 0) (.un .len (.var 2)) (.bool true))]⟩
/-- _law_one_does: 0=_law_row_here 1=_law_told 2=_law_gap_here 3=_law_more -/
noncomputable def f_law_one_does : Fn := ⟨2, 4, [
  .assign 2 (.bin .item (.call 57 [(.var 0), (.var 1)]) (.int 0)),
  .assign 3 (.bin .sub (.bin .item (.var 1) (.int 0)) (.un .len (.var 0))),
  .ite (.bin .eq (.var 3) (.int 0)) [
    .ret (.bin .eq (.var 2) (.int 0))] [],
  .ite (.bin .eq (.var 3) (.int 1)) [
    .ret (.bin .ne (.comp (.var 4) 1 .range (.int 1) (.int 251) (.and (.bin .eq (.var 4) (.var 2)) (.bin .notin (.var 4) (.var 0)))) (.list []))] [],
  .ret (.and (.bin .eq (.var 3) (.un .neg (.int 1))) (.bin .ne (.comp (.var 4) 1 .seq (.var 0) .none (.bin .eq (.bin .mod (.bin .sub (.int 0) (.var 4)) (.int 251)) (.var 2))) (.list [])))]⟩
/-- _law_two_do: 0=_law_row_here 1=_law_told 2=_law_gap_here 3=_law_over 4=_law_lacked -/
noncomputable def f_law_two_do : Fn := ⟨2, 5, [
  .assign 2 (.call 57 [(.var 0), (.var 1)]),
  .ite (.bin .eq (.var 2) (.list [(.int 0), (.int 0)])) [
    .ret (.bool true)] [],
  .each [3] .seq (.var 0) .none [
    .assign 4 (.bin .mod (.bin .add (.bin .item (.var 2) (.int 0)) (.var 3)) (.int 251)),
    .ite (.and (.bin .gt (.var 4) (.int 0)) (.and (.bin .notin (.var 4) (.var 0)) (.bin .eq (.bin .mod (.bin .sub (.bin .mul (.var 4) (.var 4)) (.bin .mul (.var 3) (.var 3))) (.int 251)) (.bin .item (.var 2) (.int 1))))) [
      .ret (.bool true)] []],
  .ret (.bool false)]⟩
/-- _law_holds: 0=_law_found 1=_law_row_here 2=_law_told 3=_law_made -/
noncomputable def f_law_holds : Fn := ⟨3, 4, [
  .ite (.or (.not (.un .isTuple (.var 0))) (.or (.bin .ne (.un .len (.var 0)) (.int 2)) (.or (.not (.call 56 [(.bin .item (.var 0) (.int 0))])) (.not (.call 56 [(.bin .item (.var 0) (.int 1))]))))) [
    .ret (.bool false)] [],
  .ite (.or (.bin .gt (.bin .add (.un .len (.bin .item (.var 0) (.int 0))) (.un .len (.bin .item (.var 0) (.int 1)))) (.un .len (.bin .item (.var 2) (.int 1)))) (.bin .ne (.comp (.var 4) 1 .seq (.bin .item (.var 0) (.int 0)) .none (.bin .isin (.var 4) (.var 1))) (.list []))) [
    .ret (.bool false)] [],
  .ite (.bin .ne (.comp (.var 4) 1 .seq (.bin .item (.var 0) (.int 1)) .none (.bin .notin (.var 4) (.var 1))) (.list [])) [
    .ret (.bool false)] [],
  .assign 3 (.bin .add (.comp (.var 4) 1 .seq (.var 1) .none (.bin .notin (.var 4) (.bin .item (.var 0) (.int 1)))) (.bin .item (.var 0) (.int 0))),
  .ret (.and (.bin .eq (.un .len (.var 3)) (.bin .item (.var 2) (.int 0))) (.bin .eq (.un .tuple (.call 26 [(.var 3), (.un .len (.bin .item (.var 2) (.int 1)))])) (.bin .item (.var 2) (.int 1))))]⟩
/-- law: 0=_law_script 1=_law_row_here 2=_law_many 3=_law_other_here 4=_law_told 5=_law_sums_here 6=_law_handed 7=_law_found -/
noncomputable def f_law_10 : Fn := ⟨1, 8, [
  .assign 1 (.call 25 [(.var 0), (.int 0), (.int 12)]),
  .assign 2 (.bin .add (.int 1) (.bin .mod (.call 3 [(.var 0), (.int 1)]) (.int 12))),
  .ite (.bin .eq (.bin .mod (.bin .fdiv (.call 3 [(.var 0), (.int 1)]) (.int 12)) (.int 4)) (.int 1)) [
    .assign 2 (.bin .add (.int 1) (.bin .mod (.call 3 [(.var 0), (.int 1)]) (.int 2)))] [],
  .assign 3 (.call 54 [(.var 1), (.call 3 [(.var 0), (.int 2)]), (.bin .mod (.call 3 [(.var 0), (.int 3)]) (.int 17))]),
  .assign 4 (.tup [(.un .len (.var 3)), (.un .tuple (.call 26 [(.var 3), (.var 2)]))]),
  .ite (.bin .eq (.bin .mod (.bin .fdiv (.call 3 [(.var 0), (.int 1)]) (.int 48)) (.int 3)) (.int 1)) [
    .assign 5 (.comp (.bin .mod (.bin .mod (.bin .mul (.bin .add (.call 3 [(.var 0), (.int 4)]) (.bin .mul (.int 7919) (.var 8))) (.int 48271)) (.int 1000003)) (.int 251)) 1 .range (.int 0) (.var 2) (.bool true)),
    .assign 4 (.tup [(.bin .max (.int 0) (.bin .sub (.bin .add (.un .len (.var 1)) (.bin .mod (.call 3 [(.var 0), (.int 3)]) (.int 7))) (.int 3))), (.un .tuple (.var 5))])] [],
  .assign 6 (.un .list (.var 1)),
  .assign 7 (.call 36 [(.var 6), (.var 4)]),
  .ite (.not (.call 4 [(.var 6), (.var 1)])) [
    .ret (.bool false)] [],
  .ite (.bin .isnot (.var 7) .none) [
    .ret (.call 60 [(.var 7), (.var 1), (.var 4)])] [],
  .ite (.bin .eq (.var 2) (.int 1)) [
    .ret (.not (.call 58 [(.var 1), (.var 4)]))] [],
  .ret (.or (.bin .gt (.var 2) (.int 2)) (.or (.bin .ne (.bin .item (.var 4) (.int 0)) (.un .len (.var 1))) (.not (.call 59 [(.var 1), (.var 4)]))))]⟩
/-- _law_some: 0=_law_row_here 1=_law_cell 2=_law_is_in 3=_law_found 4=_law_odd 5=_law_k 6=_law_number -/
noncomputable def f_law_some : Fn := ⟨3, 7, [
  .assign 3 (.list []),
  .assign 4 (.bin .mod (.bin .fdiv (.var 1) (.int 6)) (.int 8)),
  .each [5] .range (.int 0) (.bin .mod (.var 1) (.int 6)) [
    .assign 6 (.bin .add (.int 1) (.bin .mod (.bin .mod (.bin .mul (.bin .add (.bin .fdiv (.var 1) (.int 48)) (.bin .mul (.int 7919) (.var 5))) (.int 48271)) (.int 1000003)) (.int 250))),
    .ite (.and (.bin .ne (.bin .eq (.var 5) (.var 4)) (.var 2)) (.bin .ne (.var 0) (.list []))) [
      .assign 6 (.bin .item (.var 0) (.bin .mod (.bin .add (.bin .fdiv (.var 1) (.int 48)) (.bin .mul (.int 31) (.var 5))) (.un .len (.var 0))))] [
      .ite (.bin .lt (.un .len (.var 0)) (.int 250)) [
        .loop (.bin .isin (.var 6) (.var 0)) [
          .assign 6 (.bin .add (.int 1) (.bin .mod (.var 6) (.int 250)))]] []],
    .ite (.and (.bin .eq (.bin .mod (.bin .fdiv (.var 1) (.int 48)) (.int 5)) (.int 1)) (.bin .eq (.var 5) (.var 4))) [
      .assign 6 (.bin .item (.list [(.int 0), (.int 251), (.un .neg (.int 1)), (.bin .add (.int 250) (.var 6)), (.bin .sub (.int 0) (.var 6)), (.bin .pow (.int 10) (.int 20))]) (.bin .mod (.bin .fdiv (.var 1) (.int 240)) (.int 6)))] [],
    .append (.var 3) (.var 6)],
  .ret (.var 3)]⟩
noncomputable def T : Nat → Option Fn
  | 0 => some f_power
  | 1 => some f_inverse
  | 2 => some f_law_whole
  | 3 => some f_law_cell_at
  | 4 => some f_law_rests
  | 6 => some f_value
  | 7 => some f_roots
  | 8 => some f_law_poly
  | 9 => some f_law_times
  | 10 => some f_law_value
  | 13 => some f_trimmed
  | 14 => some f_times
  | 16 => some f_divided
  | 17 => some f_law_added
  | 18 => some f_law_is_poly
  | 20 => some f_is_whole
  | 21 => some f_need_row
  | 22 => some f_need_count
  | 23 => some f_sums_of
  | 24 => some f_letter
  | 25 => some f_law_row
  | 26 => some f_law_sums
  | 28 => some f_need_letter
  | 29 => some f_gaps
  | 31 => some f_less
  | 32 => some f_series
  | 33 => some f_fraction
  | 34 => some f_numbers_of
  | 35 => some f_is_find
  | 36 => some f_learnt
  | 37 => some f_sound
  | 54 => some f_law_other
  | 56 => some f_law_is_list
  | 57 => some f_law_gap
  | 58 => some f_law_one_does
  | 59 => some f_law_two_do
  | 60 => some f_law_holds
  | 61 => some f_law_10
  | 62 => some f_law_some
  | _ => none

noncomputable def D12 : Tabs := ⟨[("is_whole", 20), ("power", 0), ("inverse", 1), ("trimmed", 13), ("value", 6), ("roots", 7), ("times", 14), ("less", 31), ("divided", 16), ("series", 32), ("fraction", 33), ("need_row", 21), ("need_letter", 28), ("sums_of", 23), ("gaps", 29), ("numbers_of", 34), ("is_find", 35), ("learnt", 36), ("_law_whole", 2), ("_law_cell_at", 3), ("_law_rests", 4), ("_law_row", 25), ("_law_sums", 26), ("_law_other", 54), ("_law_is_list", 56), ("_law_gap", 57), ("_law_one_does", 58), ("_law_two_do", 59), ("_law_holds", 60), ("law", 61)], [("PRIME", 251), ("MOST_SUMS", 12)], true, false⟩

end Mine

open PySem
namespace Mine

noncomputable def LeP (P P' : PV) : Prop := ∀ v H, P v H → P' v H
noncomputable def LeF (P P' : PF) : Prop := ∀ f m H, P f m H → P' f m H
noncomputable def LeC (C C' : Calls) : Prop := ∀ k vs H P P', LeP P P' → C k vs H P → C' k vs H P'

theorem mono_int {v : V} {F G : Int → Prop} (h : ∀ a, F a → G a) (q : intV v F) : intV v G := optV_mono h q
theorem mono_ref {v : V} {H : Hp} {F G : List V → Prop} (h : ∀ a, F a → G a) (q : refV v H F) : refV v H G := optV_mono (fun _ q => optV_mono h q) q
theorem mono_ii {v w : V} {F G : Int → Int → Prop} (h : ∀ a b, F a b → G a b) (q : intV v fun a => intV w fun b => F a b) : intV v fun a => intV w fun b => G a b := mono_int (fun a q => mono_int (fun b q => h a b q) q) q
theorem monoU {op : U} {v : V} {H : Hp} {P P' : PV} (h : LeP P P') (q : wpU op v H P) : wpU op v H P' := by
  cases op with
  | neg => exact mono_int (fun _ q => h _ _ q) q
  | abs => exact mono_int (fun _ q => h _ _ q) q
  | len => cases v with
    | ref k => exact optV_mono (fun _ q => h _ _ q) q
    | tup vs => exact h _ _ q
    | frz xs => exact h _ _ q
    | _ => exact q.elim
  | list => cases v with
    | ref k => exact optV_mono (fun _ q => h _ _ q) q
    | tup vs => exact h _ _ q
    | _ => exact q.elim
  | tuple => exact mono_ref (fun _ q => h _ _ q) q
  | rev => exact mono_ref (fun _ q => h _ _ q) q
  | sum => exact mono_ref (fun _ q => optV_mono (fun _ q => h _ _ q) q) q
  | sorted => exact mono_ref (fun _ q => optV_mono (fun _ q => ⟨q.1, fun a b c => h _ _ (q.2 a b c)⟩) q) q
  | nset => exact mono_ref (fun _ q => optV_mono (fun _ q => ⟨q.1, fun a b c => h _ _ (q.2 a b c)⟩) q) q
  | isInt => exact h _ _ q
  | isBool => exact h _ _ q
  | isList => exact h _ _ q
  | isTuple => exact h _ _ q
  | _ => exact q.elim

theorem monoB {op : B} {v w : V} {H : Hp} {P P' : PV} (h : LeP P P') (q : wpB op v w H P) : wpB op v w H P' := by
  cases op with
  | add => cases v with
    | int a => exact mono_int (fun _ q => h _ _ q) q
    | ref k => exact optV_mono (fun _ q => mono_ref (fun _ q => ⟨q.1, h _ _ q.2⟩) q) q
    | _ => exact q.elim
  | sub => exact mono_ii (fun _ _ q => h _ _ q) q
  | mul => cases v with
    | int a => exact mono_int (fun _ q => ⟨q.1, h _ _ q.2⟩) q
    | ref k => exact optV_mono (fun _ q => optV_mono (fun _ q => mono_int (fun _ q => ⟨q.1, q.2.1, h _ _ q.2.2⟩) q) q) q
    | _ => exact q.elim
  | fdiv => exact mono_ii (fun _ _ q => ⟨q.1, q.2.1, h _ _ q.2.2⟩) q
  | mod => exact mono_ii (fun _ _ q => ⟨q.1, h _ _ q.2⟩) q
  | pow => exact mono_ii (fun _ _ q => ⟨q.1, q.2.1, h _ _ q.2.2⟩) q
  | eq => exact optV_mono (fun _ q => optV_mono (fun _ q => h _ _ q) q) q
  | ne => exact optV_mono (fun _ q => optV_mono (fun _ q => h _ _ q) q) q
  | lt => exact mono_ii (fun _ _ q => h _ _ q) q
  | le => exact mono_ii (fun _ _ q => h _ _ q) q
  | gt => exact mono_ii (fun _ _ q => h _ _ q) q
  | ge => exact mono_ii (fun _ _ q => h _ _ q) q
  | isin => exact mono_int (fun _ q => mono_ref (fun _ q => optV_mono (fun _ q => h _ _ q) q) q) q
  | notin => exact mono_int (fun _ q => mono_ref (fun _ q => optV_mono (fun _ q => h _ _ q) q) q) q
  | is_ => exact ⟨q.1, h _ _ q.2⟩
  | isnot => exact ⟨q.1, h _ _ q.2⟩
  | item => refine mono_int (fun i q => ?_) q
            cases v with
            | ref k => exact optV_mono (fun _ q => optV_mono (fun _ q => optV_mono (fun _ q => h _ _ q) q) q) q
            | tup vs => exact optV_mono (fun _ q => optV_mono (fun _ q => h _ _ q) q) q
            | frz xs => exact optV_mono (fun _ q => optV_mono (fun _ q => h _ _ q) q) q
            | _ => exact q.elim
  | max => exact mono_ii (fun _ _ q => h _ _ q) q
  | min => exact mono_ii (fun _ _ q => h _ _ q) q
  | _ => exact q.elim

theorem monoComp {cond elt cond' elt' : V → Hp → PV → Prop} (hc : ∀ v H P P', LeP P P' → cond v H P → cond' v H P') (he : ∀ v H P P', LeP P P' → elt v H P → elt' v H P') {src : List (Nat × List V)} :
    ∀ {vs acc : List V} {H : Hp} {P P' : PV}, LeP P P' → wpComp cond elt src vs acc H P → wpComp cond' elt' src vs acc H P'
  | [], acc, H, P, P', h, q => ⟨q.1, h _ _ q.2⟩
  | v :: r, acc, H, P, P', h, q => ⟨q.1, hc _ _ _ _ (fun c H₁ q => by
      split at q
      · exact he _ _ _ _ (fun y H₂ q => monoComp hc he h q) q
      · exact monoComp hc he h q
      · exact q.elim) q.2⟩

theorem monoZip {elt elt' : Int → Int → (V → Prop) → Prop} (he : ∀ x y (P P' : V → Prop), (∀ v, P v → P' v) → elt x y P → elt' x y P') :
    ∀ {xs ys : List Int} {acc : List V} {P P' : List V → Prop}, (∀ l, P l → P' l) → wpZip elt xs ys acc P → wpZip elt' xs ys acc P'
  | x :: xs, y :: ys, acc, P, P', h, q => he _ _ _ _ (fun v q => by
      split at q
      · exact monoZip he h q
      · exact q.elim) q
  | [], _, acc, P, P', h, q => by simp only [wpZip] at q ⊢; exact h _ q
  | _ :: _, [], acc, P, P', h, q => by simp only [wpZip] at q ⊢; exact h _ q

mutual
theorem Wd {C C' : Calls} (hC : LeC C C') : ∀ (e : X) {m : Loc} {H : Hp} {P P' : PV}, LeP P P' → wpE C e m H P → wpE C' e m H P'
  | .none, _, _, _, _, h, q => by simp only [VN, VJ, VU, VS, VO, VT, Wc, VW, VF, VY, VV, Wb, VZ, VM, VK, VX, VE, VL, VD] at q ⊢; exact h _ _ q
  | .bool _, _, _, _, _, h, q => by simp only [VN, VJ, VU, VS, VO, VT, Wc, VW, VF, VY, VV, Wb, VZ, VM, VK, VX, VE, VL, VD] at q ⊢; exact h _ _ q
  | .int _, _, _, _, _, h, q => by simp only [VN, VJ, VU, VS, VO, VT, Wc, VW, VF, VY, VV, Wb, VZ, VM, VK, VX, VE, VL, VD] at q ⊢; exact h _ _ q
  | .str _, _, _, _, _, h, q => by simp only [VN, VJ, VU, VS, VO, VT, Wc, VW, VF, VY, VV, Wb, VZ, VM, VK, VX, VE, VL, VD] at q ⊢; exact h _ _ q
  | .glob _, _, _, _, _, _, q => by simp only [VN, VJ, VU, VS, VO, VT, Wc, VW, VF, VY, VV, Wb, VZ, VM, VK, VX, VE, VL, VD] at q
  | .var i, m, _, _, _, h, q => by
    simp only [VN, VJ, VU, VS, VO, VT, Wc, VW, VF, VY, VV, Wb, VZ, VM, VK, VX, VE, VL, VD] at q ⊢
    split at q
    · exact h _ _ q
    · exact q.elim
  | .un op e, m, H, P, P', h, q => by simp only [VN, VJ, VU, VS, VO, VT, Wc, VW, VF, VY, VV, Wb, VZ, VM, VK, VX, VE, VL, VD] at q ⊢; exact Wd hC e (fun v H₁ q => monoU h q) q
  | .bin op a b, m, H, P, P', h, q => by simp only [VN, VJ, VU, VS, VO, VT, Wc, VW, VF, VY, VV, Wb, VZ, VM, VK, VX, VE, VL, VD] at q ⊢; exact Wd hC a (fun v H₁ q => Wd hC b (fun w H₂ q => monoB h q) q) q
  | .chain op₁ op₂ a b c, m, H, P, P', h, q => by
    simp only [VN, VJ, VU, VS, VO, VT, Wc, VW, VF, VY, VV, Wb, VZ, VM, VK, VX, VE, VL, VD] at q ⊢
    refine Wd hC a (fun v H₁ q => Wd hC b (fun w H₂ q => monoB (fun t H₃ q => ?_) q) q) q
    split at q
    · exact Wd hC c (fun z H₄ q => monoB h q) q
    · exact h _ _ q
    · exact q.elim
  | .not e, m, H, P, P', h, q => by
    simp only [VN, VJ, VU, VS, VO, VT, Wc, VW, VF, VY, VV, Wb, VZ, VM, VK, VX, VE, VL, VD] at q ⊢
    refine Wd hC e (fun v H₁ q => ?_) q
    split at q
    · exact h _ _ q
    · exact q.elim
  | .and a b, m, H, P, P', h, q => by
    simp only [VN, VJ, VU, VS, VO, VT, Wc, VW, VF, VY, VV, Wb, VZ, VM, VK, VX, VE, VL, VD] at q ⊢
    refine Wd hC a (fun v H₁ q => ?_) q
    split at q
    · exact Wd hC b h q
    · exact h _ _ q
    · exact q.elim
  | .or a b, m, H, P, P', h, q => by
    simp only [VN, VJ, VU, VS, VO, VT, Wc, VW, VF, VY, VV, Wb, VZ, VM, VK, VX, VE, VL, VD] at q ⊢
    refine Wd hC a (fun v H₁ q => ?_) q
    split at q
    · exact h _ _ q
    · exact Wd hC b h q
    · exact q.elim
  | .ite t a b, m, H, P, P', h, q => by
    simp only [VN, VJ, VU, VS, VO, VT, Wc, VW, VF, VY, VV, Wb, VZ, VM, VK, VX, VE, VL, VD] at q ⊢
    refine Wd hC t (fun v H₁ q => ?_) q
    split at q
    · exact Wd hC a h q
    · exact Wd hC b h q
    · exact q.elim
  | .call f args, m, H, P, P', h, q => by simp only [VN, VJ, VU, VS, VO, VT, Wc, VW, VF, VY, VV, Wb, VZ, VM, VK, VX, VE, VL, VD] at q ⊢; exact monoEs hC args (fun vs H₁ q => hC _ _ _ _ _ h q) q
  | .list es, m, H, P, P', h, q => by simp only [VN, VJ, VU, VS, VO, VT, Wc, VW, VF, VY, VV, Wb, VZ, VM, VK, VX, VE, VL, VD] at q ⊢; exact monoEs hC es (fun vs H₁ q => h _ _ q) q
  | .tup es, m, H, P, P', h, q => by simp only [VN, VJ, VU, VS, VO, VT, Wc, VW, VF, VY, VV, Wb, VZ, VM, VK, VX, VE, VL, VD] at q ⊢; exact monoEs hC es (fun vs H₁ q => h _ _ q) q
  | .slice e lo hi, m, H, P, P', h, q => by
    simp only [VN, VJ, VU, VS, VO, VT, Wc, VW, VF, VY, VV, Wb, VZ, VM, VK, VX, VE, VL, VD] at q ⊢
    refine Wd hC e (fun v H₁ q => Wd hC lo (fun a H₂ q => Wd hC hi (fun b H₃ q => ?_) q) q) q
    split at q
    · split at q
      · exact h _ _ q
      · exact q.elim
    · exact q.elim
  | .comp elt n it a b cond, m, H, P, P', h, q => by
    simp only [VN, VJ, VU, VS, VO, VT, Wc, VW, VF, VY, VV, Wb, VZ, VM, VK, VX, VE, VL, VD] at q ⊢
    refine Wd hC a (fun v H₁ q => Wd hC b (fun w H₂ q => ?_) q) q
    split at q
    · refine monoComp (fun v H P P' h q => ?_) (fun v H P P' h q => ?_) h q
      · split at q
        · exact Wd hC cond h q
        · exact q.elim
      · split at q
        · exact Wd hC elt h q
        · exact q.elim
    · exact q.elim
  | .zcomp elt a b, m, H, P, P', h, q => by
    simp only [VN, VJ, VU, VS, VO, VT, Wc, VW, VF, VY, VV, Wb, VZ, VM, VK, VX, VE, VL, VD] at q ⊢
    refine Wd hC a (fun v H₁ q => Wd hC b (fun w H₂ q => ?_) q) q
    exact optV_mono (fun _ q => mono_ref (fun _ q => optV_mono (fun _ q => optV_mono (fun _ q => ⟨q.1, monoZip (fun x y P P' h q => Wd (m := [some (.int x), some (.int y)]) (H := []) hC elt (fun v _ q => h v q) q) (fun l q => h (.ref H₂.length) (H₂ ++ [l]) q) q.2⟩) q) q) q) q
theorem monoEs {C C' : Calls} (hC : LeC C C') : ∀ (es : List X) {m : Loc} {H : Hp} {P P' : List V → Hp → Prop}, (∀ vs H, P vs H → P' vs H) → wpEs C es m H P → wpEs C' es m H P'
  | [], _, _, _, _, h, q => by simp only [wes_nil, wes_cons] at q ⊢; exact h _ _ q
  | e :: r, m, H, P, P', h, q => by simp only [wes_nil, wes_cons] at q ⊢; exact Wd hC e (fun v H₁ q => monoEs hC r (fun vs H₂ q => h _ _ q) q) q
end

theorem monoLoop {test test' : Loc → Hp → PV → Prop} {body body' : Loc → Hp → PF → Prop} (ht : ∀ m H P P', LeP P P' → test m H P → test' m H P') (hb : ∀ m H P P', LeF P P' → body m H P → body' m H P') {Q Q' : PF} (h : LeF Q Q') :
    ∀ (n : Nat) {m : Loc} {H : Hp}, wpLoop test body Q n m H → wpLoop test' body' Q' n m H
  | 0, _, _, q => q.elim
  | n + 1, m, H, q => ht _ _ _ _ (fun c H₁ q => by
      split at q
      · refine hb _ _ _ _ (fun f m' H' q => ?_) q
        cases f with
        | next => exact monoLoop ht hb h n q
        | ret v => exact h _ _ _ q
      · exact h _ _ _ q
      · exact q.elim) q

theorem monoEach {is : List Nat} {body body' : Loc → Hp → PF → Prop} (hb : ∀ m H P P', LeF P P' → body m H P → body' m H P') {src : List (Nat × List V)} {Q Q' : PF} (h : LeF Q Q') :
    ∀ (vs : List V) {m : Loc} {H : Hp}, wpEach is body src Q vs m H → wpEach is body' src Q' vs m H
  | [], _, _, q => ⟨q.1, h _ _ _ q.2⟩
  | v :: r, m, H, q => ⟨q.1, by
      have q := q.2
      split at q
      · refine hb _ _ _ _ (fun f m' H' q => ?_) q
        cases f with
        | next => exact monoEach hb h r q
        | ret v => exact h _ _ _ q
      · exact q.elim⟩

mutual
theorem monoS {C C' : Calls} (hC : LeC C C') : ∀ (s : S) {m : Loc} {H : Hp} {Q Q' : PF}, LeF Q Q' → wpS C s m H Q → wpS C' s m H Q'
  | .assign i e, _, _, _, _, h, q => by simp only [ws_assign, ws_unpack, ws_setItem, ws_append, ws_expr, ws_ite, ws_loop, ws_each, ws_ret, ws_raise] at q ⊢; exact Wd hC e (fun v H₁ q => h _ _ _ q) q
  | .unpack is e, _, _, _, _, h, q => by
    simp only [ws_assign, ws_unpack, ws_setItem, ws_append, ws_expr, ws_ite, ws_loop, ws_each, ws_ret, ws_raise] at q ⊢
    refine Wd hC e (fun v H₁ q => ?_) q
    split at q
    · exact h _ _ _ q
    · exact q.elim
  | .setItem a i e, _, _, _, _, h, q => by
    simp only [ws_assign, ws_unpack, ws_setItem, ws_append, ws_expr, ws_ite, ws_loop, ws_each, ws_ret, ws_raise] at q ⊢
    refine Wd hC e (fun v H₁ q => Wd hC a (fun r H₂ q => Wd hC i (fun w H₃ q => ?_) q) q) q
    split at q
    · split at q
      · exact ⟨q.1, q.2.1, h _ _ _ q.2.2⟩
      · exact q.elim
    · exact q.elim
  | .append a e, _, _, _, _, h, q => by
    simp only [ws_assign, ws_unpack, ws_setItem, ws_append, ws_expr, ws_ite, ws_loop, ws_each, ws_ret, ws_raise] at q ⊢
    refine Wd hC a (fun r H₁ q => ?_) q
    split at q
    · refine Wd hC e (fun v H₂ q => ?_) q
      split at q
      · exact ⟨q.1, h _ _ _ q.2⟩
      · exact q.elim
    · exact q.elim
  | .expr e, _, _, _, _, h, q => by
    simp only [ws_assign, ws_unpack, ws_setItem, ws_append, ws_expr, ws_ite, ws_loop, ws_each, ws_ret, ws_raise] at q ⊢
    refine Wd hC e (fun v H₁ q => ?_) q
    split at q
    · exact h _ _ _ q
    · exact q.elim
  | .ite t b c, _, _, _, _, h, q => by
    simp only [ws_assign, ws_unpack, ws_setItem, ws_append, ws_expr, ws_ite, ws_loop, ws_each, ws_ret, ws_raise] at q ⊢
    refine Wd hC t (fun v H₁ q => ?_) q
    split at q
    · exact monoSs hC b h q
    · exact monoSs hC c h q
    · exact q.elim
  | .loop t b, _, _, _, _, h, q => by
    simp only [ws_assign, ws_unpack, ws_setItem, ws_append, ws_expr, ws_ite, ws_loop, ws_each, ws_ret, ws_raise] at q ⊢
    obtain ⟨n, q⟩ := q
    exact ⟨n, monoLoop (fun m H P P' h q => Wd (m := m) (H := H) hC t h q) (fun m H P P' h q => monoSs (m := m) (H := H) hC b h q) h n q⟩
  | .each is it a c b, _, _, _, _, h, q => by
    simp only [ws_assign, ws_unpack, ws_setItem, ws_append, ws_expr, ws_ite, ws_loop, ws_each, ws_ret, ws_raise] at q ⊢
    refine Wd hC a (fun v H₁ q => Wd hC c (fun w H₂ q => ?_) q) q
    split at q
    · exact monoEach (fun m H P P' h q => monoSs (m := m) (H := H) hC b h q) h _ q
    · exact q.elim
  | .ret e, _, _, _, _, h, q => by simp only [ws_assign, ws_unpack, ws_setItem, ws_append, ws_expr, ws_ite, ws_loop, ws_each, ws_ret, ws_raise] at q ⊢; exact Wd hC e (fun v H₁ q => h _ _ _ q) q
  | .raise, _, _, _, _, _, q => by simp only [ws_assign, ws_unpack, ws_setItem, ws_append, ws_expr, ws_ite, ws_loop, ws_each, ws_ret, ws_raise] at q
theorem monoSs {C C' : Calls} (hC : LeC C C') : ∀ (l : List S) {m : Loc} {H : Hp} {Q Q' : PF}, LeF Q Q' → wpSs C l m H Q → wpSs C' l m H Q'
  | [], _, _, _, _, h, q => by simp only [wss_nil, wss_cons] at q ⊢; exact h _ _ _ q
  | s :: r, _, _, _, _, h, q => by
    simp only [wss_nil, wss_cons] at q ⊢
    refine monoS hC s (fun f m' H' q => ?_) q
    cases f with
    | next => exact monoSs hC r h q
    | ret v => exact h _ _ _ q
end

theorem run_le (T : Nat → Option Fn) : ∀ {n n' : Nat}, n ≤ n' → LeC (run T n) (run T n')
  | 0, _, _ => fun _ _ _ _ _ _ q => q.elim
  | n + 1, 0, h => by lia
  | n + 1, n' + 1, h => fun k vs H P P' hp q => by
    simp only [run] at q ⊢
    split at q
    · refine ⟨q.1, q.2.1, monoSs (run_le T (Nat.le_of_succ_le_succ h)) _ (fun fl m' H' q => ?_) q.2.2⟩
      cases fl with
      | next => exact hp _ _ q
      | ret v => exact hp _ _ q
    · exact q.elim

/-! ## loops by what stays true -/
theorem each_inv {is : List Nat} {body : Loc → Hp → PF → Prop} (hb : ∀ m H P P', LeF P P' → body m H P → body m H P') {src : List (Nat × List V)} {Q : PF} (I : Nat → Loc → Hp → Prop) (vs : List V)
    (hs : ∀ k m H, I k m H → Still src H)
    (step : ∀ k v m H, vs[k]? = some v → I k m H → ∃ m₁, put is v m = some m₁ ∧ body m₁ H fun f m' H' => match f with | .next => I (k + 1) m' H' | .ret x => Q (.ret x) m' H')
    (fin : ∀ m H, I vs.length m H → Q .next m H) {m : Loc} {H : Hp} (h0 : I 0 m H) : wpEach is body src Q vs m H := by
  suffices ∀ (r pre : List V) (m : Loc) (H : Hp), vs = pre ++ r → I pre.length m H → wpEach is body src Q r m H from this vs [] m H rfl h0
  intro r
  induction r with
  | nil =>
    intro pre m H e hi
    refine ⟨hs _ _ _ hi, fin _ _ ?_⟩
    rw [e]; simpa using hi
  | cons v r ih =>
    intro pre m H e hi
    refine ⟨hs _ _ _ hi, ?_⟩
    obtain ⟨m₁, e1, q⟩ := step pre.length v m H (by rw [e]; simp) hi
    rw [e1]
    refine hb _ _ _ _ (fun f m' H' q => ?_) q
    cases f with
    | next => exact ih (pre ++ [v]) m' H' (by simp [e]) (by simpa using q)
    | ret x => exact q

theorem loop_inv {test : Loc → Hp → PV → Prop} {body : Loc → Hp → PF → Prop} (ht : ∀ m H P P', LeP P P' → test m H P → test m H P') (hb : ∀ m H P P', LeF P P' → body m H P → body m H P') {Q : PF} (I : Nat → Loc → Hp → Prop)
    (step : ∀ k m H, I k m H → test m H fun c H₁ => match truth c with
      | some true => body m H₁ fun f m' H' => match f with | .next => ∃ k', k' < k ∧ I k' m' H' | .ret x => Q (.ret x) m' H'
      | some false => Q .next m H₁
      | Option.none => False) :
    ∀ (n k : Nat) (m : Loc) (H : Hp), k < n → I k m H → wpLoop test body Q n m H
  | 0, _, _, _, h, _ => by lia
  | n + 1, k, m, H, h, hi => ht _ _ _ _ (fun c H₁ q => by
      split at q
      · rename_i e; (try simp only [e])
        refine hb _ _ _ _ (fun f m' H' q => ?_) q
        cases f with
        | next =>
          obtain ⟨k', hk, hi'⟩ := q
          exact loop_inv ht hb I step n k' m' H' (by lia) hi'
        | ret x => exact q
      · rename_i e; (try simp only [e]); exact q
      · exact q.elim) (step k m H hi)

end Mine

open PySem
namespace Mine

/-! ## props of many parts -/
inductive Ex2 {α0 α1 : Type} (p : α0 → α1 → Prop) : Prop where
  | mk (x0 : α0) (x1 : α1) (h : p x0 x1) : Ex2 p
inductive Ex3 {α0 α1 α2 : Type} (p : α0 → α1 → α2 → Prop) : Prop where
  | mk (x0 : α0) (x1 : α1) (x2 : α2) (h : p x0 x1 x2) : Ex3 p
inductive Ex4 {α0 α1 α2 α3 : Type} (p : α0 → α1 → α2 → α3 → Prop) : Prop where
  | mk (x0 : α0) (x1 : α1) (x2 : α2) (x3 : α3) (h : p x0 x1 x2 x3) : Ex4 p
inductive Ex5 {α0 α1 α2 α3 α4 : Type} (p : α0 → α1 → α2 → α3 → α4 → Prop) : Prop where
  | mk (x0 : α0) (x1 : α1) (x2 : α2) (x3 : α3) (x4 : α4) (h : p x0 x1 x2 x3 x4) : Ex5 p
inductive Ex7 {α0 α1 α2 α3 α4 α5 α6 : Type} (p : α0 → α1 → α2 → α3 → α4 → α5 → α6 → Prop) : Prop where
  | mk (x0 : α0) (x1 : α1) (x2 : α2) (x3 : α3) (x4 : α4) (x5 : α5) (x6 : α6) (h : p x0 x1 x2 x3 x4 x5 x6) : Ex7 p
inductive Ex11 {α0 α1 α2 α3 α4 α5 α6 α7 α8 α9 α10 : Type} (p : α0 → α1 → α2 → α3 → α4 → α5 → α6 → α7 → α8 → α9 → α10 → Prop) : Prop where
  | mk (x0 : α0) (x1 : α1) (x2 : α2) (x3 : α3) (x4 : α4) (x5 : α5) (x6 : α6) (x7 : α7) (x8 : α8) (x9 : α9) (x10 : α10) (h : p x0 x1 x2 x3 x4 x5 x6 x7 x8 x9 x10) : Ex11 p
inductive And3 (p0 p1 p2 : Prop) : Prop where
  | mk (h0 : p0) (h1 : p1) (h2 : p2) : And3 p0 p1 p2
inductive And4 (p0 p1 p2 p3 : Prop) : Prop where
  | mk (h0 : p0) (h1 : p1) (h2 : p2) (h3 : p3) : And4 p0 p1 p2 p3
inductive And5 (p0 p1 p2 p3 p4 : Prop) : Prop where
  | mk (h0 : p0) (h1 : p1) (h2 : p2) (h3 : p3) (h4 : p4) : And5 p0 p1 p2 p3 p4
inductive And6 (p0 p1 p2 p3 p4 p5 : Prop) : Prop where
  | mk (h0 : p0) (h1 : p1) (h2 : p2) (h3 : p3) (h4 : p4) (h5 : p5) : And6 p0 p1 p2 p3 p4 p5
inductive And7 (p0 p1 p2 p3 p4 p5 p6 : Prop) : Prop where
  | mk (h0 : p0) (h1 : p1) (h2 : p2) (h3 : p3) (h4 : p4) (h5 : p5) (h6 : p6) : And7 p0 p1 p2 p3 p4 p5 p6
inductive And8 (p0 p1 p2 p3 p4 p5 p6 p7 : Prop) : Prop where
  | mk (h0 : p0) (h1 : p1) (h2 : p2) (h3 : p3) (h4 : p4) (h5 : p5) (h6 : p6) (h7 : p7) : And8 p0 p1 p2 p3 p4 p5 p6 p7
inductive And9 (p0 p1 p2 p3 p4 p5 p6 p7 p8 : Prop) : Prop where
  | mk (h0 : p0) (h1 : p1) (h2 : p2) (h3 : p3) (h4 : p4) (h5 : p5) (h6 : p6) (h7 : p7) (h8 : p8) : And9 p0 p1 p2 p3 p4 p5 p6 p7 p8
inductive And13 (p0 p1 p2 p3 p4 p5 p6 p7 p8 p9 p10 p11 p12 : Prop) : Prop where
  | mk (h0 : p0) (h1 : p1) (h2 : p2) (h3 : p3) (h4 : p4) (h5 : p5) (h6 : p6) (h7 : p7) (h8 : p8) (h9 : p9) (h10 : p10) (h11 : p11) (h12 : p12) : And13 p0 p1 p2 p3 p4 p5 p6 p7 p8 p9 p10 p11 p12
inductive And14 (p0 p1 p2 p3 p4 p5 p6 p7 p8 p9 p10 p11 p12 p13 : Prop) : Prop where
  | mk (h0 : p0) (h1 : p1) (h2 : p2) (h3 : p3) (h4 : p4) (h5 : p5) (h6 : p6) (h7 : p7) (h8 : p8) (h9 : p9) (h10 : p10) (h11 : p11) (h12 : p12) (h13 : p13) : And14 p0 p1 p2 p3 p4 p5 p6 p7 p8 p9 p10 p11 p12 p13
/-! ## rules to step through a text -/
noncomputable def at? (m : Loc) (i : Nat) (P : V → Prop) : Prop := match m[i]? with | some (some v) => P v | _ => False
noncomputable def branch (v : V) (A B : Prop) : Prop := match truth v with | some true => A | some false => B | Option.none => False
noncomputable def withL (H : Hp) (k : Nat) (F : List V → Prop) : Prop := match H[k]? with | some vs => F vs | Option.none => False
noncomputable def withI (vs : List V) (F : List Int → Prop) : Prop := match zl? vs with | some is => F is | Option.none => False

theorem optV_L {H : Hp} {k : Nat} {F : List V → Prop} : optV H[k]? F = withL H k F := by unfold withL; cases H[k]? <;> rfl
theorem optV_I {vs : List V} {F : List Int → Prop} : optV (zl? vs) F = withI vs F := by unfold withI; cases zl? vs <;> rfl
theorem YV {v : V} {m : Loc} {P : V → Prop} : at? (some v :: m) 0 P = P v := rfl
theorem Vq {a0 : Option V} {v : V} {m : Loc} {P : V → Prop} : at? (a0 :: some v :: m) 1 P = P v := rfl
theorem Vd {a0 a1 : Option V} {v : V} {m : Loc} {P : V → Prop} : at? (a0 :: a1 :: some v :: m) 2 P = P v := rfl
theorem Vt {a0 a1 a2 : Option V} {v : V} {m : Loc} {P : V → Prop} : at? (a0 :: a1 :: a2 :: some v :: m) 3 P = P v := rfl
theorem Vi {a0 a1 a2 a3 : Option V} {v : V} {m : Loc} {P : V → Prop} : at? (a0 :: a1 :: a2 :: a3 :: some v :: m) 4 P = P v := rfl
theorem Vr {a0 a1 a2 a3 a4 : Option V} {v : V} {m : Loc} {P : V → Prop} : at? (a0 :: a1 :: a2 :: a3 :: a4 :: some v :: m) 5 P = P v := rfl
theorem Va {a0 a1 a2 a3 a4 a5 : Option V} {v : V} {m : Loc} {P : V → Prop} : at? (a0 :: a1 :: a2 :: a3 :: a4 :: a5 :: some v :: m) 6 P = P v := rfl
theorem Vo {a0 a1 a2 a3 a4 a5 a6 : Option V} {v : V} {m : Loc} {P : V → Prop} : at? (a0 :: a1 :: a2 :: a3 :: a4 :: a5 :: a6 :: some v :: m) 7 P = P v := rfl
theorem Vg {a0 a1 a2 a3 a4 a5 a6 a7 : Option V} {v : V} {m : Loc} {P : V → Prop} : at? (a0 :: a1 :: a2 :: a3 :: a4 :: a5 :: a6 :: a7 :: some v :: m) 8 P = P v := rfl
theorem YY {a0 a1 a2 a3 a4 a5 a6 a7 a8 : Option V} {v : V} {m : Loc} {P : V → Prop} : at? (a0 :: a1 :: a2 :: a3 :: a4 :: a5 :: a6 :: a7 :: a8 :: some v :: m) 9 P = P v := rfl
theorem YJ {a0 a1 a2 a3 a4 a5 a6 a7 a8 a9 : Option V} {v : V} {m : Loc} {P : V → Prop} : at? (a0 :: a1 :: a2 :: a3 :: a4 :: a5 :: a6 :: a7 :: a8 :: a9 :: some v :: m) 10 P = P v := rfl
theorem Yi {a0 a1 a2 a3 a4 a5 a6 a7 a8 a9 a10 : Option V} {v : V} {m : Loc} {P : V → Prop} : at? (a0 :: a1 :: a2 :: a3 :: a4 :: a5 :: a6 :: a7 :: a8 :: a9 :: a10 :: some v :: m) 11 P = P v := rfl
theorem YM {x v : Option V} {m : Loc} : List.set (x :: m) 0 v = v :: m := rfl
theorem YE {a0 x v : Option V} {m : Loc} : List.set (a0 :: x :: m) 1 v = a0 :: v :: m := rfl
theorem Yk {a0 a1 x v : Option V} {m : Loc} : List.set (a0 :: a1 :: x :: m) 2 v = a0 :: a1 :: v :: m := rfl
theorem Yz {a0 a1 a2 x v : Option V} {m : Loc} : List.set (a0 :: a1 :: a2 :: x :: m) 3 v = a0 :: a1 :: a2 :: v :: m := rfl
theorem Yl {a0 a1 a2 a3 x v : Option V} {m : Loc} : List.set (a0 :: a1 :: a2 :: a3 :: x :: m) 4 v = a0 :: a1 :: a2 :: a3 :: v :: m := rfl
theorem Yu {a0 a1 a2 a3 a4 x v : Option V} {m : Loc} : List.set (a0 :: a1 :: a2 :: a3 :: a4 :: x :: m) 5 v = a0 :: a1 :: a2 :: a3 :: a4 :: v :: m := rfl
theorem YA {a0 a1 a2 a3 a4 a5 x v : Option V} {m : Loc} : List.set (a0 :: a1 :: a2 :: a3 :: a4 :: a5 :: x :: m) 6 v = a0 :: a1 :: a2 :: a3 :: a4 :: a5 :: v :: m := rfl
theorem Yt {a0 a1 a2 a3 a4 a5 a6 x v : Option V} {m : Loc} : List.set (a0 :: a1 :: a2 :: a3 :: a4 :: a5 :: a6 :: x :: m) 7 v = a0 :: a1 :: a2 :: a3 :: a4 :: a5 :: a6 :: v :: m := rfl
theorem Yh {a0 a1 a2 a3 a4 a5 a6 a7 x v : Option V} {m : Loc} : List.set (a0 :: a1 :: a2 :: a3 :: a4 :: a5 :: a6 :: a7 :: x :: m) 8 v = a0 :: a1 :: a2 :: a3 :: a4 :: a5 :: a6 :: a7 :: v :: m := rfl
theorem YI {a0 a1 a2 a3 a4 a5 a6 a7 a8 x v : Option V} {m : Loc} : List.set (a0 :: a1 :: a2 :: a3 :: a4 :: a5 :: a6 :: a7 :: a8 :: x :: m) 9 v = a0 :: a1 :: a2 :: a3 :: a4 :: a5 :: a6 :: a7 :: a8 :: v :: m := rfl
theorem ZP {a0 a1 a2 a3 a4 a5 a6 a7 a8 a9 x v : Option V} {m : Loc} : List.set (a0 :: a1 :: a2 :: a3 :: a4 :: a5 :: a6 :: a7 :: a8 :: a9 :: x :: m) 10 v = a0 :: a1 :: a2 :: a3 :: a4 :: a5 :: a6 :: a7 :: a8 :: a9 :: v :: m := rfl
theorem ZY {a0 a1 a2 a3 a4 a5 a6 a7 a8 a9 a10 x v : Option V} {m : Loc} : List.set (a0 :: a1 :: a2 :: a3 :: a4 :: a5 :: a6 :: a7 :: a8 :: a9 :: a10 :: x :: m) 11 v = a0 :: a1 :: a2 :: a3 :: a4 :: a5 :: a6 :: a7 :: a8 :: a9 :: a10 :: v :: m := rfl
theorem Zm {A B : Prop} : branch (.bool true) A B = A := rfl
theorem Zh {A B : Prop} : branch (.bool false) A B = B := rfl
theorem Zc {p : Prop} [Decidable p] {A B : Prop} : branch (.bool (decide p)) A B = if p then A else B := by by_cases h : p <;> simp [branch, truth, h]
theorem Zb {p : Prop} [Decidable p] {A B : Prop} : branch (.bool (!decide p)) A B = if p then B else A := by by_cases h : p <;> simp [branch, truth, h]
theorem withL_of {H : Hp} {k : Nat} {vs : List V} {F : List V → Prop} (h : H[k]? = some vs) (q : F vs) : withL H k F := by simp only [withL, h]; exact q
theorem VH {H : Hp} {k : Nat} {vs : List V} {F : List V → Prop} (h : H[k]? = some vs) : withL H k F = F vs := by simp only [withL, h]
theorem zl?_ints (xs : List Int) : zl? (zl xs) = some xs := by
  induction xs with
  | nil => rfl
  | cons x r ih => show (zl? (zl r)).map (x :: ·) = _; rw [ih]; rfl
theorem ZE {xs : List Int} {F : List Int → Prop} : withI (zl xs) F = F xs := by simp only [withI, zl?_ints]

section
variable {C : Calls} {m : Loc} {H : Hp} {P : PV} {Q : PF}
theorem ZX : wpE C .none m H P = P .none H := rfl
theorem ZO {b : Bool} : wpE C (.bool b) m H P = P (.bool b) H := rfl
theorem Yd {i : Int} : wpE C (.int i) m H P = P (.int i) H := rfl
theorem YG {s : Str} : wpE C (.str s) m H P = P (.str s) H := rfl
theorem ZZ {i : Nat} : wpE C (.var i) m H P = at? m i fun v => P v H := rfl
theorem YT {op : U} {e : X} : wpE C (.un op e) m H P = wpE C e m H fun v H₁ => wpU op v H₁ P := rfl
theorem Yn {op : B} {a b : X} : wpE C (.bin op a b) m H P = wpE C a m H fun v H₁ => wpE C b m H₁ fun w H₂ => wpB op v w H₂ P := rfl
theorem ZJ {o₁ o₂ : B} {a b c : X} : wpE C (.chain o₁ o₂ a b c) m H P = wpE C a m H fun v H₁ => wpE C b m H₁ fun w H₂ => wpB o₁ v w H₂ fun t H₃ => branch t (wpE C c m H₃ fun z H₄ => wpB o₂ w z H₄ P) (P t H₃) := rfl
noncomputable def notB (v : V) (F : V → Prop) : Prop := match truth v with | some b => F (.bool !b) | Option.none => False
theorem ZC {b : Bool} {F : V → Prop} : notB (.bool b) F = F (.bool !b) := rfl
theorem YL {e : X} : wpE C (.not e) m H P = wpE C e m H fun v H₁ => notB v fun w => P w H₁ := rfl
theorem YK {a b : X} : wpE C (.and a b) m H P = wpE C a m H fun v H₁ => branch v (wpE C b m H₁ P) (P v H₁) := rfl
theorem Vc {a b : X} : wpE C (.or a b) m H P = wpE C a m H fun v H₁ => branch v (P v H₁) (wpE C b m H₁ P) := rfl
theorem Yw {t a b : X} : wpE C (.ite t a b) m H P = wpE C t m H fun v H₁ => branch v (wpE C a m H₁ P) (wpE C b m H₁ P) := rfl
theorem ZU {f : Nat} {as : List X} : wpE C (.call f as) m H P = wpEs C as m H fun vs H₁ => C f vs H₁ P := rfl
theorem ZR {es : List X} : wpE C (.list es) m H P = wpEs C es m H fun vs H₁ => P (.ref H₁.length) (H₁ ++ [vs]) := rfl
theorem YC {es : List X} : wpE C (.tup es) m H P = wpEs C es m H fun vs H₁ => P (.tup vs) H₁ := rfl
theorem ZV {P : List V → Hp → Prop} : wpEs C [] m H P = P [] H := rfl
theorem ZH {e : X} {r : List X} {P : List V → Hp → Prop} : wpEs C (e :: r) m H P = wpE C e m H fun v H₁ => wpEs C r m H₁ fun vs H₂ => P (v :: vs) H₂ := rfl
theorem Vf {a0 : Int} : wpE C (.list [.int a0]) m H P = P (.ref H.length) (H ++ [[.int a0]]) := rfl
theorem Vs {a0 a1 : Int} : wpE C (.list [.int a0, .int a1]) m H P = P (.ref H.length) (H ++ [[.int a0, .int a1]]) := rfl
theorem Vl {a0 a1 a2 : Int} : wpE C (.list [.int a0, .int a1, .int a2]) m H P = P (.ref H.length) (H ++ [[.int a0, .int a1, .int a2]]) := rfl
theorem YU {a0 a1 a2 a3 : Int} : wpE C (.list [.int a0, .int a1, .int a2, .int a3]) m H P = P (.ref H.length) (H ++ [[.int a0, .int a1, .int a2, .int a3]]) := rfl
theorem Vb {a0 a1 a2 a3 a4 : Int} : wpE C (.list [.int a0, .int a1, .int a2, .int a3, .int a4]) m H P = P (.ref H.length) (H ++ [[.int a0, .int a1, .int a2, .int a3, .int a4]]) := rfl
theorem Vu {a0 a1 a2 a3 a4 a5 : Int} : wpE C (.list [.int a0, .int a1, .int a2, .int a3, .int a4, .int a5]) m H P = P (.ref H.length) (H ++ [[.int a0, .int a1, .int a2, .int a3, .int a4, .int a5]]) := rfl
theorem Ym {a0 a1 a2 a3 a4 a5 a6 a7 a8 a9 : Int} : wpE C (.list [.int a0, .int a1, .int a2, .int a3, .int a4, .int a5, .int a6, .int a7, .int a8, .int a9]) m H P = P (.ref H.length) (H ++ [[.int a0, .int a1, .int a2, .int a3, .int a4, .int a5, .int a6, .int a7, .int a8, .int a9]]) := rfl
theorem Ve : wpE C (.list []) m H P = P (.ref H.length) (H ++ [[]]) := rfl
theorem Vk {f i : Nat} {k : Int} : wpE C (.call f [.var i, .int k]) m H P = at? m i fun v => C f [v, .int k] H P := rfl
theorem VI {f i : Nat} : wpE C (.call f [.var i]) m H P = at? m i fun v => C f [v] H P := rfl
theorem Vh {f i j : Nat} : wpE C (.call f [.var i, .var j]) m H P = at? m i fun v => at? m j fun w => C f [v, w] H P := rfl
theorem YD {f i j k : Nat} : wpE C (.call f [.var i, .var j, .var k]) m H P = at? m i fun v => at? m j fun w => at? m k fun z => C f [v, w, z] H P := rfl
theorem Vj {op : U} {i : Nat} : wpE C (.un op (.var i)) m H P = at? m i fun v => wpU op v H P := rfl
theorem Yg {op : B} {i : Nat} {k : Int} : wpE C (.bin op (.var i) (.int k)) m H P = at? m i fun v => wpB op v (.int k) H P := rfl
theorem Yy {op : B} {i j : Nat} : wpE C (.bin op (.var i) (.var j)) m H P = at? m i fun v => at? m j fun w => wpB op v w H P := rfl
theorem Ys {op : B} {a : X} {k : Int} : wpE C (.bin op a (.int k)) m H P = wpE C a m H fun v H₁ => wpB op v (.int k) H₁ P := rfl
theorem Yo {op : B} {a : X} {i : Nat} : wpE C (.bin op a (.var i)) m H P = wpE C a m H fun v H₁ => at? m i fun w => wpB op v w H₁ P := rfl
theorem Yp {op : B} {b : X} {k : Int} : wpE C (.bin op (.int k) b) m H P = wpE C b m H fun w H₁ => wpB op (.int k) w H₁ P := rfl
theorem Ye {op : B} {b : X} {i : Nat} : wpE C (.bin op (.var i) b) m H P = at? m i fun v => wpE C b m H fun w H₁ => wpB op v w H₁ P := rfl
theorem Yc : wpSs C [] m H Q = Q .next m H := rfl
noncomputable def thenS (F : Loc → Hp → Prop) (Q : PF) : PF := fun f m' H' => match f with | .next => F m' H' | .ret v => Q (.ret v) m' H'
theorem Zu {F : Loc → Hp → Prop} : thenS F Q .next m H = F m H := rfl
theorem ZB {F : Loc → Hp → Prop} {v : V} : thenS F Q (.ret v) m H = Q (.ret v) m H := rfl
theorem s_cons {s : S} {r : List S} : wpSs C (s :: r) m H Q = wpS C s m H (thenS (fun m' H' => wpSs C r m' H' Q) Q) := rfl
theorem ZA {i : Nat} {e : X} : wpS C (.assign i e) m H Q = wpE C e m H fun v H₁ => Q .next (m.set i (some v)) H₁ := rfl
/-- a statement, with the rest by a name -/
theorem VC {s : S} {r : List S} (h : let J := fun m' H' => wpSs C r m' H' Q; wpS C s m H (thenS J Q)) : wpSs C (s :: r) m H Q := by rw [s_cons]; exact h
theorem Vx {s : S} (h : wpS C s m H Q) : wpSs C [s] m H Q := by
  rw [s_cons]
  have e : thenS (fun m' H' => wpSs C [] m' H' Q) Q = Q := by
    funext f m' H'
    cases f with
    | next => show wpSs C [] m' H' Q = _; exact Yc
    | ret v => rfl
  rw [e]; exact h
noncomputable def isNone (v : V) (A : Prop) : Prop := match v with | .none => A | _ => False
theorem ZG {A : Prop} : isNone .none A = A := rfl
theorem ZS {e : X} : wpS C (.expr e) m H Q = wpE C e m H fun v H₁ => isNone v (Q .next m H₁) := rfl
theorem Yb {e : X} : wpS C (.ret e) m H Q = wpE C e m H fun v H₁ => Q (.ret v) m H₁ := rfl
theorem Yr {t : X} {b c : List S} : wpS C (.ite t b c) m H Q = wpE C t m H fun v H₁ => branch v (wpSs C b m H₁ Q) (wpSs C c m H₁ Q) := rfl
noncomputable def appL (r : V) (F : Nat → Prop) : Prop := match r with | .ref k => F k | _ => False
theorem ZL {k : Nat} {F : Nat → Prop} : appL (.ref k) F = F k := rfl
theorem ZF {a e : X} : wpS C (.append a e) m H Q = wpE C a m H fun r H₁ => appL r fun k => wpE C e m H₁ fun v H₂ => withL H₂ k fun vs => vs.length < room ∧ Q .next m (H₂.set k (vs ++ [v])) := rfl
noncomputable def setL (r w : V) (F : Nat → Int → Prop) : Prop := match r, w with | .ref k, .int j => F k j | _, _ => False
theorem ZI {k : Nat} {j : Int} {F : Nat → Int → Prop} : setL (.ref k) (.int j) F = F k j := rfl
theorem Zx {a i e : X} : wpS C (.setItem a i e) m H Q = wpE C e m H fun v H₁ => wpE C a m H₁ fun r H₂ => wpE C i m H₂ fun w H₃ => setL r w fun k j => withL H₃ k fun vs => 0 ≤ j ∧ j < vs.length ∧ Q .next m (H₃.set k (vs.set j.toNat v)) := rfl
noncomputable def putL (is : List Nat) (v : V) (m : Loc) (F : Loc → Prop) : Prop := match put is v m with | some m₁ => F m₁ | Option.none => False
theorem ZM {i j : Nat} {v w : V} {F : Loc → Prop} : putL [i, j] (.tup [v, w]) m F = F ((m.set i (some v)).set j (some w)) := rfl
theorem ZD {is : List Nat} {e : X} : wpS C (.unpack is e) m H Q = wpE C e m H fun v H₁ => putL is v m fun m₁ => Q .next m₁ H₁ := rfl

variable {a b : Int}
theorem YF : wpU .neg (.int a) H P = P (.int (-a)) H := rfl
theorem Zz {k : Nat} : wpU .len (.ref k) H P = withL H k fun vs => P (.int vs.length) H := optV_L
theorem Zy {vs : List V} : wpU .len (.tup vs) H P = P (.int vs.length) H := rfl
theorem Zw {xs : List Int} : wpU .len (.frz xs) H P = P (.int xs.length) H := rfl
theorem Zt {k : Nat} : wpU .list (.ref k) H P = withL H k fun vs => P (.ref H.length) (H ++ [vs]) := optV_L
theorem Zr {vs : List V} : wpU .list (.tup vs) H P = P (.ref H.length) (H ++ [vs]) := rfl
theorem Zo {k : Nat} : wpU .tuple (.ref k) H P = withL H k fun vs => P (.tup vs) H := optV_L
theorem Zv {k : Nat} : wpU .sum (.ref k) H P = withL H k fun vs => withI vs fun is => P (.int is.sum) H := by
  show optV H[k]? (fun vs => optV (zl? vs) fun is => P (.int is.sum) H) = _
  rw [optV_L]; congr 1; funext vs; exact optV_I
theorem Zn : wpU .isInt (.int a) H P = P (.bool true) H := rfl
theorem Zi : wpU .isInt .none H P = P (.bool false) H := rfl
theorem Zp {k : Nat} : wpU .isInt (.ref k) H P = P (.bool false) H := rfl
theorem Zl : wpU .isBool (.int a) H P = P (.bool false) H := rfl
theorem Zd {b : Bool} : wpU .isBool (.bool b) H P = P (.bool true) H := rfl
theorem Zk {k : Nat} : wpU .isList (.ref k) H P = P (.bool true) H := rfl
theorem Ze : wpU .isList .none H P = P (.bool false) H := rfl
theorem Zj {vs : List V} : wpU .isList (.tup vs) H P = P (.bool false) H := rfl
theorem Zf {vs : List V} : wpU .isTuple (.tup vs) H P = P (.bool true) H := rfl
theorem Zg {k : Nat} : wpU .isTuple (.ref k) H P = P (.bool false) H := rfl
theorem Za : wpU .isTuple .none H P = P (.bool false) H := rfl
theorem Yq : wpB .add (.int a) (.int b) H P = P (.int (a + b)) H := rfl
theorem YB : wpB .sub (.int a) (.int b) H P = P (.int (a - b)) H := rfl
theorem Yv : wpB .mul (.int a) (.int b) H P = ((Small a ∨ Small b) ∧ P (.int (a * b)) H) := rfl
theorem ZW : wpB .fdiv (.int a) (.int b) H P = (0 < b ∧ b < 1000000000 ∧ P (.int (a / b)) H) := rfl
theorem Yx : wpB .mod (.int a) (.int b) H P = (0 < b ∧ P (.int (a % b)) H) := rfl
theorem YX : wpB .lt (.int a) (.int b) H P = P (.bool (decide (a < b))) H := rfl
theorem YZ : wpB .le (.int a) (.int b) H P = P (.bool (decide (a ≤ b))) H := rfl
theorem Vm : wpB .gt (.int a) (.int b) H P = P (.bool (decide (b < a))) H := rfl
theorem YW : wpB .ge (.int a) (.int b) H P = P (.bool (decide (b ≤ a))) H := rfl
theorem Yj : wpB .max (.int a) (.int b) H P = P (.int (if a < b then b else a)) H := rfl
theorem YH : wpB .min (.int a) (.int b) H P = P (.int (if b < a then b else a)) H := rfl
theorem eqv_int {a b : Int} : PyData.eqv (.int a) (.int b) = decide (a = b) := by
  show (a == b) = _
  by_cases h : a = b <;> simp [h]
theorem Vp : wpB .eq (.int a) (.int b) H P = P (.bool (decide (a = b))) H := by
  show P (.bool (PyData.eqv (.int a) (.int b))) H = _; rw [eqv_int]
theorem Vn : wpB .ne (.int a) (.int b) H P = P (.bool (!decide (a = b))) H := by
  show P (.bool (!PyData.eqv (.int a) (.int b))) H = _; rw [eqv_int]
noncomputable def itemOf (vs : List V) (i : Int) (F : V → Prop) : Prop := match place i vs.length with | some j => (match vs[j]? with | some x => F x | Option.none => False) | Option.none => False
theorem optV_item {vs : List V} {i : Int} {F : V → Prop} : (optV (place i vs.length) fun j => optV vs[j]? F) = itemOf vs i F := by
  unfold itemOf
  cases place i vs.length with
  | none => rfl
  | some j =>
    show optV vs[j]? F = match vs[j]? with | some x => F x | Option.none => False
    cases vs[j]? <;> rfl
theorem Zq {k : Nat} {i : Int} : wpB .item (.ref k) (.int i) H P = withL H k fun vs => itemOf vs i fun x => P x H := by
  show optV H[k]? (fun vs => optV (place i vs.length) fun j => optV vs[j]? fun x => P x H) = _
  rw [optV_L]; congr 1; funext vs; exact optV_item
theorem Zs {vs : List V} {i : Int} : wpB .item (.tup vs) (.int i) H P = itemOf vs i fun x => P x H := optV_item
theorem b_item_frz {xs : List Int} {i : Int} (h0 : 0 ≤ i) (h1 : i < xs.length) : wpB .item (.frz xs) (.int i) H P = P (.int (xs.getD i.toNat 0)) H := by
  have hj : i.toNat < xs.length := by lia
  show optV (place i xs.length) (fun j => optV xs[j]? fun x => P (.int x) H) = _
  simp only [place, h0, h1, and_self, if_true, optV, List.getElem?_eq_getElem hj, List.getD_eq_getElem?_getD, Option.getD_some]
theorem Wa {vs : List V} {i : Int} {v : V} {F : V → Prop} (h0 : 0 ≤ i) (h : vs[i.toNat]? = some v) (q : F v) : itemOf vs i F := by
  have hj : i.toNat < vs.length := (List.getElem?_eq_some_iff.mp h).1
  simp only [itemOf, place, h0, show i < vs.length by lia, and_self, if_true, h]; exact q
theorem zl_get {xs : List Int} {j : Nat} (h : j < xs.length) : (zl xs)[j]? = some (.int xs[j]) := by simp [zl, h]
end

theorem run_succ {T : Nat → Option Fn} {n k : Nat} {d : Fn} {vs : List V} {H : Hp} {P : PV} (hT : T k = some d) (h1 : vs.length = d.params) (h2 : d.params ≤ d.locals)
    (h : wpSs (run T n) d.body (entry d vs) H fun fl _ H' => match fl with | .next => P .none H' | .ret v => P v H') : run T (n + 1) k vs H P := by
  simp only [run, hT]; exact ⟨h1, h2, h⟩

theorem loop_ofQ {C : Calls} {t : X} {b : List S} {m : Loc} {H : Hp} {Q : PF} (hC : LeC C C) (I : Nat → Loc → Hp → Prop) (k : Nat) (h0 : I k m H)
    (step : ∀ k m H, I k m H → wpE C t m H fun c H₁ => branch c (wpSs C b m H₁ (thenS (fun m' H' => ∃ k', k' < k ∧ I k' m' H') Q)) (Q .next m H₁)) :
    wpS C (.loop t b) m H Q := by
  simp only [ws_assign, ws_unpack, ws_setItem, ws_append, ws_expr, ws_ite, ws_loop, ws_each, ws_ret, ws_raise]
  exact ⟨k + 1, loop_inv (fun m H P P' h q => Wd (m := m) (H := H) hC t h q) (fun m H P P' h q => monoSs (m := m) (H := H) hC b h q) I step (k + 1) k m H (by lia) h0⟩

theorem VB (T : Nat → Option Fn) (n : Nat) : LeC (run T n) (run T n) := run_le T (Nat.le_refl _)


/-- no return -/
noncomputable def noRet : PF := fun _ _ _ => False
theorem no_ret {R : Loc → Hp → Prop} {Q : PF} : LeF (thenS R noRet) (thenS R Q) := fun f m H q => by
  cases f with
  | next => exact q
  | ret v => exact q.elim

/-- a cut between two statements -/
theorem s_cutQ {C : Calls} {s : S} {r : List S} {m : Loc} {H : Hp} {Q : PF} (hC : LeC C C) (R : Loc → Hp → Prop) (h1 : wpS C s m H (thenS R Q)) (h2 : ∀ m' H', R m' H' → wpSs C r m' H' Q) : wpSs C (s :: r) m H Q := by
  rw [s_cons]
  refine monoS hC s (fun f m' H' q => ?_) h1
  cases f with
  | next => exact h2 m' H' q
  | ret v => exact q

theorem s_cut {C : Calls} {s : S} {r : List S} {m : Loc} {H : Hp} {Q : PF} (hC : LeC C C) (R : Loc → Hp → Prop) (h1 : wpS C s m H (thenS R noRet)) (h2 : ∀ m' H', R m' H' → wpSs C r m' H' Q) : wpSs C (s :: r) m H Q :=
  s_cutQ hC R (monoS hC s no_ret h1) h2

theorem loop_of {C : Calls} {t : X} {b : List S} {m : Loc} {H : Hp} {Q : PF} (hC : LeC C C) (I : Nat → Loc → Hp → Prop) (k : Nat) (h0 : I k m H)
    (step : ∀ k m H, I k m H → wpE C t m H fun c H₁ => branch c (wpSs C b m H₁ (thenS (fun m' H' => ∃ k', k' < k ∧ I k' m' H') noRet)) (Q .next m H₁)) :
    wpS C (.loop t b) m H Q := by
  refine loop_ofQ hC I k h0 fun k m H hi => Wd hC t (fun c H₁ q => ?_) (step k m H hi)
  unfold branch at q ⊢
  split at q
  · exact monoSs hC b no_ret q
  · exact q
  · exact q.elim

/-- the post of a step, by a name -/
theorem Vy {C : Calls} {b : List S} {m : Loc} {H : Hp} {I : Loc → Hp → Prop} {Q : PF} (h : let J := I; wpSs C b m H (thenS J Q)) : wpSs C b m H (thenS I Q) := h
theorem Vw {C : Calls} {t : X} {b : List S} {m : Loc} {H : Hp} {I : Loc → Hp → Prop} {Q : PF} {A : Hp → Prop} (h : let J := I; wpE C t m H fun c H₁ => branch c (wpSs C b m H₁ (thenS J Q)) (A H₁)) : wpE C t m H fun c H₁ => branch c (wpSs C b m H₁ (thenS I Q)) (A H₁) := h
theorem post_letS {C : Calls} {b : S} {m : Loc} {H : Hp} {I : Loc → Hp → Prop} {Q : PF} (h : let J := I; wpS C b m H (thenS J Q)) : wpS C b m H (thenS I Q) := h

/-! ## loops -/
noncomputable def eachOf (C : Calls) (is : List Nat) (it : It) (b : List S) (v w : V) (m : Loc) (H : Hp) (Q : PF) : Prop := match items it v w H with
  | some (vs, src) => wpEach is (fun m H Q => wpSs C b m H Q) src Q vs m H
  | Option.none => False
theorem ZT {C : Calls} {is : List Nat} {it : It} {a c : X} {b : List S} {m : Loc} {H : Hp} {Q : PF} : wpS C (.each is it a c b) m H Q = wpE C a m H fun v H₁ => wpE C c m H₁ fun w H₂ => eachOf C is it b v w m H₂ Q := rfl

theorem nums_len (lo : Int) (n : Nat) : (nums lo n).length = n := by simp [nums]
theorem nums_get {lo : Int} {n k : Nat} {v : V} (h : (nums lo n)[k]? = some v) : k < n ∧ v = .int (lo + k) := by
  have hk : k < n := by have := (List.getElem?_eq_some_iff.mp h).1; rwa [nums_len] at this
  refine ⟨hk, ?_⟩
  simp only [nums, List.getElem?_map, List.getElem?_range hk, Option.map_some, Option.some.injEq] at h
  exact h.symm

theorem each_rangeQ {C : Calls} {i : Nat} {b : List S} {lo hi : Int} {m : Loc} {H : Hp} {Q : PF} (hC : LeC C C) (hlo : -1000000 ≤ lo ∧ lo ≤ 1000000) (hhi : -1000000 ≤ hi ∧ hi ≤ 1000000) (I : Nat → Loc → Hp → Prop) (h0 : I 0 m H)
    (step : ∀ k m H, k < (hi - lo).toNat → I k m H → wpSs C b (m.set i (some (.int (lo + k)))) H (thenS (I (k + 1)) Q)) (fin : ∀ m H, I (hi - lo).toNat m H → Q .next m H) : eachOf C [i] .range b (.int lo) (.int hi) m H Q := by
  have hb : -1000000 ≤ lo ∧ lo ≤ 1000000 ∧ -1000000 ≤ hi ∧ hi ≤ 1000000 := ⟨hlo.1, hlo.2, hhi.1, hhi.2⟩
  simp only [eachOf, items, hb, and_self, if_true]
  refine each_inv (fun m H P P' h q => monoSs (m := m) (H := H) hC b h q) I _ (fun _ _ _ _ => fun p hp => by cases hp) (fun k v m H hv hi => ?_) (fun m H hi => fin m H (by rwa [nums_len] at hi)) h0
  obtain ⟨hk, rfl⟩ := nums_get hv
  exact ⟨_, rfl, step k m H hk hi⟩

theorem each_range {C : Calls} {i : Nat} {b : List S} {lo hi : Int} {m : Loc} {H : Hp} {Q : PF} (hC : LeC C C) (hlo : -1000000 ≤ lo ∧ lo ≤ 1000000) (hhi : -1000000 ≤ hi ∧ hi ≤ 1000000) (I : Nat → Loc → Hp → Prop) (h0 : I 0 m H)
    (step : ∀ k m H, k < (hi - lo).toNat → I k m H → wpSs C b (m.set i (some (.int (lo + k)))) H (thenS (I (k + 1)) noRet)) (fin : ∀ m H, I (hi - lo).toNat m H → Q .next m H) : eachOf C [i] .range b (.int lo) (.int hi) m H Q :=
  each_rangeQ hC hlo hhi I h0 (fun k m H hk hi => monoSs hC b no_ret (step k m H hk hi)) fin

theorem each_refQ {C : Calls} {i k : Nat} {b : List S} {vs : List V} {m : Loc} {H : Hp} {Q : PF} (hC : LeC C C) (hk : H[k]? = some vs) (I : Nat → Loc → Hp → Prop) (h0 : I 0 m H) (hs : ∀ j m H, I j m H → H[k]? = some vs)
    (step : ∀ j v m H, vs[j]? = some v → I j m H → wpSs C b (m.set i (some v)) H (thenS (I (j + 1)) Q)) (fin : ∀ m H, I vs.length m H → Q .next m H) : eachOf C [i] .seq b (.ref k) .none m H Q := by
  simp only [eachOf, items, seqOf, hk]
  refine each_inv (fun m H P P' h q => monoSs (m := m) (H := H) hC b h q) I _ (fun j m H hi => fun p hp => by simp only [List.mem_singleton] at hp; subst hp; exact hs j m H hi) (fun j v m H hv hi => ⟨_, rfl, step j v m H hv hi⟩) fin h0

theorem each_ref {C : Calls} {i k : Nat} {b : List S} {vs : List V} {m : Loc} {H : Hp} {Q : PF} (hC : LeC C C) (hk : H[k]? = some vs) (I : Nat → Loc → Hp → Prop) (h0 : I 0 m H) (hs : ∀ j m H, I j m H → H[k]? = some vs)
    (step : ∀ j v m H, vs[j]? = some v → I j m H → wpSs C b (m.set i (some v)) H (thenS (I (j + 1)) noRet)) (fin : ∀ m H, I vs.length m H → Q .next m H) : eachOf C [i] .seq b (.ref k) .none m H Q :=
  each_refQ hC hk I h0 hs (fun j v m H hv hi => monoSs hC b no_ret (step j v m H hv hi)) fin

theorem each_tupQ {C : Calls} {i : Nat} {b : List S} {vs : List V} {m : Loc} {H : Hp} {Q : PF} (hC : LeC C C) (I : Nat → Loc → Hp → Prop) (h0 : I 0 m H)
    (step : ∀ j v m H, vs[j]? = some v → I j m H → wpSs C b (m.set i (some v)) H (thenS (I (j + 1)) Q)) (fin : ∀ m H, I vs.length m H → Q .next m H) : eachOf C [i] .seq b (.tup vs) .none m H Q := by
  simp only [eachOf, items, seqOf]
  exact each_inv (fun m H P P' h q => monoSs (m := m) (H := H) hC b h q) I _ (fun j m H hi => fun p hp => by cases hp) (fun j v m H hv hi => ⟨_, rfl, step j v m H hv hi⟩) fin h0

theorem each_tup {C : Calls} {i : Nat} {b : List S} {vs : List V} {m : Loc} {H : Hp} {Q : PF} (hC : LeC C C) (I : Nat → Loc → Hp → Prop) (h0 : I 0 m H)
    (step : ∀ j v m H, vs[j]? = some v → I j m H → wpSs C b (m.set i (some v)) H (thenS (I (j + 1)) noRet)) (fin : ∀ m H, I vs.length m H → Q .next m H) : eachOf C [i] .seq b (.tup vs) .none m H Q :=
  each_tupQ hC I h0 (fun j v m H hv hi => monoSs hC b no_ret (step j v m H hv hi)) fin

theorem each_revQ {C : Calls} {i k : Nat} {b : List S} {vs : List V} {m : Loc} {H : Hp} {Q : PF} (hC : LeC C C) (hk : H[k]? = some vs) (I : Nat → Loc → Hp → Prop) (h0 : I 0 m H) (hs : ∀ j m H, I j m H → H[k]? = some vs)
    (step : ∀ j v m H, vs.reverse[j]? = some v → I j m H → wpSs C b (m.set i (some v)) H (thenS (I (j + 1)) Q)) (fin : ∀ m H, I vs.length m H → Q .next m H) : eachOf C [i] .rev b (.ref k) .none m H Q := by
  simp only [eachOf, items, hk]
  refine each_inv (fun m H P P' h q => monoSs (m := m) (H := H) hC b h q) I _ (fun j m H hi => fun p hp => by simp only [List.mem_singleton] at hp; subst hp; exact hs j m H hi) (fun j v m H hv hi => ⟨_, rfl, step j v m H hv hi⟩) (fun m H h => fin m H (by rwa [List.length_reverse] at h)) h0

theorem each_rev {C : Calls} {i k : Nat} {b : List S} {vs : List V} {m : Loc} {H : Hp} {Q : PF} (hC : LeC C C) (hk : H[k]? = some vs) (I : Nat → Loc → Hp → Prop) (h0 : I 0 m H) (hs : ∀ j m H, I j m H → H[k]? = some vs)
    (step : ∀ j v m H, vs.reverse[j]? = some v → I j m H → wpSs C b (m.set i (some v)) H (thenS (I (j + 1)) noRet)) (fin : ∀ m H, I vs.length m H → Q .next m H) : eachOf C [i] .rev b (.ref k) .none m H Q :=
  each_revQ hC hk I h0 hs (fun j v m H hv hi => monoSs hC b no_ret (step j v m H hv hi)) fin

theorem pairs_get {vs : List V} {j : Nat} {v : V} (h : (pairs (nums 0 vs.length) vs)[j]? = some v) : ∃ x, vs[j]? = some x ∧ v = .tup [.int j, x] := by
  have hj : j < vs.length := by have := (List.getElem?_eq_some_iff.mp h).1; simpa [pairs, nums_len] using this
  refine ⟨vs[j], by simp [hj], ?_⟩
  simp only [pairs, nums, List.getElem?_map, List.getElem?_zip_eq_some, Option.map_eq_some_iff] at h
  obtain ⟨⟨a, c⟩, ⟨h1, h2⟩, h3⟩ := h
  simp only [List.getElem?_range hj, Option.map_some, Option.some.injEq, List.getElem?_eq_getElem hj] at h1 h2
  obtain ⟨a', rfl, rfl⟩ := h1
  subst h2
  rw [← h3]; simp

theorem each_enumQ {C : Calls} {i i' k : Nat} {b : List S} {vs : List V} {m : Loc} {H : Hp} {Q : PF} (hC : LeC C C) (hk : H[k]? = some vs) (I : Nat → Loc → Hp → Prop) (h0 : I 0 m H) (hs : ∀ j m H, I j m H → H[k]? = some vs)
    (step : ∀ (j : Nat) v m H, vs[j]? = some v → I j m H → wpSs C b ((m.set i (some (.int j))).set i' (some v)) H (thenS (I (j + 1)) Q)) (fin : ∀ m H, I vs.length m H → Q .next m H) : eachOf C [i, i'] .enum b (.ref k) .none m H Q := by
  simp only [eachOf, items, hk]
  refine each_inv (fun m H P P' h q => monoSs (m := m) (H := H) hC b h q) I _ (fun j m H hi => fun p hp => by simp only [List.mem_singleton] at hp; subst hp; exact hs j m H hi) (fun j v m H hv hi => ?_)
    (fun m H h => fin m H (by have e : (pairs (nums 0 vs.length) vs).length = vs.length := by simp [pairs, nums_len]
                              rwa [e] at h)) h0
  obtain ⟨x, hx, rfl⟩ := pairs_get hv
  exact ⟨_, rfl, step j x m H hx hi⟩

/-! ## comprehensions -/
theorem each_enum {C : Calls} {i i' k : Nat} {b : List S} {vs : List V} {m : Loc} {H : Hp} {Q : PF} (hC : LeC C C) (hk : H[k]? = some vs) (I : Nat → Loc → Hp → Prop) (h0 : I 0 m H) (hs : ∀ j m H, I j m H → H[k]? = some vs)
    (step : ∀ (j : Nat) v m H, vs[j]? = some v → I j m H → wpSs C b ((m.set i (some (.int j))).set i' (some v)) H (thenS (I (j + 1)) noRet)) (fin : ∀ m H, I vs.length m H → Q .next m H) : eachOf C [i, i'] .enum b (.ref k) .none m H Q :=
  each_enumQ hC hk I h0 hs (fun j v m H hv hi => monoSs hC b no_ret (step j v m H hv hi)) fin

theorem comp_inv {cond elt : V → Hp → PV → Prop} (hc : ∀ v H P P', LeP P P' → cond v H P → cond v H P') (he : ∀ v H P P', LeP P P' → elt v H P → elt v H P') {src : List (Nat × List V)} {P : PV} (I : Nat → List V → Hp → Prop) (vs : List V)
    (hs : ∀ k acc H, I k acc H → Still src H)
    (step : ∀ k v acc H, vs[k]? = some v → I k acc H → cond v H fun c H₁ => branch c (elt v H₁ fun y H₂ => I (k + 1) (acc ++ [y]) H₂) (I (k + 1) acc H₁))
    (fin : ∀ acc H, I vs.length acc H → P (.ref H.length) (H ++ [acc])) {H : Hp} (h0 : I 0 [] H) : wpComp cond elt src vs [] H P := by
  suffices ∀ (r pre acc : List V) (H : Hp), vs = pre ++ r → I pre.length acc H → wpComp cond elt src r acc H P from this vs [] [] H rfl h0
  intro r
  induction r with
  | nil =>
    intro pre acc H e hi
    refine ⟨hs _ _ _ hi, fin _ _ ?_⟩
    rw [e]; simpa using hi
  | cons v r ih =>
    intro pre acc H e hi
    refine ⟨hs _ _ _ hi, hc _ _ _ _ (fun c H₁ q => ?_) (step pre.length v acc H (by rw [e]; simp) hi)⟩
    unfold branch at q
    split at q
    · rename_i e'
      (try simp only [e'])
      exact he _ _ _ _ (fun y H₂ q => ih (pre ++ [v]) (acc ++ [y]) H₂ (by simp [e]) (by simpa using q)) q
    · rename_i e'
      (try simp only [e'])
      exact ih (pre ++ [v]) acc H₁ (by simp [e]) (by simpa using q)
    · exact q.elim

noncomputable def compOf (C : Calls) (elt : X) (n : Nat) (it : It) (cond : X) (v w : V) (m : Loc) (H : Hp) (P : PV) : Prop := match items it v w H with
  | some (vs, src) => wpComp (fun x H P => match bound n x with | some l => wpE C cond (m ++ l) H P | Option.none => False) (fun x H P => match bound n x with | some l => wpE C elt (m ++ l) H P | Option.none => False) src vs [] H P
  | Option.none => False
theorem ZQ {C : Calls} {elt : X} {n : Nat} {it : It} {a b cond : X} {m : Loc} {H : Hp} {P : PV} : wpE C (.comp elt n it a b cond) m H P = wpE C a m H fun v H₁ => wpE C b m H₁ fun w H₂ => compOf C elt n it cond v w m H₂ P := rfl

theorem comp_range {C : Calls} {elt cond : X} {lo hi : Int} {m : Loc} {H : Hp} {P : PV} (hC : LeC C C) (hlo : -1000000 ≤ lo ∧ lo ≤ 1000000) (hhi : -1000000 ≤ hi ∧ hi ≤ 1000000) (I : Nat → List V → Hp → Prop) (h0 : I 0 [] H)
    (step : ∀ k acc H, k < (hi - lo).toNat → I k acc H → wpE C cond (m ++ [some (.int (lo + k))]) H fun c H₁ => branch c (wpE C elt (m ++ [some (.int (lo + k))]) H₁ fun y H₂ => I (k + 1) (acc ++ [y]) H₂) (I (k + 1) acc H₁))
    (fin : ∀ acc H, I (hi - lo).toNat acc H → P (.ref H.length) (H ++ [acc])) : compOf C elt 1 .range cond (.int lo) (.int hi) m H P := by
  have hb : -1000000 ≤ lo ∧ lo ≤ 1000000 ∧ -1000000 ≤ hi ∧ hi ≤ 1000000 := ⟨hlo.1, hlo.2, hhi.1, hhi.2⟩
  simp only [compOf, items, hb, and_self, if_true]
  refine comp_inv (fun v H P P' h q => Wd (m := m ++ [some v]) (H := H) hC cond h q) (fun v H P P' h q => Wd (m := m ++ [some v]) (H := H) hC elt h q) I _ (fun _ _ _ _ => fun p hp => by cases hp) (fun k v acc H hv hi => ?_) (fun acc H h => fin acc H (by rwa [nums_len] at h)) h0
  obtain ⟨hk, rfl⟩ := nums_get hv
  exact step k acc H hk hi

theorem comp_ref {C : Calls} {elt cond : X} {k : Nat} {vs : List V} {m : Loc} {H : Hp} {P : PV} (hC : LeC C C) (hk : H[k]? = some vs) (I : Nat → List V → Hp → Prop) (h0 : I 0 [] H) (hs : ∀ j acc H, I j acc H → H[k]? = some vs)
    (step : ∀ j v acc H, vs[j]? = some v → I j acc H → wpE C cond (m ++ [some v]) H fun c H₁ => branch c (wpE C elt (m ++ [some v]) H₁ fun y H₂ => I (j + 1) (acc ++ [y]) H₂) (I (j + 1) acc H₁))
    (fin : ∀ acc H, I vs.length acc H → P (.ref H.length) (H ++ [acc])) : compOf C elt 1 .seq cond (.ref k) .none m H P := by
  simp only [compOf, items, seqOf, hk]
  exact comp_inv (fun v H P P' h q => Wd (m := m ++ [some v]) (H := H) hC cond h q) (fun v H P P' h q => Wd (m := m ++ [some v]) (H := H) hC elt h q) I _ (fun j acc H hi => fun p hp => by simp only [List.mem_singleton] at hp; subst hp; exact hs j acc H hi)
    (fun j v acc H hv hi => step j v acc H hv hi) fin h0

end Mine

open PySem
set_option linter.unusedSimpArgs false
set_option linter.unusedVariables false
namespace Mine

/-! ## rests mod 251 -/
theorem pow_emod (x : Int) (n : Nat) : (x % 251) ^ n % 251 = x ^ n % 251 := by
  induction n with
  | zero => simp
  | succ n ih => rw [Int.pow_succ, Int.pow_succ, Int.mul_emod, ih, Int.emod_emod_of_dvd x (Int.dvd_refl 251), ← Int.mul_emod]

theorem spec_power (n : Nat) (a e : Int) (H : Hp) (P : PV) (he : 0 ≤ e) (h : P (.int (a ^ e.toNat % 251)) H) : run T (n + 1) 0 [.int a, .int e] H P := by
  refine run_succ (d := f_power) rfl rfl (by decide) ?_
  simp only [f_power, entry, List.map, List.replicate, Nat.reduceSub, s_cons, ↓Ve, ↓Vf, ↓Vs, ↓Vl, ↓YU, ↓Vb, ↓Vu, ↓Ym, ↓Vk, ↓VI, ↓Vh, ↓YD, ↓Vj, ↓Yg, ↓Yy, ↓Ys, ↓Yo, ↓Yp, ↓Ye, Yc, ZA, ZS, Yb, Yr, ZF, Zx, ZD, ZT, ZX, ZO, Yd, YG, ZZ, YT, Yn, ZJ, YL, YK, Vc, Yw, ZU, ZR, YC, ZQ, ZV, ZH, YV, Vq, Vd, Vt, Vi, Vr, Va, Vo, Vg, YY, YJ, Yi, Zm, Zh, Zc, Zb, ZC, Zu, ZB, ZL, ZI, ZM, ZG, ZE, YF, Zz, Zy, Zw, Zt, Zr, Zo, Zv, Zn, Zi, Zp, Zl, Zd, Zk, Ze, Zj, Zf, Zg, Za, Yq, YB, Yv, ZW, Yx, YX, YZ, Vm, YW, Yj, YH, Vp, Vn, Zq, Zs, YM, YE, Yk, Yz, Yl, Yu, YA, Yt, Yh, YI, ZP, ZY, List.cons_append, List.nil_append, Bool.not_true, Bool.not_false]
  refine ⟨by decide, loop_of (VB _ _) (fun k m H' => Ex3 fun (f g b : Int) => And9 (0 ≤ b) (b.toNat = k) (0 ≤ f) (f < 251) (0 ≤ g) (g < 251) ((f * g ^ b.toNat) % 251 = a ^ e.toNat % 251) (H' = H) (m = [some (.int a), some (.int b), some (.int f), some (.int g)])) e.toNat ?_ ?_⟩
  · exact ⟨1, a % 251, e, he, rfl, by decide, by decide, by lia, by lia, by rw [Int.one_mul, pow_emod], rfl, rfl⟩
  · rintro k m H' ⟨f, g, b, hb, hk, hf, hf', hg, hg', hh, rfl, rfl⟩
    (try (with_reducible (first | refine Vy ?_ | refine Vw ?_); intro J))
    simp only [s_cons, ↓Ve, ↓Vf, ↓Vs, ↓Vl, ↓YU, ↓Vb, ↓Vu, ↓Ym, ↓Vk, ↓VI, ↓Vh, ↓YD, ↓Vj, ↓Yg, ↓Yy, ↓Ys, ↓Yo, ↓Yp, ↓Ye, Yc, ZA, ZS, Yb, Yr, ZF, Zx, ZD, ZT, ZX, ZO, Yd, YG, ZZ, YT, Yn, ZJ, YL, YK, Vc, Yw, ZU, ZR, YC, ZQ, ZV, ZH, YV, Vq, Vd, Vt, Vi, Vr, Va, Vo, Vg, YY, YJ, Yi, Zm, Zh, Zc, Zb, ZC, Zu, ZB, ZL, ZI, ZM, ZG, ZE, YF, Zz, Zy, Zw, Zt, Zr, Zo, Zv, Zn, Zi, Zp, Zl, Zd, Zk, Ze, Zj, Zf, Zg, Za, Yq, YB, Yv, ZW, Yx, YX, YZ, Vm, YW, Yj, YH, Vp, Vn, Zq, Zs, YM, YE, Yk, Yz, Yl, Yu, YA, Yt, Yh, YI, ZP, ZY, List.cons_append, List.nil_append, Bool.not_true, Bool.not_false]
    have e2 : b.toNat = (b / 2).toNat + (b / 2).toNat + (b % 2).toNat := by lia
    split
    · rename_i hp
      have hlt : (b / 2).toNat < k := by lia
      refine ⟨by decide, ?_⟩
      split
      · rename_i ho
        refine ⟨.inl ⟨by lia, by lia⟩, by decide, .inl ⟨by lia, by lia⟩, by decide, by decide, by decide, _, hlt, f * g % 251, g * g % 251, b / 2, by lia, rfl, by lia, by lia, by lia, by lia, ?_, (by trivial), rfl⟩
        rw [← hh, e2, ho, Int.mul_emod, pow_emod, Int.emod_emod_of_dvd _ (Int.dvd_refl 251), ← Int.mul_emod, Int.mul_pow, Int.pow_add, Int.pow_add]
        congr 1
        show _ = f * (g ^ (b / 2).toNat * g ^ (b / 2).toNat * g ^ 1)
        rw [Int.pow_succ, Int.pow_zero]
        grind
      · rename_i ho
        have ho' : b % 2 = 0 := by lia
        refine ⟨.inl ⟨by lia, by lia⟩, by decide, by decide, by decide, _, hlt, f, g * g % 251, b / 2, by lia, rfl, by lia, by lia, by lia, by lia, ?_, (by trivial), rfl⟩
        rw [← hh, e2, ho', Int.mul_emod, pow_emod, ← Int.mul_emod, Int.mul_pow, Int.pow_add, Int.pow_add]
        congr 1
        show _ = f * (g ^ (b / 2).toNat * g ^ (b / 2).toNat * g ^ 0)
        rw [Int.pow_zero]
        grind
    · rename_i hp
      have : b = 0 := by lia
      subst this
      have : f = a ^ e.toNat % 251 := by rw [← hh]; simp; lia
      rw [← this] at h; exact h

/-- the inverse, mod 251 -/
noncomputable def inv (a : Int) : Int := a ^ 249 % 251
theorem spec_inverse (n : Nat) (a : Int) (H : Hp) (P : PV) (h : P (.int (inv a)) H) : run T (n + 2) 1 [.int a] H P := by
  refine run_succ (d := f_inverse) rfl rfl (by decide) ?_
  simp only [f_inverse, entry, List.map, List.replicate, Nat.reduceSub, s_cons, ↓Ve, ↓Vf, ↓Vs, ↓Vl, ↓YU, ↓Vb, ↓Vu, ↓Ym, ↓Vk, ↓VI, ↓Vh, ↓YD, ↓Vj, ↓Yg, ↓Yy, ↓Ys, ↓Yo, ↓Yp, ↓Ye, Yc, ZA, ZS, Yb, Yr, ZF, Zx, ZD, ZT, ZX, ZO, Yd, YG, ZZ, YT, Yn, ZJ, YL, YK, Vc, Yw, ZU, ZR, YC, ZQ, ZV, ZH, YV, Vq, Vd, Vt, Vi, Vr, Va, Vo, Vg, YY, YJ, Yi, Zm, Zh, Zc, Zb, ZC, Zu, ZB, ZL, ZI, ZM, ZG, ZE, YF, Zz, Zy, Zw, Zt, Zr, Zo, Zv, Zn, Zi, Zp, Zl, Zd, Zk, Ze, Zj, Zf, Zg, Za, Yq, YB, Yv, ZW, Yx, YX, YZ, Vm, YW, Yj, YH, Vp, Vn, Zq, Zs, YM, YE, Yk, Yz, Yl, Yu, YA, Yt, Yh, YI, ZP, ZY, List.cons_append, List.nil_append, Bool.not_true, Bool.not_false]
  exact spec_power n a _ H _ (by decide) h

theorem spec_whole (n : Nat) (a : Int) (H : Hp) (P : PV) (h : P (.bool true) H) : run T (n + 1) 2 [.int a] H P := by
  refine run_succ (d := f_law_whole) rfl rfl (by decide) ?_
  simp only [f_law_whole, entry, List.map, List.replicate, Nat.reduceSub, s_cons, ↓Ve, ↓Vf, ↓Vs, ↓Vl, ↓YU, ↓Vb, ↓Vu, ↓Ym, ↓Vk, ↓VI, ↓Vh, ↓YD, ↓Vj, ↓Yg, ↓Yy, ↓Ys, ↓Yo, ↓Yp, ↓Ye, Yc, ZA, ZS, Yb, Yr, ZF, Zx, ZD, ZT, ZX, ZO, Yd, YG, ZZ, YT, Yn, ZJ, YL, YK, Vc, Yw, ZU, ZR, YC, ZQ, ZV, ZH, YV, Vq, Vd, Vt, Vi, Vr, Va, Vo, Vg, YY, YJ, Yi, Zm, Zh, Zc, Zb, ZC, Zu, ZB, ZL, ZI, ZM, ZG, ZE, YF, Zz, Zy, Zw, Zt, Zr, Zo, Zv, Zn, Zi, Zp, Zl, Zd, Zk, Ze, Zj, Zf, Zg, Za, Yq, YB, Yv, ZW, Yx, YX, YZ, Vm, YW, Yj, YH, Vp, Vn, Zq, Zs, YM, YE, Yk, Yz, Yl, Yu, YA, Yt, Yh, YI, ZP, ZY, List.cons_append, List.nil_append, Bool.not_true, Bool.not_false]
  exact h

/-- the script, read at a place -/
noncomputable def cell (xs : List Int) (k : Int) : Int := if k < xs.length then xs.getD k.toNat 0 else 0

theorem spec_cell (n : Nat) (xs : List Int) (k : Int) (H : Hp) (P : PV) (hk : 0 ≤ k) (h : P (.int (cell xs k)) H) : run T (n + 1) 3 [.frz xs, .int k] H P := by
  refine run_succ (d := f_law_cell_at) rfl rfl (by decide) ?_
  simp only [f_law_cell_at, entry, List.map, List.replicate, Nat.reduceSub, s_cons, ↓Ve, ↓Vf, ↓Vs, ↓Vl, ↓YU, ↓Vb, ↓Vu, ↓Ym, ↓Vk, ↓VI, ↓Vh, ↓YD, ↓Vj, ↓Yg, ↓Yy, ↓Ys, ↓Yo, ↓Yp, ↓Ye, Yc, ZA, ZS, Yb, Yr, ZF, Zx, ZD, ZT, ZX, ZO, Yd, YG, ZZ, YT, Yn, ZJ, YL, YK, Vc, Yw, ZU, ZR, YC, ZQ, ZV, ZH, YV, Vq, Vd, Vt, Vi, Vr, Va, Vo, Vg, YY, YJ, Yi, Zm, Zh, Zc, Zb, ZC, Zu, ZB, ZL, ZI, ZM, ZG, ZE, YF, Zz, Zy, Zw, Zt, Zr, Zo, Zv, Zn, Zi, Zp, Zl, Zd, Zk, Ze, Zj, Zf, Zg, Za, Yq, YB, Yv, ZW, Yx, YX, YZ, Vm, YW, Yj, YH, Vp, Vn, Zq, Zs, YM, YE, Yk, Yz, Yl, Yu, YA, Yt, Yh, YI, ZP, ZY, List.cons_append, List.nil_append, Bool.not_true, Bool.not_false]
  unfold cell at h
  split
  · rename_i hl
    rw [if_pos hl] at h
    rw [b_item_frz hk hl]; exact h
  · rename_i hl
    rw [if_neg hl] at h; exact h

theorem spec_rests (n : Nat) (i j : Nat) (xs ys : List Int) (H : Hp) (P : PV) (hi : H[i]? = some (zl xs)) (hj : H[j]? = some (zl ys)) (hl : ys.length ≤ 1000000) (h : P (.bool (decide (xs = ys))) H) : run T (n + 2) 4 [.ref i, .ref j] H P := by
  have l1 : (zl xs).length = xs.length := by simp [zl]
  have l2 : (zl ys).length = ys.length := by simp [zl]
  refine run_succ (d := f_law_rests) rfl rfl (by decide) ?_
  simp only [f_law_rests, entry, List.map, List.replicate, Nat.reduceSub, VH hi, VH hj, l1, l2, s_cons, ↓Ve, ↓Vf, ↓Vs, ↓Vl, ↓YU, ↓Vb, ↓Vu, ↓Ym, ↓Vk, ↓VI, ↓Vh, ↓YD, ↓Vj, ↓Yg, ↓Yy, ↓Ys, ↓Yo, ↓Yp, ↓Ye, Yc, ZA, ZS, Yb, Yr, ZF, Zx, ZD, ZT, ZX, ZO, Yd, YG, ZZ, YT, Yn, ZJ, YL, YK, Vc, Yw, ZU, ZR, YC, ZQ, ZV, ZH, YV, Vq, Vd, Vt, Vi, Vr, Va, Vo, Vg, YY, YJ, Yi, Zm, Zh, Zc, Zb, ZC, Zu, ZB, ZL, ZI, ZM, ZG, ZE, YF, Zz, Zy, Zw, Zt, Zr, Zo, Zv, Zn, Zi, Zp, Zl, Zd, Zk, Ze, Zj, Zf, Zg, Za, Yq, YB, Yv, ZW, Yx, YX, YZ, Vm, YW, Yj, YH, Vp, Vn, Zq, Zs, YM, YE, Yk, Yz, Yl, Yu, YA, Yt, Yh, YI, ZP, ZY, List.cons_append, List.nil_append, Bool.not_true, Bool.not_false]
  split
  · rename_i he
    have he : xs.length = ys.length := by lia
    refine each_rangeQ (VB _ _) (by decide) (by lia) (fun k m H' => And4 (H' = H) (k ≤ ys.length) ((∃ v, m = [some (.ref i), some (.ref j), v])) (∀ q : Nat, q < k → xs[q]? = ys[q]?)) ⟨rfl, by lia, ⟨_, rfl⟩, fun q hq => by lia⟩ ?_ ?_
    · rintro k m H' hk ⟨rfl, hky, ⟨v, rfl⟩, hq⟩
      (try (with_reducible (first | refine Vy ?_ | refine Vw ?_); intro J))
      have hk' : k < ys.length := by lia
      simp only [VH hi, VH hj, s_cons, ↓Ve, ↓Vf, ↓Vs, ↓Vl, ↓YU, ↓Vb, ↓Vu, ↓Ym, ↓Vk, ↓VI, ↓Vh, ↓YD, ↓Vj, ↓Yg, ↓Yy, ↓Ys, ↓Yo, ↓Yp, ↓Ye, Yc, ZA, ZS, Yb, Yr, ZF, Zx, ZD, ZT, ZX, ZO, Yd, YG, ZZ, YT, Yn, ZJ, YL, YK, Vc, Yw, ZU, ZR, YC, ZQ, ZV, ZH, YV, Vq, Vd, Vt, Vi, Vr, Va, Vo, Vg, YY, YJ, Yi, Zm, Zh, Zc, Zb, ZC, Zu, ZB, ZL, ZI, ZM, ZG, ZE, YF, Zz, Zy, Zw, Zt, Zr, Zo, Zv, Zn, Zi, Zp, Zl, Zd, Zk, Ze, Zj, Zf, Zg, Za, Yq, YB, Yv, ZW, Yx, YX, YZ, Vm, YW, Yj, YH, Vp, Vn, Zq, Zs, YM, YE, Yk, Yz, Yl, Yu, YA, Yt, Yh, YI, ZP, ZY, List.cons_append, List.nil_append, Bool.not_true, Bool.not_false]
      refine Wa (by lia) (zl_get (xs := xs) (by lia)) ?_
      refine spec_whole _ _ _ _ ?_
      simp only [VH hi, VH hj, s_cons, ↓Ve, ↓Vf, ↓Vs, ↓Vl, ↓YU, ↓Vb, ↓Vu, ↓Ym, ↓Vk, ↓VI, ↓Vh, ↓YD, ↓Vj, ↓Yg, ↓Yy, ↓Ys, ↓Yo, ↓Yp, ↓Ye, Yc, ZA, ZS, Yb, Yr, ZF, Zx, ZD, ZT, ZX, ZO, Yd, YG, ZZ, YT, Yn, ZJ, YL, YK, Vc, Yw, ZU, ZR, YC, ZQ, ZV, ZH, YV, Vq, Vd, Vt, Vi, Vr, Va, Vo, Vg, YY, YJ, Yi, Zm, Zh, Zc, Zb, ZC, Zu, ZB, ZL, ZI, ZM, ZG, ZE, YF, Zz, Zy, Zw, Zt, Zr, Zo, Zv, Zn, Zi, Zp, Zl, Zd, Zk, Ze, Zj, Zf, Zg, Za, Yq, YB, Yv, ZW, Yx, YX, YZ, Vm, YW, Yj, YH, Vp, Vn, Zq, Zs, YM, YE, Yk, Yz, Yl, Yu, YA, Yt, Yh, YI, ZP, ZY, List.cons_append, List.nil_append, Bool.not_true, Bool.not_false]
      refine Wa (by lia) (zl_get (xs := xs) (by lia)) (Wa (by lia) (zl_get (xs := ys) (by lia)) ?_)
      have e0 : ((0 : Int) + (k : Int)).toNat = k := by lia
      simp only [e0, s_cons, ↓Ve, ↓Vf, ↓Vs, ↓Vl, ↓YU, ↓Vb, ↓Vu, ↓Ym, ↓Vk, ↓VI, ↓Vh, ↓YD, ↓Vj, ↓Yg, ↓Yy, ↓Ys, ↓Yo, ↓Yp, ↓Ye, Yc, ZA, ZS, Yb, Yr, ZF, Zx, ZD, ZT, ZX, ZO, Yd, YG, ZZ, YT, Yn, ZJ, YL, YK, Vc, Yw, ZU, ZR, YC, ZQ, ZV, ZH, YV, Vq, Vd, Vt, Vi, Vr, Va, Vo, Vg, YY, YJ, Yi, Zm, Zh, Zc, Zb, ZC, Zu, ZB, ZL, ZI, ZM, ZG, ZE, YF, Zz, Zy, Zw, Zt, Zr, Zo, Zv, Zn, Zi, Zp, Zl, Zd, Zk, Ze, Zj, Zf, Zg, Za, Yq, YB, Yv, ZW, Yx, YX, YZ, Vm, YW, Yj, YH, Vp, Vn, Zq, Zs, YM, YE, Yk, Yz, Yl, Yu, YA, Yt, Yh, YI, ZP, ZY, List.cons_append, List.nil_append, Bool.not_true, Bool.not_false]
      split
      · rename_i hx
        refine ⟨(by trivial), by lia, ⟨_, rfl⟩, fun q hq' => ?_⟩
        rcases Nat.lt_or_ge q k with y | y
        · exact hq q y
        · have : q = k := by lia
          subst this
          rw [List.getElem?_eq_getElem (by lia), List.getElem?_eq_getElem (by lia), hx]
      · rename_i hx
        have : decide (xs = ys) = false := by
          rw [decide_eq_false_iff_not]; intro e; subst e; exact hx rfl
        rw [this] at h; exact h
    · rintro m H' ⟨rfl, _, ⟨v, rfl⟩, hq⟩
      (try (with_reducible (first | refine Vy ?_ | refine Vw ?_); intro J))
      have : xs = ys := by
        apply List.ext_getElem? 
        intro q
        rcases Nat.lt_or_ge q ys.length with y | y
        · exact hq q (by lia)
        · rw [List.getElem?_eq_none (by lia), List.getElem?_eq_none y]
      simp only [this, decide_true] at h
      simp only [s_cons, ↓Ve, ↓Vf, ↓Vs, ↓Vl, ↓YU, ↓Vb, ↓Vu, ↓Ym, ↓Vk, ↓VI, ↓Vh, ↓YD, ↓Vj, ↓Yg, ↓Yy, ↓Ys, ↓Yo, ↓Yp, ↓Ye, Yc, ZA, ZS, Yb, Yr, ZF, Zx, ZD, ZT, ZX, ZO, Yd, YG, ZZ, YT, Yn, ZJ, YL, YK, Vc, Yw, ZU, ZR, YC, ZQ, ZV, ZH, YV, Vq, Vd, Vt, Vi, Vr, Va, Vo, Vg, YY, YJ, Yi, Zm, Zh, Zc, Zb, ZC, Zu, ZB, ZL, ZI, ZM, ZG, ZE, YF, Zz, Zy, Zw, Zt, Zr, Zo, Zv, Zn, Zi, Zp, Zl, Zd, Zk, Ze, Zj, Zf, Zg, Za, Yq, YB, Yv, ZW, Yx, YX, YZ, Vm, YW, Yj, YH, Vp, Vn, Zq, Zs, YM, YE, Yk, Yz, Yl, Yu, YA, Yt, Yh, YI, ZP, ZY, List.cons_append, List.nil_append, Bool.not_true, Bool.not_false]; exact h
  · rename_i he
    have : decide (xs = ys) = false := by
      rw [decide_eq_false_iff_not]; intro e; subst e; exact he rfl
    rw [this] at h; exact h

end Mine

open PySem
set_option linter.unusedSimpArgs false
set_option linter.unusedVariables false
namespace Mine

theorem mod_lin (a b c : Int) : ((a % 251) * b + c) % 251 = (a * b + c) % 251 := by
  rw [Int.add_emod, Int.mul_emod, Int.emod_emod_of_dvd _ (Int.dvd_refl _), ← Int.mul_emod, ← Int.add_emod]

/-- the value of a polynomial, unreduced -/
noncomputable def ev : List Int → Int → Int
  | [], _ => 0
  | a :: r, x => a + x * ev r x

theorem ev_append (xs : List Int) (a x : Int) : ev (xs ++ [a]) x = ev xs x + x ^ xs.length * a := by
  induction xs with
  | nil => simp [ev]
  | cons b r ih => simp only [List.cons_append, ev, ih, List.length_cons, Int.pow_succ]; grind

theorem VR (xs : List Int) : (zl xs).length = xs.length := by simp [zl]
theorem zl_at {xs : List Int} {j : Nat} {v : V} (h : (zl xs)[j]? = some v) : ∃ a, xs[j]? = some a ∧ v = .int a := by
  simp only [zl, List.getElem?_map, Option.map_eq_some_iff] at h
  obtain ⟨a, h1, h2⟩ := h
  exact ⟨a, h1, h2.symm⟩
theorem zl_reverse (xs : List Int) : (zl xs).reverse = zl xs.reverse := by simp [zl]

theorem drop_back {xs : List Int} {j : Nat} {a : Int} (h : xs.reverse[j]? = some a) : xs.drop (xs.length - (j + 1)) = a :: xs.drop (xs.length - j) := by
  have hj : j < xs.length := by have := (List.getElem?_eq_some_iff.mp h).1; simpa using this
  rw [List.getElem?_reverse hj] at h
  have h2 : xs.length - 1 - j < xs.length := by lia
  rw [List.getElem?_eq_getElem h2, Option.some.injEq] at h
  rw [show xs.length - (j + 1) = xs.length - 1 - j by lia, List.drop_eq_getElem_cons h2, h]
  congr 2; lia

theorem spec_value (n k : Nat) (xs : List Int) (x : Int) (H : Hp) (P : PV) (hk : H[k]? = some (zl xs)) (h : P (.int (ev xs x % 251)) H) : run T (n + 1) 6 [.ref k, .int x] H P := by
  refine run_succ (d := f_value) rfl rfl (by decide) ?_
  simp only [f_value, entry, List.map, List.replicate, Nat.reduceSub, List.cons_append, List.nil_append]
  (with_reducible first | refine Vx ?_ | (refine VC ?_; intro J)); simp only [↓Ve, ↓Vf, ↓Vs, ↓Vl, ↓YU, ↓Vb, ↓Vu, ↓Ym, ↓Vk, ↓VI, ↓Vh, ↓YD, ↓Vj, ↓Yg, ↓Yy, ↓Ys, ↓Yo, ↓Yp, ↓Ye, Yc, ZA, ZS, Yb, Yr, ZF, Zx, ZD, ZT, ZX, ZO, Yd, YG, ZZ, YT, Yn, ZJ, YL, YK, Vc, Yw, ZU, ZR, YC, ZQ, ZV, ZH, YV, Vq, Vd, Vt, Vi, Vr, Va, Vo, Vg, YY, YJ, Yi, Zm, Zh, Zc, Zb, ZC, Zu, ZB, ZL, ZI, ZM, ZG, ZE, YF, Zz, Zy, Zw, Zt, Zr, Zo, Zv, Zn, Zi, Zp, Zl, Zd, Zk, Ze, Zj, Zf, Zg, Za, Yq, YB, Yv, ZW, Yx, YX, YZ, Vm, YW, Yj, YH, Vp, Vn, Zq, Zs, YM, YE, Yk, Yz, Yl, Yu, YA, Yt, Yh, YI, ZP, ZY, List.cons_append, List.nil_append, Bool.not_true, Bool.not_false]
  (try change wpSs _ _ _ _ _)
  refine s_cut (VB _ _) (fun m' H' => H' = H ∧ ∃ t, m' = [some (.ref k), some (.int x), some (.int (ev xs x % 251)), t]) ?_ ?_
  · (try (with_reducible refine post_letS ?_; intro J))
    (try simp only [↓Ve, ↓Vf, ↓Vs, ↓Vl, ↓YU, ↓Vb, ↓Vu, ↓Ym, ↓Vk, ↓VI, ↓Vh, ↓YD, ↓Vj, ↓Yg, ↓Yy, ↓Ys, ↓Yo, ↓Yp, ↓Ye, Yc, ZA, ZS, Yb, Yr, ZF, Zx, ZD, ZT, ZX, ZO, Yd, YG, ZZ, YT, Yn, ZJ, YL, YK, Vc, Yw, ZU, ZR, YC, ZQ, ZV, ZH, YV, Vq, Vd, Vt, Vi, Vr, Va, Vo, Vg, YY, YJ, Yi, Zm, Zh, Zc, Zb, ZC, Zu, ZB, ZL, ZI, ZM, ZG, ZE, YF, Zz, Zy, Zw, Zt, Zr, Zo, Zv, Zn, Zi, Zp, Zl, Zd, Zk, Ze, Zj, Zf, Zg, Za, Yq, YB, Yv, ZW, Yx, YX, YZ, Vm, YW, Yj, YH, Vp, Vn, Zq, Zs, YM, YE, Yk, Yz, Yl, Yu, YA, Yt, Yh, YI, ZP, ZY, List.cons_append, List.nil_append, Bool.not_true, Bool.not_false])
    refine each_rev (VB _ _) hk (fun j m' H' => H' = H ∧ ∃ t, m' = [some (.ref k), some (.int x), some (.int (ev (xs.drop (xs.length - j)) x % 251)), t]) ⟨rfl, none, by simp [ev]⟩ (fun j m H' h => h.1 ▸ hk) ?_ ?_
    · rintro j v m H' hv ⟨rfl, t, rfl⟩
      (try (with_reducible (first | refine Vy ?_ | refine Vw ?_); intro J))
      rw [zl_reverse] at hv
      obtain ⟨a, ha, rfl⟩ := zl_at hv
      (try change wpSs _ _ _ _ _); simp only [s_cons, ↓Ve, ↓Vf, ↓Vs, ↓Vl, ↓YU, ↓Vb, ↓Vu, ↓Ym, ↓Vk, ↓VI, ↓Vh, ↓YD, ↓Vj, ↓Yg, ↓Yy, ↓Ys, ↓Yo, ↓Yp, ↓Ye, Yc, ZA, ZS, Yb, Yr, ZF, Zx, ZD, ZT, ZX, ZO, Yd, YG, ZZ, YT, Yn, ZJ, YL, YK, Vc, Yw, ZU, ZR, YC, ZQ, ZV, ZH, YV, Vq, Vd, Vt, Vi, Vr, Va, Vo, Vg, YY, YJ, Yi, Zm, Zh, Zc, Zb, ZC, Zu, ZB, ZL, ZI, ZM, ZG, ZE, YF, Zz, Zy, Zw, Zt, Zr, Zo, Zv, Zn, Zi, Zp, Zl, Zd, Zk, Ze, Zj, Zf, Zg, Za, Yq, YB, Yv, ZW, Yx, YX, YZ, Vm, YW, Yj, YH, Vp, Vn, Zq, Zs, YM, YE, Yk, Yz, Yl, Yu, YA, Yt, Yh, YI, ZP, ZY, List.cons_append, List.nil_append, Bool.not_true, Bool.not_false]
      refine ⟨.inl ⟨by lia, by lia⟩, by decide, (by trivial), some (.int a), ?_⟩
      rw [drop_back ha, ev, mod_lin]
      congr 6; grind
    · rintro m H' ⟨rfl, t, rfl⟩
      (try (with_reducible (first | refine Vy ?_ | refine Vw ?_); intro J))
      refine ⟨rfl, t, ?_⟩
      rw [VR, Nat.sub_self, List.drop_zero]
  rintro m H' ⟨rfl, t, rfl⟩
  (try (with_reducible (first | refine Vy ?_ | refine Vw ?_); intro J))
  (try change wpSs _ _ _ _ _); simp only [s_cons, ↓Ve, ↓Vf, ↓Vs, ↓Vl, ↓YU, ↓Vb, ↓Vu, ↓Ym, ↓Vk, ↓VI, ↓Vh, ↓YD, ↓Vj, ↓Yg, ↓Yy, ↓Ys, ↓Yo, ↓Yp, ↓Ye, Yc, ZA, ZS, Yb, Yr, ZF, Zx, ZD, ZT, ZX, ZO, Yd, YG, ZZ, YT, Yn, ZJ, YL, YK, Vc, Yw, ZU, ZR, YC, ZQ, ZV, ZH, YV, Vq, Vd, Vt, Vi, Vr, Va, Vo, Vg, YY, YJ, Yi, Zm, Zh, Zc, Zb, ZC, Zu, ZB, ZL, ZI, ZM, ZG, ZE, YF, Zz, Zy, Zw, Zt, Zr, Zo, Zv, Zn, Zi, Zp, Zl, Zd, Zk, Ze, Zj, Zf, Zg, Za, Yq, YB, Yv, ZW, Yx, YX, YZ, Vm, YW, Yj, YH, Vp, Vn, Zq, Zs, YM, YE, Yk, Yz, Yl, Yu, YA, Yt, Yh, YI, ZP, ZY, List.cons_append, List.nil_append, Bool.not_true, Bool.not_false]
  exact h

/-- a comprehension over a range that picks by a test -/
theorem comp_pick {C : Calls} {cond : X} {i : Nat} {lo hi : Int} {m : Loc} {H : Hp} {P : PV} (hC : LeC C C) (hlo : -1000000 ≤ lo ∧ lo ≤ 1000000) (hhi : -1000000 ≤ hi ∧ hi ≤ 1000000) (hm : m.length = i) (p : Nat → Bool)
    (step : ∀ k : Nat, k < (hi - lo).toNat → ∀ R : PV, R (.bool (p k)) H → wpE C cond (m ++ [some (.int (lo + k))]) H R)
    (fin : P (.ref H.length) (H ++ [zl (((List.range (hi - lo).toNat).filter p).map fun j : Nat => lo + (j : Int))])) : compOf C (.var i) 1 .range cond (.int lo) (.int hi) m H P := by
  refine comp_range hC hlo hhi (fun k acc H' => H' = H ∧ acc = zl (((List.range k).filter p).map fun j : Nat => lo + (j : Int))) ⟨rfl, rfl⟩ ?_ ?_
  · rintro k acc H' hk ⟨rfl, rfl⟩
    (try (with_reducible (first | refine Vy ?_ | refine Vw ?_); intro J))
    refine step k hk _ ?_
    have e : ∀ Q : V → Prop, at? (m ++ [some (.int (lo + k))]) i Q = Q (.int (lo + k)) := fun Q => by
      subst hm; simp [at?]
    simp only [List.range_succ, List.filter_append, List.map_append, zl]
    cases hp : p k with
    | true =>
      rw [Zm, ZZ, e]
      exact ⟨rfl, by simp [hp]⟩
    | false =>
      rw [Zh]
      exact ⟨(by trivial), by simp [hp]⟩
  · rintro acc H' ⟨rfl, rfl⟩
    (try (with_reducible (first | refine Vy ?_ | refine Vw ?_); intro J))
    exact fin

noncomputable def rootsOf (xs : List Int) : List Int := ((List.range 250).filter fun j : Nat => decide (ev xs (1 + (j : Int)) % 251 = 0)).map fun j : Nat => 1 + (j : Int)

theorem spec_roots (n k : Nat) (xs : List Int) (H : Hp) (P : PV) (hk : H[k]? = some (zl xs)) (h : P (.ref H.length) (H ++ [zl (rootsOf xs)])) : run T (n + 2) 7 [.ref k] H P := by
  refine run_succ (d := f_roots) rfl rfl (by decide) ?_
  simp only [f_roots, entry, List.map, List.replicate, Nat.reduceSub, List.cons_append, List.nil_append]
  (with_reducible first | refine Vx ?_ | (refine VC ?_; intro J)); simp only [↓Ve, ↓Vf, ↓Vs, ↓Vl, ↓YU, ↓Vb, ↓Vu, ↓Ym, ↓Vk, ↓VI, ↓Vh, ↓YD, ↓Vj, ↓Yg, ↓Yy, ↓Ys, ↓Yo, ↓Yp, ↓Ye, Yc, ZA, ZS, Yb, Yr, ZF, Zx, ZD, ZT, ZX, ZO, Yd, YG, ZZ, YT, Yn, ZJ, YL, YK, Vc, Yw, ZU, ZR, YC, ZQ, ZV, ZH, YV, Vq, Vd, Vt, Vi, Vr, Va, Vo, Vg, YY, YJ, Yi, Zm, Zh, Zc, Zb, ZC, Zu, ZB, ZL, ZI, ZM, ZG, ZE, YF, Zz, Zy, Zw, Zt, Zr, Zo, Zv, Zn, Zi, Zp, Zl, Zd, Zk, Ze, Zj, Zf, Zg, Za, Yq, YB, Yv, ZW, Yx, YX, YZ, Vm, YW, Yj, YH, Vp, Vn, Zq, Zs, YM, YE, Yk, Yz, Yl, Yu, YA, Yt, Yh, YI, ZP, ZY, List.cons_append, List.nil_append, Bool.not_true, Bool.not_false]
  refine comp_pick (VB _ _) (by decide) (by decide) rfl (fun j => decide (ev xs (1 + (j : Int)) % 251 = 0)) (fun j hj R hR => ?_) h
  (try change wpSs _ _ _ _ _); simp only [s_cons, ↓Ve, ↓Vf, ↓Vs, ↓Vl, ↓YU, ↓Vb, ↓Vu, ↓Ym, ↓Vk, ↓VI, ↓Vh, ↓YD, ↓Vj, ↓Yg, ↓Yy, ↓Ys, ↓Yo, ↓Yp, ↓Ye, Yc, ZA, ZS, Yb, Yr, ZF, Zx, ZD, ZT, ZX, ZO, Yd, YG, ZZ, YT, Yn, ZJ, YL, YK, Vc, Yw, ZU, ZR, YC, ZQ, ZV, ZH, YV, Vq, Vd, Vt, Vi, Vr, Va, Vo, Vg, YY, YJ, Yi, Zm, Zh, Zc, Zb, ZC, Zu, ZB, ZL, ZI, ZM, ZG, ZE, YF, Zz, Zy, Zw, Zt, Zr, Zo, Zv, Zn, Zi, Zp, Zl, Zd, Zk, Ze, Zj, Zf, Zg, Za, Yq, YB, Yv, ZW, Yx, YX, YZ, Vm, YW, Yj, YH, Vp, Vn, Zq, Zs, YM, YE, Yk, Yz, Yl, Yu, YA, Yt, Yh, YI, ZP, ZY, List.cons_append, List.nil_append, Bool.not_true, Bool.not_false]
  refine spec_value _ _ _ _ _ _ hk ?_
  (try change wpSs _ _ _ _ _); simp only [s_cons, ↓Ve, ↓Vf, ↓Vs, ↓Vl, ↓YU, ↓Vb, ↓Vu, ↓Ym, ↓Vk, ↓VI, ↓Vh, ↓YD, ↓Vj, ↓Yg, ↓Yy, ↓Ys, ↓Yo, ↓Yp, ↓Ye, Yc, ZA, ZS, Yb, Yr, ZF, Zx, ZD, ZT, ZX, ZO, Yd, YG, ZZ, YT, Yn, ZJ, YL, YK, Vc, Yw, ZU, ZR, YC, ZQ, ZV, ZH, YV, Vq, Vd, Vt, Vi, Vr, Va, Vo, Vg, YY, YJ, Yi, Zm, Zh, Zc, Zb, ZC, Zu, ZB, ZL, ZI, ZM, ZG, ZE, YF, Zz, Zy, Zw, Zt, Zr, Zo, Zv, Zn, Zi, Zp, Zl, Zd, Zk, Ze, Zj, Zf, Zg, Za, Yq, YB, Yv, ZW, Yx, YX, YZ, Vm, YW, Yj, YH, Vp, Vn, Zq, Zs, YM, YE, Yk, Yz, Yl, Yu, YA, Yt, Yh, YI, ZP, ZY, List.cons_append, List.nil_append, Bool.not_true, Bool.not_false]
  exact hR
end Mine

open PySem
set_option linter.unusedSimpArgs false
set_option linter.unusedVariables false
namespace Mine

/-! ## lists of ints on the heap -/
theorem deepL_zl (n : Nat) (H : Hp) (xs : List Int) : deepL (deep n H) (zl xs) = some (xs.map PyData.int) := by
  induction xs with
  | nil => rfl
  | cons a r ih =>
    show (match deep n H (.int a), deepL (deep n H) (zl r) with | some x, some xs => some (x :: xs) | _, _ => Option.none) = _
    rw [ih]
    cases n <;> rfl
section
variable {H : Hp} {k l : Nat} {xs ys : List Int} {P : PV}
theorem eqv_zs : ∀ xs ys : List Int, PyData.eqvAll (xs.map PyData.int) (ys.map PyData.int) = decide (xs = ys)
  | [], [] => by simp [PyData.eqvAll]
  | [], _ :: _ => by simp [PyData.eqvAll]
  | _ :: _, [] => by simp [PyData.eqvAll]
  | x :: xs, y :: ys => by
    simp only [List.map_cons, PyData.eqvAll, eqv_zs xs ys, PyData.eqv]
    by_cases h : x = y <;> by_cases k : xs = ys <;> simp [h, k]
theorem deep_zl (n : Nat) (hk : H[k]? = some (zl xs)) : deep (n + 1) H (.ref k) = some (.list (xs.map PyData.int)) := by
  simp only [deep, hk, deepL_zl, Option.map_some]
theorem b_eq_list (hk : H[k]? = some (zl xs)) (hl : H[l]? = some (zl ys)) : wpB .eq (.ref k) (.ref l) H P = P (.bool (decide (xs = ys))) H := by
  simp only [wpB, optV, deep_zl 3 hk, deep_zl 3 hl]
  rw [show PyData.eqv (.list (xs.map PyData.int)) (.list (ys.map PyData.int)) = PyData.eqvAll (xs.map PyData.int) (ys.map PyData.int) by simp only [PyData.eqv], eqv_zs]
theorem b_ne_list (hk : H[k]? = some (zl xs)) (hl : H[l]? = some (zl ys)) : wpB .ne (.ref k) (.ref l) H P = P (.bool (!decide (xs = ys))) H := by
  simp only [wpB, optV, deep_zl 3 hk, deep_zl 3 hl]
  rw [show PyData.eqv (.list (xs.map PyData.int)) (.list (ys.map PyData.int)) = PyData.eqvAll (xs.map PyData.int) (ys.map PyData.int) by simp only [PyData.eqv], eqv_zs]
end

theorem VP {H : Hp} {vs : List V} : (H ++ [vs])[H.length]? = some vs := by simp
theorem get_old {H G : Hp} {k : Nat} {vs : List V} (h : H[k]? = some vs) : (H ++ G)[k]? = some vs := by
  rw [List.getElem?_append_left (List.getElem?_eq_some_iff.mp h).1]; exact h
theorem pre_set {H H' : Hp} {k : Nat} {vs : List V} (h : H <+: H') (hk : H.length ≤ k) : H <+: H'.set k vs := by
  obtain ⟨G, rfl⟩ := h
  rw [List.set_append_right _ _ hk]
  exact List.prefix_append _ _
theorem set_get {H : Hp} {k : Nat} {vs ws : List V} (h : H[k]? = some vs) : (H.set k ws)[k]? = some ws := by
  rw [List.getElem?_set_self (List.getElem?_eq_some_iff.mp h).1]
theorem pre_app {H H' : Hp} {G : Hp} (h : H <+: H') : H <+: H' ++ G := List.IsPrefix.trans h (List.prefix_append _ _)

/-- rests -/
noncomputable def Red (xs : List Int) : Prop := ∀ a ∈ xs, 0 ≤ a ∧ a < 251
/-- no zero at the end -/
noncomputable def Trim (xs : List Int) : Prop := xs.getLast? ≠ some 0

theorem zl_append (xs : List Int) (a : Int) : zl xs ++ [.int a] = zl (xs ++ [a]) := by simp [zl]
theorem red_append {xs : List Int} {a : Int} (h : Red xs) (h0 : 0 ≤ a) (h1 : a < 251) : Red (xs ++ [a]) := by
  intro b hb
  rcases List.mem_append.mp hb with q | q
  · exact h b q
  · simp only [List.mem_singleton] at q; subst q; exact ⟨h0, h1⟩
end Mine

open PySem
set_option linter.unusedSimpArgs false
set_option linter.unusedVariables false
namespace Mine

theorem last_item {xs : List Int} (h : xs ≠ []) {F : V → Prop} (q : F (.int (xs.getLast h))) : itemOf (zl xs) (-1) F := by
  have hl : 0 < xs.length := List.length_pos_iff.mpr h
  have e : place (-1) (zl xs).length = some (xs.length - 1) := by
    simp only [place, VR]
    rw [if_neg (by lia), if_pos (by lia)]
    congr 1; lia
  simp only [itemOf, e]
  rw [zl_get (by lia)]
  rw [List.getLast_eq_getElem] at q
  exact q

theorem red_nil : Red [] := fun a ha => by cases ha
theorem item_mem {xs : List Int} {i : Int} {F : V → Prop} (h0 : 0 ≤ i) (h1 : i < xs.length) (q : ∀ a ∈ xs, F (.int a)) : itemOf (zl xs) i F :=
  Wa h0 (zl_get (xs := xs) (by lia)) (q _ (List.getElem_mem _))

end Mine

open PySem
set_option linter.unusedSimpArgs false
set_option linter.unusedVariables false
namespace Mine

/-- a coefficient -/
noncomputable def co (xs : List Int) (i : Nat) : Int := xs.getD i 0
/-- a sum over 0 … n-1 -/
noncomputable def sm (f : Nat → Int) : Nat → Int
  | 0 => 0
  | n + 1 => sm f n + f n
/-- the product's coefficient -/
noncomputable def cv (f g : Nat → Int) (t : Nat) : Int := sm (fun i => f i * g (t - i)) (t + 1)
theorem co_ge {xs : List Int} {i : Nat} (h : xs.length ≤ i) : co xs i = 0 := by simp [co, List.getD_eq_getElem?_getD, List.getElem?_eq_none h]
theorem co_lt {xs : List Int} {i : Nat} (h : i < xs.length) : co xs i = xs[i] := by simp [co, List.getD_eq_getElem?_getD, h]
theorem co_red {xs : List Int} (h : Red xs) (i : Nat) : 0 ≤ co xs i ∧ co xs i < 251 := by
  rcases Nat.lt_or_ge i xs.length with q | q
  · rw [co_lt q]; exact h _ (List.getElem_mem _)
  · rw [co_ge q]; lia

theorem sm_congr {f g : Nat → Int} : ∀ {n : Nat}, (∀ i, i < n → f i = g i) → sm f n = sm g n
  | 0, _ => rfl
  | n + 1, h => by rw [sm, sm, sm_congr fun i hi => h i (by lia), h n (by lia)]
/-- beyond m all is zero -/
theorem sm_cut {f : Nat → Int} {m : Nat} : ∀ {n : Nat}, m ≤ n → (∀ i, m ≤ i → i < n → f i = 0) → sm f n = sm f m
  | 0, h, _ => by have : m = 0 := by lia
                  subst this; rfl
  | n + 1, h, z => by
    rcases Nat.lt_or_ge n m with q | q
    · have : m = n + 1 := by lia
      subst this; rfl
    · rw [sm, sm_cut q fun i h1 h2 => z i h1 (by lia), z n q (by lia), Int.add_zero]

theorem cv_row (xs ys : List Int) (t : Nat) : sm (fun i => if i ≤ t then co xs i * co ys (t - i) else 0) xs.length = cv (co xs) (co ys) t := by
  unfold cv
  have e1 : sm (fun i => co xs i * co ys (t - i)) (t + 1) = sm (fun i => if i ≤ t then co xs i * co ys (t - i) else 0) (t + 1) := sm_congr fun i hi => by rw [if_pos (by lia)]
  rw [e1]
  rcases Nat.le_total xs.length (t + 1) with q | q
  · rw [sm_cut (m := xs.length) q fun i h1 h2 => by rw [co_ge h1, Int.zero_mul, ite_self]]
  · rw [sm_cut (m := t + 1) q fun i h1 h2 => by rw [if_neg (by lia)]]

theorem red_small {a : Int} (h : 0 ≤ a ∧ a < 251) : Small a := ⟨by lia, by lia⟩

end Mine

open PySem
set_option linter.unusedSimpArgs false
set_option linter.unusedVariables false
namespace Mine

theorem clip_nat (n : Nat) {a : Int} (h : 0 ≤ a) : clip n a = min a.toNat n := by
  obtain ⟨m, rfl⟩ := Int.eq_ofNat_of_zero_le h
  unfold clip
  rw [if_neg (Int.not_lt.mpr h), Int.toNat_natCast]
  rcases Nat.le_total m n with c | c
  · rw [Int.min_eq_left (Int.ofNat_le.mpr c), Int.max_eq_right (Int.natCast_nonneg m), Int.toNat_natCast, Nat.min_eq_left c]
  · rw [Int.min_eq_right (Int.ofNat_le.mpr c), Int.max_eq_right (Int.natCast_nonneg n), Int.toNat_natCast, Nat.min_eq_right c]
theorem picked_take {xs : List Int} {s : Int} (h0 : 0 ≤ s) (h1 : s ≤ xs.length) : picked (zl xs) none (some s) = zl (xs.take s.toNat) := by
  simp only [picked, Option.elim, clip_nat _ h0, VR, List.drop_zero, Nat.sub_zero]
  rw [Nat.min_eq_left (Int.toNat_le.mpr h1), zl, ← List.map_take]; rfl

theorem e_slice_to {C : Calls} {i j : Nat} {m : Loc} {H : Hp} {P : PV} {k : Nat} {xs : List Int} {s : Int} (hm : m[i]? = some (some (.ref k))) (hs : m[j]? = some (some (.int s))) (hk : H[k]? = some (zl xs)) (h0 : 0 ≤ s) (h1 : s ≤ xs.length) :
    wpE C (.slice (.var i) .none (.var j)) m H P = P (.ref H.length) (H ++ [zl (xs.take s.toNat)]) := by
  simp only [VN, VJ, VU, VS, VO, VT, Wc, VW, VF, VY, VV, Wb, VZ, VM, VK, VX, VE, VL, VD, hm, hs, part?, hk, picked_take h0 h1]

theorem co_take {xs : List Int} {s : Nat} (h : ∀ i, s ≤ i → co xs i = 0) (i : Nat) : co (xs.take s) i = co xs i := by
  rcases Nat.lt_or_ge i s with q | q
  · simp [co, List.getD_eq_getElem?_getD, q]
  · rw [h i q]
    simp only [co, List.getD_eq_getElem?_getD]
    rw [List.getElem?_eq_none (by simp; lia)]; rfl

theorem spec_trimmed (n k : Nat) (xs : List Int) (H : Hp) (P : PV) (hk : H[k]? = some (zl xs)) (h : ∀ k' ys H', H <+: H' → H.length ≤ k' → H'[k']? = some (zl ys) → Trim ys → ys.length ≤ xs.length → (∀ i, co ys i = co xs i) → P (.ref k') H') :
    run T (n + 1) 13 [.ref k] H P := by
  refine run_succ (d := f_trimmed) rfl rfl (by decide) ?_
  simp only [f_trimmed, entry, List.map, List.replicate, Nat.reduceSub, List.cons_append, List.nil_append]
  (with_reducible first | refine Vx ?_ | (refine VC ?_; intro J)); simp only [↓Ve, ↓Vf, ↓Vs, ↓Vl, ↓YU, ↓Vb, ↓Vu, ↓Ym, ↓Vk, ↓VI, ↓Vh, ↓YD, ↓Vj, ↓Yg, ↓Yy, ↓Ys, ↓Yo, ↓Yp, ↓Ye, Yc, ZA, ZS, Yb, Yr, ZF, Zx, ZD, ZT, ZX, ZO, Yd, YG, ZZ, YT, Yn, ZJ, YL, YK, Vc, Yw, ZU, ZR, YC, ZQ, ZV, ZH, YV, Vq, Vd, Vt, Vi, Vr, Va, Vo, Vg, YY, YJ, Yi, Zm, Zh, Zc, Zb, ZC, Zu, ZB, ZL, ZI, ZM, ZG, ZE, YF, Zz, Zy, Zw, Zt, Zr, Zo, Zv, Zn, Zi, Zp, Zl, Zd, Zk, Ze, Zj, Zf, Zg, Za, Yq, YB, Yv, ZW, Yx, YX, YZ, Vm, YW, Yj, YH, Vp, Vn, Zq, Zs, YM, YE, Yk, Yz, Yl, Yu, YA, Yt, Yh, YI, ZP, ZY, List.cons_append, List.nil_append, Bool.not_true, Bool.not_false, VH hk, VR]
  (try change wpSs _ _ _ _ _)
  refine s_cut (VB _ _) (fun m' H' => H' = H ∧ ∃ (s : Int), And5 (0 ≤ s) (s ≤ xs.length) ((∀ i, s.toNat ≤ i → co xs i = 0)) ((0 < s → co xs (s.toNat - 1) ≠ 0)) (m' = [some (.ref k), some (.int s)])) ?_ ?_
  · (try (with_reducible refine post_letS ?_; intro J))
    refine loop_of (VB _ _) (fun q m' H' => H' = H ∧ ∃ (s : Int), And5 (0 ≤ s) (s ≤ xs.length) (s.toNat = q) ((∀ i, s.toNat ≤ i → co xs i = 0)) (m' = [some (.ref k), some (.int s)])) xs.length ⟨rfl, xs.length, by lia, by lia, by lia, fun i hi => co_ge (by lia), rfl⟩ ?_
    rintro q m' H' ⟨rfl, s, h0, h1, hq, hz, rfl⟩
    (try (with_reducible (first | refine Vy ?_ | refine Vw ?_); intro J))
    (try simp only [↓Ve, ↓Vf, ↓Vs, ↓Vl, ↓YU, ↓Vb, ↓Vu, ↓Ym, ↓Vk, ↓VI, ↓Vh, ↓YD, ↓Vj, ↓Yg, ↓Yy, ↓Ys, ↓Yo, ↓Yp, ↓Ye, Yc, ZA, ZS, Yb, Yr, ZF, Zx, ZD, ZT, ZX, ZO, Yd, YG, ZZ, YT, Yn, ZJ, YL, YK, Vc, Yw, ZU, ZR, YC, ZQ, ZV, ZH, YV, Vq, Vd, Vt, Vi, Vr, Va, Vo, Vg, YY, YJ, Yi, Zm, Zh, Zc, Zb, ZC, Zu, ZB, ZL, ZI, ZM, ZG, ZE, YF, Zz, Zy, Zw, Zt, Zr, Zo, Zv, Zn, Zi, Zp, Zl, Zd, Zk, Ze, Zj, Zf, Zg, Za, Yq, YB, Yv, ZW, Yx, YX, YZ, Vm, YW, Yj, YH, Vp, Vn, Zq, Zs, YM, YE, Yk, Yz, Yl, Yu, YA, Yt, Yh, YI, ZP, ZY, List.cons_append, List.nil_append, Bool.not_true, Bool.not_false, VH hk])
    split
    · rename_i hs
      refine Wa (by lia) (zl_get (xs := xs) (by lia)) ?_
      (try simp only [↓Ve, ↓Vf, ↓Vs, ↓Vl, ↓YU, ↓Vb, ↓Vu, ↓Ym, ↓Vk, ↓VI, ↓Vh, ↓YD, ↓Vj, ↓Yg, ↓Yy, ↓Ys, ↓Yo, ↓Yp, ↓Ye, Yc, ZA, ZS, Yb, Yr, ZF, Zx, ZD, ZT, ZX, ZO, Yd, YG, ZZ, YT, Yn, ZJ, YL, YK, Vc, Yw, ZU, ZR, YC, ZQ, ZV, ZH, YV, Vq, Vd, Vt, Vi, Vr, Va, Vo, Vg, YY, YJ, Yi, Zm, Zh, Zc, Zb, ZC, Zu, ZB, ZL, ZI, ZM, ZG, ZE, YF, Zz, Zy, Zw, Zt, Zr, Zo, Zv, Zn, Zi, Zp, Zl, Zd, Zk, Ze, Zj, Zf, Zg, Za, Yq, YB, Yv, ZW, Yx, YX, YZ, Vm, YW, Yj, YH, Vp, Vn, Zq, Zs, YM, YE, Yk, Yz, Yl, Yu, YA, Yt, Yh, YI, ZP, ZY, List.cons_append, List.nil_append, Bool.not_true, Bool.not_false])
      have e1 : xs[(s - 1).toNat]'(by lia) = co xs (s.toNat - 1) := by rw [co_lt (by lia)]; congr 1; lia
      rw [e1]
      split
      · rename_i he
        (try change wpSs _ _ _ _ _); simp only [s_cons, ↓Ve, ↓Vf, ↓Vs, ↓Vl, ↓YU, ↓Vb, ↓Vu, ↓Ym, ↓Vk, ↓VI, ↓Vh, ↓YD, ↓Vj, ↓Yg, ↓Yy, ↓Ys, ↓Yo, ↓Yp, ↓Ye, Yc, ZA, ZS, Yb, Yr, ZF, Zx, ZD, ZT, ZX, ZO, Yd, YG, ZZ, YT, Yn, ZJ, YL, YK, Vc, Yw, ZU, ZR, YC, ZQ, ZV, ZH, YV, Vq, Vd, Vt, Vi, Vr, Va, Vo, Vg, YY, YJ, Yi, Zm, Zh, Zc, Zb, ZC, Zu, ZB, ZL, ZI, ZM, ZG, ZE, YF, Zz, Zy, Zw, Zt, Zr, Zo, Zv, Zn, Zi, Zp, Zl, Zd, Zk, Ze, Zj, Zf, Zg, Za, Yq, YB, Yv, ZW, Yx, YX, YZ, Vm, YW, Yj, YH, Vp, Vn, Zq, Zs, YM, YE, Yk, Yz, Yl, Yu, YA, Yt, Yh, YI, ZP, ZY, List.cons_append, List.nil_append, Bool.not_true, Bool.not_false]
        refine ⟨(s - 1).toNat, by lia, (by trivial), s - 1, by lia, by lia, rfl, fun i hi => ?_, rfl⟩
        rcases Nat.lt_or_ge i s.toNat with y | y
        · rw [show i = s.toNat - 1 by lia]; exact he
        · exact hz i y
      · rename_i he
        exact ⟨(by trivial), s, h0, h1, hz, fun _ => he, rfl⟩
    · rename_i hs
      exact ⟨(by trivial), s, h0, h1, hz, fun y => absurd y hs, rfl⟩
  rintro m' H' ⟨rfl, s, h0, h1, hz, hl, rfl⟩
  (try (with_reducible (first | refine Vy ?_ | refine Vw ?_); intro J))
  (try change wpSs _ _ _ _ _)
  rw [s_cons, Yb, YT, e_slice_to rfl rfl hk h0 h1]
  (try simp only [↓Ve, ↓Vf, ↓Vs, ↓Vl, ↓YU, ↓Vb, ↓Vu, ↓Ym, ↓Vk, ↓VI, ↓Vh, ↓YD, ↓Vj, ↓Yg, ↓Yy, ↓Ys, ↓Yo, ↓Yp, ↓Ye, Yc, ZA, ZS, Yb, Yr, ZF, Zx, ZD, ZT, ZX, ZO, Yd, YG, ZZ, YT, Yn, ZJ, YL, YK, Vc, Yw, ZU, ZR, YC, ZQ, ZV, ZH, YV, Vq, Vd, Vt, Vi, Vr, Va, Vo, Vg, YY, YJ, Yi, Zm, Zh, Zc, Zb, ZC, Zu, ZB, ZL, ZI, ZM, ZG, ZE, YF, Zz, Zy, Zw, Zt, Zr, Zo, Zv, Zn, Zi, Zp, Zl, Zd, Zk, Ze, Zj, Zf, Zg, Za, Yq, YB, Yv, ZW, Yx, YX, YZ, Vm, YW, Yj, YH, Vp, Vn, Zq, Zs, YM, YE, Yk, Yz, Yl, Yu, YA, Yt, Yh, YI, ZP, ZY, List.cons_append, List.nil_append, Bool.not_true, Bool.not_false])
  refine withL_of VP ?_
  refine h _ _ _ (pre_app (List.prefix_append _ _)) (by simp) VP ?_ (by rw [List.length_take]; lia) (co_take hz)
  unfold Trim
  rcases Int.lt_or_le 0 s with y | y
  · rw [List.getLast?_eq_getElem?, List.length_take, Nat.min_eq_left (by lia), List.getElem?_take_of_lt (by lia), List.getElem?_eq_getElem (by lia)]
    have := hl y
    rw [co_lt (by lia)] at this
    intro e; exact this (Option.some.inj e)
  · have : s.toNat = 0 := by lia
    simp [this]
end Mine

open PySem
set_option linter.unusedSimpArgs false
set_option linter.unusedVariables false
namespace Mine

theorem co_set {xs : List Int} {t : Nat} {a : Int} (h : t < xs.length) (i : Nat) : co (xs.set t a) i = if i = t then a else co xs i := by
  simp only [co, List.getD_eq_getElem?_getD, List.getElem?_set]
  split
  · rename_i e
    subst e
    simp [h]
  · rename_i e
    rw [if_neg (fun q => e q.symm)]
theorem zl_set {xs : List Int} {t : Nat} {a : Int} : (zl xs).set t (.int a) = zl (xs.set t a) := by simp [zl, List.map_set]
theorem co_replicate (n i : Nat) : co (List.replicate n 0) i = 0 := by
  simp only [co, List.getD_eq_getElem?_getD, List.getElem?_replicate]
  split <;> rfl

/-- row j's part of the product, up to its place l -/
noncomputable def part (f g : Nat → Int) (j l t : Nat) : Int := if j ≤ t ∧ t - j < l then f j * g (t - j) else 0
noncomputable def rows (f g : Nat → Int) (t j : Nat) : Int := sm (fun i => if i ≤ t then f i * g (t - i) else 0) j

theorem part_full (f : Nat → Int) (ys : List Int) (j t : Nat) : rows f (co ys) t j + part f (co ys) j ys.length t = rows f (co ys) t (j + 1) := by
  unfold rows part
  rw [sm]
  congr 1
  by_cases h : j ≤ t
  · rw [if_pos h]
    split
    · rfl
    · rw [co_ge (by lia), Int.mul_zero]
  · rw [if_neg (by lia), if_neg h]

theorem spec_times (n i j : Nat) (xs ys : List Int) (H : Hp) (P : PV) (hi : H[i]? = some (zl xs)) (hj : H[j]? = some (zl ys)) (rx : Red xs) (lx : xs.length ≤ 400000) (ly : ys.length ≤ 400000)
    (h : ∀ k zs H', H <+: H' → H.length ≤ k → H'[k]? = some (zl zs) → Trim zs → Red zs → zs.length ≤ xs.length + ys.length → (∀ t, co zs t = cv (co xs) (co ys) t % 251) → P (.ref k) H') : run T (n + 2) 14 [.ref i, .ref j] H P := by
  refine run_succ (d := f_times) rfl rfl (by decide) ?_
  simp only [f_times, entry, List.map, List.replicate, Nat.reduceSub, List.cons_append, List.nil_append]
  (with_reducible first | refine Vx ?_ | (refine VC ?_; intro J)); simp only [↓Ve, ↓Vf, ↓Vs, ↓Vl, ↓YU, ↓Vb, ↓Vu, ↓Ym, ↓Vk, ↓VI, ↓Vh, ↓YD, ↓Vj, ↓Yg, ↓Yy, ↓Ys, ↓Yo, ↓Yp, ↓Ye, Yc, ZA, ZS, Yb, Yr, ZF, Zx, ZD, ZT, ZX, ZO, Yd, YG, ZZ, YT, Yn, ZJ, YL, YK, Vc, Yw, ZU, ZR, YC, ZQ, ZV, ZH, YV, Vq, Vd, Vt, Vi, Vr, Va, Vo, Vg, YY, YJ, Yi, Zm, Zh, Zc, Zb, ZC, Zu, ZB, ZL, ZI, ZM, ZG, ZE, YF, Zz, Zy, Zw, Zt, Zr, Zo, Zv, Zn, Zi, Zp, Zl, Zd, Zk, Ze, Zj, Zf, Zg, Za, Yq, YB, Yv, ZW, Yx, YX, YZ, Vm, YW, Yj, YH, Vp, Vn, Zq, Zs, YM, YE, Yk, Yz, Yl, Yu, YA, Yt, Yh, YI, ZP, ZY, List.cons_append, List.nil_append, Bool.not_true, Bool.not_false, VH hi, VH hj, VR]
  refine comp_range (VB _ _) (by decide) (by lia) (fun s acc H' => H' = H ∧ acc = zl (List.replicate s 0)) ⟨rfl, rfl⟩ ?_ ?_
  · rintro s acc H' hs ⟨rfl, rfl⟩
    (try (with_reducible (first | refine Vy ?_ | refine Vw ?_); intro J))
    (try simp only [↓Ve, ↓Vf, ↓Vs, ↓Vl, ↓YU, ↓Vb, ↓Vu, ↓Ym, ↓Vk, ↓VI, ↓Vh, ↓YD, ↓Vj, ↓Yg, ↓Yy, ↓Ys, ↓Yo, ↓Yp, ↓Ye, Yc, ZA, ZS, Yb, Yr, ZF, Zx, ZD, ZT, ZX, ZO, Yd, YG, ZZ, YT, Yn, ZJ, YL, YK, Vc, Yw, ZU, ZR, YC, ZQ, ZV, ZH, YV, Vq, Vd, Vt, Vi, Vr, Va, Vo, Vg, YY, YJ, Yi, Zm, Zh, Zc, Zb, ZC, Zu, ZB, ZL, ZI, ZM, ZG, ZE, YF, Zz, Zy, Zw, Zt, Zr, Zo, Zv, Zn, Zi, Zp, Zl, Zd, Zk, Ze, Zj, Zf, Zg, Za, Yq, YB, Yv, ZW, Yx, YX, YZ, Vm, YW, Yj, YH, Vp, Vn, Zq, Zs, YM, YE, Yk, Yz, Yl, Yu, YA, Yt, Yh, YI, ZP, ZY, List.cons_append, List.nil_append, Bool.not_true, Bool.not_false])
    refine ⟨(by trivial), ?_⟩
    rw [zl_append, List.replicate_succ']
  rintro acc H' ⟨rfl, rfl⟩
  (try (with_reducible (first | refine Vy ?_ | refine Vw ?_); intro J))
  rw [show ((xs.length : Int) + ys.length - 0).toNat = xs.length + ys.length by lia]
  (try simp only [↓Ve, ↓Vf, ↓Vs, ↓Vl, ↓YU, ↓Vb, ↓Vu, ↓Ym, ↓Vk, ↓VI, ↓Vh, ↓YD, ↓Vj, ↓Yg, ↓Yy, ↓Ys, ↓Yo, ↓Yp, ↓Ye, Yc, ZA, ZS, Yb, Yr, ZF, Zx, ZD, ZT, ZX, ZO, Yd, YG, ZZ, YT, Yn, ZJ, YL, YK, Vc, Yw, ZU, ZR, YC, ZQ, ZV, ZH, YV, Vq, Vd, Vt, Vi, Vr, Va, Vo, Vg, YY, YJ, Yi, Zm, Zh, Zc, Zb, ZC, Zu, ZB, ZL, ZI, ZM, ZG, ZE, YF, Zz, Zy, Zw, Zt, Zr, Zo, Zv, Zn, Zi, Zp, Zl, Zd, Zk, Ze, Zj, Zf, Zg, Za, Yq, YB, Yv, ZW, Yx, YX, YZ, Vm, YW, Yj, YH, Vp, Vn, Zq, Zs, YM, YE, Yk, Yz, Yl, Yu, YA, Yt, Yh, YI, ZP, ZY, List.cons_append, List.nil_append, Bool.not_true, Bool.not_false])
  (try change wpSs _ _ _ _ _)
  refine s_cut (VB _ _) (fun m' H2 => Ex5 fun fs t3 t4 t5 t6 => And5 (H' <+: H2) (H2[H'.length]? = some (zl fs)) (fs.length = xs.length + ys.length) ((∀ t, co fs t = rows (co xs) (co ys) t xs.length % 251)) (m' = [some (.ref i), some (.ref j), some (.ref H'.length), t3, t4, t5, t6])) ?_ ?_
  · (try (with_reducible refine post_letS ?_; intro J))
    (try simp only [↓Ve, ↓Vf, ↓Vs, ↓Vl, ↓YU, ↓Vb, ↓Vu, ↓Ym, ↓Vk, ↓VI, ↓Vh, ↓YD, ↓Vj, ↓Yg, ↓Yy, ↓Ys, ↓Yo, ↓Yp, ↓Ye, Yc, ZA, ZS, Yb, Yr, ZF, Zx, ZD, ZT, ZX, ZO, Yd, YG, ZZ, YT, Yn, ZJ, YL, YK, Vc, Yw, ZU, ZR, YC, ZQ, ZV, ZH, YV, Vq, Vd, Vt, Vi, Vr, Va, Vo, Vg, YY, YJ, Yi, Zm, Zh, Zc, Zb, ZC, Zu, ZB, ZL, ZI, ZM, ZG, ZE, YF, Zz, Zy, Zw, Zt, Zr, Zo, Zv, Zn, Zi, Zp, Zl, Zd, Zk, Ze, Zj, Zf, Zg, Za, Yq, YB, Yv, ZW, Yx, YX, YZ, Vm, YW, Yj, YH, Vp, Vn, Zq, Zs, YM, YE, Yk, Yz, Yl, Yu, YA, Yt, Yh, YI, ZP, ZY, List.cons_append, List.nil_append, Bool.not_true, Bool.not_false])
    refine each_enum (VB _ _) (get_old hi) (fun q m' H2 => Ex5 fun fs t3 t4 t5 t6 => And5 (H' <+: H2) (H2[H'.length]? = some (zl fs)) (fs.length = xs.length + ys.length) ((∀ t, co fs t = rows (co xs) (co ys) t q % 251)) (m' = [some (.ref i), some (.ref j), some (.ref H'.length), t3, t4, t5, t6])) ?_ ?_ ?_ ?_
    · exact ⟨_, none, none, none, none, List.prefix_append _ _, VP, by simp, fun t => by rw [co_replicate]; rfl, rfl⟩
    · rintro q m H2 ⟨fs, t3, t4, t5, t6, hp, _⟩
      (try (with_reducible (first | refine Vy ?_ | refine Vw ?_); intro J))
      exact Vz hp hi
    · rintro q v m H2 hv ⟨fs, t3, t4, t5, t6, hp, hk, hl, hc, rfl⟩
      (try (with_reducible (first | refine Vy ?_ | refine Vw ?_); intro J))
      obtain ⟨a, ha, rfl⟩ := zl_at hv
      have hq : q < xs.length := (List.getElem?_eq_some_iff.mp ha).1
      have ea : a = co xs q := by rw [co_lt hq]; rw [List.getElem?_eq_getElem hq] at ha; exact (Option.some.inj ha).symm
      subst ea
      (with_reducible first | refine Vx ?_ | (refine VC ?_; intro J)); simp only [↓Ve, ↓Vf, ↓Vs, ↓Vl, ↓YU, ↓Vb, ↓Vu, ↓Ym, ↓Vk, ↓VI, ↓Vh, ↓YD, ↓Vj, ↓Yg, ↓Yy, ↓Ys, ↓Yo, ↓Yp, ↓Ye, Yc, ZA, ZS, Yb, Yr, ZF, Zx, ZD, ZT, ZX, ZO, Yd, YG, ZZ, YT, Yn, ZJ, YL, YK, Vc, Yw, ZU, ZR, YC, ZQ, ZV, ZH, YV, Vq, Vd, Vt, Vi, Vr, Va, Vo, Vg, YY, YJ, Yi, Zm, Zh, Zc, Zb, ZC, Zu, ZB, ZL, ZI, ZM, ZG, ZE, YF, Zz, Zy, Zw, Zt, Zr, Zo, Zv, Zn, Zi, Zp, Zl, Zd, Zk, Ze, Zj, Zf, Zg, Za, Yq, YB, Yv, ZW, Yx, YX, YZ, Vm, YW, Yj, YH, Vp, Vn, Zq, Zs, YM, YE, Yk, Yz, Yl, Yu, YA, Yt, Yh, YI, ZP, ZY, List.cons_append, List.nil_append, Bool.not_true, Bool.not_false]
      refine each_enum (VB _ _) (Vz hp hj) (fun l m' H2 => Ex3 fun fs t5 t6 => And5 (H' <+: H2) (H2[H'.length]? = some (zl fs)) (fs.length = xs.length + ys.length) ((∀ t, co fs t = (rows (co xs) (co ys) t q + part (co xs) (co ys) q l t) % 251)) (m' = [some (.ref i), some (.ref j), some (.ref H'.length), some (.int q), some (.int (co xs q)), t5, t6])) ?_ ?_ ?_ ?_
      · refine ⟨fs, t5, t6, hp, hk, hl, fun t => ?_, rfl⟩
        rw [hc t, part, if_neg (by lia), Int.add_zero]
      · rintro l m H3 ⟨fs, t5, t6, hp, _⟩
        (try (with_reducible (first | refine Vy ?_ | refine Vw ?_); intro J))
        exact Vz hp hj
      · rintro l v m H3 hv ⟨fs, t5, t6, hp, hk, hl, hc, rfl⟩
        (try (with_reducible (first | refine Vy ?_ | refine Vw ?_); intro J))
        obtain ⟨b, hb, rfl⟩ := zl_at hv
        have hlt : l < ys.length := (List.getElem?_eq_some_iff.mp hb).1
        have eb : b = co ys l := by rw [co_lt hlt]; rw [List.getElem?_eq_getElem hlt] at hb; exact (Option.some.inj hb).symm
        subst eb
        (with_reducible first | refine Vx ?_ | (refine VC ?_; intro J)); simp only [↓Ve, ↓Vf, ↓Vs, ↓Vl, ↓YU, ↓Vb, ↓Vu, ↓Ym, ↓Vk, ↓VI, ↓Vh, ↓YD, ↓Vj, ↓Yg, ↓Yy, ↓Ys, ↓Yo, ↓Yp, ↓Ye, Yc, ZA, ZS, Yb, Yr, ZF, Zx, ZD, ZT, ZX, ZO, Yd, YG, ZZ, YT, Yn, ZJ, YL, YK, Vc, Yw, ZU, ZR, YC, ZQ, ZV, ZH, YV, Vq, Vd, Vt, Vi, Vr, Va, Vo, Vg, YY, YJ, Yi, Zm, Zh, Zc, Zb, ZC, Zu, ZB, ZL, ZI, ZM, ZG, ZE, YF, Zz, Zy, Zw, Zt, Zr, Zo, Zv, Zn, Zi, Zp, Zl, Zd, Zk, Ze, Zj, Zf, Zg, Za, Yq, YB, Yv, ZW, Yx, YX, YZ, Vm, YW, Yj, YH, Vp, Vn, Zq, Zs, YM, YE, Yk, Yz, Yl, Yu, YA, Yt, Yh, YI, ZP, ZY, List.cons_append, List.nil_append, Bool.not_true, Bool.not_false, VH hk]
        have ei : ((q : Int) + (l : Int)).toNat = q + l := by lia
        refine Wa (by lia) (zl_get (xs := fs) (by lia)) ?_
        (try simp only [↓Ve, ↓Vf, ↓Vs, ↓Vl, ↓YU, ↓Vb, ↓Vu, ↓Ym, ↓Vk, ↓VI, ↓Vh, ↓YD, ↓Vj, ↓Yg, ↓Yy, ↓Ys, ↓Yo, ↓Yp, ↓Ye, Yc, ZA, ZS, Yb, Yr, ZF, Zx, ZD, ZT, ZX, ZO, Yd, YG, ZZ, YT, Yn, ZJ, YL, YK, Vc, Yw, ZU, ZR, YC, ZQ, ZV, ZH, YV, Vq, Vd, Vt, Vi, Vr, Va, Vo, Vg, YY, YJ, Yi, Zm, Zh, Zc, Zb, ZC, Zu, ZB, ZL, ZI, ZM, ZG, ZE, YF, Zz, Zy, Zw, Zt, Zr, Zo, Zv, Zn, Zi, Zp, Zl, Zd, Zk, Ze, Zj, Zf, Zg, Za, Yq, YB, Yv, ZW, Yx, YX, YZ, Vm, YW, Yj, YH, Vp, Vn, Zq, Zs, YM, YE, Yk, Yz, Yl, Yu, YA, Yt, Yh, YI, ZP, ZY, List.cons_append, List.nil_append, Bool.not_true, Bool.not_false, VH hk, VR, zl_set, ei])
        refine ⟨.inl (red_small (co_red rx q)), by decide, by lia, by lia, _, _, _, pre_set hp (Nat.le_refl _), set_get hk, by simp [hl], fun t => ?_, rfl⟩
        rw [co_set (by lia)]
        have e1 : fs[((q : Int) + (l : Int)).toNat]'(by lia) = co fs (q + l) := by rw [co_lt (by lia)]; congr 1
        split
        · rename_i et
          subst et
          have e2 : fs[q + l]'(by lia) = co fs (q + l) := by rw [co_lt (by lia)]
          rw [e2, hc (q + l)]
          have e3 : part (co xs) (co ys) q l (q + l) = 0 := by rw [part, if_neg (by lia)]
          have e4 : part (co xs) (co ys) q (l + 1) (q + l) = co xs q * co ys l := by rw [part, if_pos (by lia), show q + l - q = l by lia]
          rw [e3, e4, Int.add_zero]
          exact Int.emod_add_emod _ _ _
        · rename_i et
          rw [hc t]
          congr 2
          unfold part
          by_cases hh : q ≤ t ∧ t - q < l
          · rw [if_pos hh, if_pos (by lia)]
          · rw [if_neg hh, if_neg (by lia)]
      · rintro m H3 ⟨fs, t5, t6, hp, hk, hl, hc, rfl⟩
        (try (with_reducible (first | refine Vy ?_ | refine Vw ?_); intro J))
        refine ⟨fs, _, _, t5, t6, hp, hk, hl, fun t => ?_, rfl⟩
        rw [hc t, VR, part_full]
    · rintro m H2 ⟨fs, t3, t4, t5, t6, hp, hk, hl, hc, rfl⟩
      (try (with_reducible (first | refine Vy ?_ | refine Vw ?_); intro J))
      exact ⟨fs, t3, t4, t5, t6, hp, hk, hl, fun t => by rw [hc t, VR], rfl⟩
  rintro m H2 ⟨fs, t3, t4, t5, t6, hp, hk, hl, hc, rfl⟩
  (try (with_reducible (first | refine Vy ?_ | refine Vw ?_); intro J))
  (with_reducible first | refine Vx ?_ | (refine VC ?_; intro J)); simp only [↓Ve, ↓Vf, ↓Vs, ↓Vl, ↓YU, ↓Vb, ↓Vu, ↓Ym, ↓Vk, ↓VI, ↓Vh, ↓YD, ↓Vj, ↓Yg, ↓Yy, ↓Ys, ↓Yo, ↓Yp, ↓Ye, Yc, ZA, ZS, Yb, Yr, ZF, Zx, ZD, ZT, ZX, ZO, Yd, YG, ZZ, YT, Yn, ZJ, YL, YK, Vc, Yw, ZU, ZR, YC, ZQ, ZV, ZH, YV, Vq, Vd, Vt, Vi, Vr, Va, Vo, Vg, YY, YJ, Yi, Zm, Zh, Zc, Zb, ZC, Zu, ZB, ZL, ZI, ZM, ZG, ZE, YF, Zz, Zy, Zw, Zt, Zr, Zo, Zv, Zn, Zi, Zp, Zl, Zd, Zk, Ze, Zj, Zf, Zg, Za, Yq, YB, Yv, ZW, Yx, YX, YZ, Vm, YW, Yj, YH, Vp, Vn, Zq, Zs, YM, YE, Yk, Yz, Yl, Yu, YA, Yt, Yh, YI, ZP, ZY, List.cons_append, List.nil_append, Bool.not_true, Bool.not_false]
  refine spec_trimmed _ _ fs _ _ hk fun k' zs H3 h1 h2 h3 h4 h5 h6 => ?_
  (try simp only [↓Ve, ↓Vf, ↓Vs, ↓Vl, ↓YU, ↓Vb, ↓Vu, ↓Ym, ↓Vk, ↓VI, ↓Vh, ↓YD, ↓Vj, ↓Yg, ↓Yy, ↓Ys, ↓Yo, ↓Yp, ↓Ye, Yc, ZA, ZS, Yb, Yr, ZF, Zx, ZD, ZT, ZX, ZO, Yd, YG, ZZ, YT, Yn, ZJ, YL, YK, Vc, Yw, ZU, ZR, YC, ZQ, ZV, ZH, YV, Vq, Vd, Vt, Vi, Vr, Va, Vo, Vg, YY, YJ, Yi, Zm, Zh, Zc, Zb, ZC, Zu, ZB, ZL, ZI, ZM, ZG, ZE, YF, Zz, Zy, Zw, Zt, Zr, Zo, Zv, Zn, Zi, Zp, Zl, Zd, Zk, Ze, Zj, Zf, Zg, Za, Yq, YB, Yv, ZW, Yx, YX, YZ, Vm, YW, Yj, YH, Vp, Vn, Zq, Zs, YM, YE, Yk, Yz, Yl, Yu, YA, Yt, Yh, YI, ZP, ZY, List.cons_append, List.nil_append, Bool.not_true, Bool.not_false])
  have h7 : ∀ t, co zs t = cv (co xs) (co ys) t % 251 := fun t => by rw [h6 t, hc t, rows, cv_row]
  refine h k' zs H3 (hp.trans h1) (by have := hp.length_le; lia) h3 h4 (fun a ha => ?_) (by lia) h7
  obtain ⟨t, ht, rfl⟩ := List.mem_iff_getElem.mp ha
  rw [← co_lt ht, h7]
  exact ⟨Int.emod_nonneg _ (by decide), Int.emod_lt_of_pos _ (by decide)⟩
end Mine

namespace Mine

/-- rests modulo 251 -/
abbrev F := Fin 251
/-- power series over F -/
abbrev PS : Type := Nat → F

/-- the Cauchy product -/
noncomputable def ml (f g : Nat → F) : Nat → F
  | 0 => f 0 * g 0
  | t + 1 => f 0 * g (t + 1) + ml (fun i => f (i + 1)) g t

theorem ml_congr {g g' : Nat → F} : ∀ {t : Nat} {f f' : Nat → F}, (∀ i, i ≤ t → f i = f' i) → (∀ i, i ≤ t → g i = g' i) → ml f g t = ml f' g' t
  | 0, f, f', h, k => by simp only [ml]; rw [h 0 (Nat.le_refl _), k 0 (Nat.le_refl _)]
  | t + 1, f, f', h, k => by
    simp only [ml]
    rw [h 0 (by lia), k (t + 1) (by lia), ml_congr (t := t) (fun i hi => h (i + 1) (by lia)) (fun i hi => k i (by lia))]
theorem ml_add {g : Nat → F} : ∀ (t : Nat) (f f' : Nat → F), ml (fun i => f i + f' i) g t = ml f g t + ml f' g t
  | 0, f, f' => by simp only [ml]; grind
  | t + 1, f, f' => by simp only [ml]; rw [ml_add t]; grind
theorem ml_smul {g : Nat → F} (c : F) : ∀ (t : Nat) (f : Nat → F), ml (fun i => c * f i) g t = c * ml f g t
  | 0, f => by simp only [ml]; grind
  | t + 1, f => by simp only [ml]; rw [ml_smul c t]; grind
theorem ml_assoc {g h : Nat → F} : ∀ (t : Nat) (f : Nat → F), ml (ml f g) h t = ml f (ml g h) t
  | 0, f => by simp only [ml]; grind
  | t + 1, f => by
    simp only [ml]
    rw [ml_add t (fun i => f 0 * g (i + 1)) (ml (fun i => f (i + 1)) g), ml_smul (f 0) t (fun i => g (i + 1)), ml_assoc t]
    grind
theorem ml_last {g : Nat → F} : ∀ (t : Nat) (f : Nat → F), ml f g (t + 1) = ml f (fun i => g (i + 1)) t + f (t + 1) * g 0
  | 0, f => by simp only [ml]
  | t + 1, f => by rw [ml, ml_last t]; simp only [ml]; grind
theorem ml_comm {g : Nat → F} : ∀ (t : Nat) (f : Nat → F), ml f g t = ml g f t
  | 0, f => by simp only [ml]; grind
  | t + 1, f => by rw [ml_last, ml, ml_comm t]; grind

/-- a constant -/
noncomputable def cs (c : F) : Nat → F := fun t => if t = 0 then c else 0
theorem ml_zero {g : Nat → F} : ∀ (t : Nat), ml (fun _ => 0) g t = 0
  | 0 => by simp only [ml]; grind
  | t + 1 => by simp only [ml]; rw [ml_zero t]; grind
theorem ml_cs {g : Nat → F} (c : F) : ∀ (t : Nat), ml (cs c) g t = c * g t
  | 0 => by simp only [ml, cs]; rfl
  | t + 1 => by
    rw [ml, show (fun i => cs c (i + 1)) = fun _ => 0 from rfl, ml_zero]
    simp only [cs]; grind

noncomputable def pa (f g : PS) : PS := fun t => f t + g t
noncomputable def pb (f g : PS) : PS := fun t => f t - g t
noncomputable def pn (f : PS) : PS := fun t => - f t
noncomputable def pm (f g : PS) : PS := ml f g
noncomputable def pc (c : F) : PS := cs c
noncomputable def pp (f : PS) : Nat → PS
  | 0 => pc 1
  | n + 1 => pm (pp f n) f


noncomputable def nf : Nat → F
  | 0 => 0
  | n + 1 => nf n + 1
noncomputable def zf : Int → F
  | .ofNat n => nf n
  | .negSucc n => - nf (n + 1)
theorem zf_neg (i : Int) : zf (-i) = - zf i := by
  match i with
  | .ofNat 0 => show (0 : F) = - 0; grind
  | .ofNat (n + 1) => rfl
  | .negSucc n => show nf (n + 1) = - - nf (n + 1); grind

noncomputable abbrev psSemi : Lean.Grind.Semiring PS where
  add := pa
  mul := pm
  natCast := ⟨fun n => pc (nf n)⟩
  ofNat := fun n => ⟨pc (nf n)⟩
  nsmul := ⟨fun n f => pm (pc (nf n)) f⟩
  npow := ⟨pp⟩
  add_zero f := by
    funext t
    show f t + cs 0 t = f t
    simp only [cs]
    split <;> grind
  add_comm f g := by funext t; show f t + g t = g t + f t; grind
  add_assoc f g h := by funext t; show f t + g t + h t = f t + (g t + h t); grind
  mul_assoc f g h := funext fun t => ml_assoc t f
  mul_one f := by funext t; show ml f (cs (0 + 1)) t = f t; rw [ml_comm, ml_cs]; grind
  one_mul f := by funext t; show ml (cs (0 + 1)) f t = f t; rw [ml_cs]; grind
  left_distrib f g h := by funext t; show ml f (fun i => g i + h i) t = ml f g t + ml f h t; rw [ml_comm, ml_add, ml_comm t g, ml_comm t h]
  right_distrib f g h := by funext t; show ml (fun i => f i + g i) h t = ml f h t + ml g h t; rw [ml_add]
  zero_mul f := by
    funext t; show ml (cs 0) f t = cs 0 t; rw [ml_cs]; simp only [cs]
    split <;> grind
  mul_zero f := by
    funext t; show ml f (cs 0) t = cs 0 t; rw [ml_comm, ml_cs]; simp only [cs]
    split <;> grind
  pow_zero f := by show pc 1 = pc (0 + 1); rw [show (0 : F) + 1 = 1 by grind]
  pow_succ f n := rfl
  ofNat_succ n := by
    funext t; show cs (nf n + 1) t = cs (nf n) t + cs (0 + 1) t; simp only [cs]
    split <;> grind
  ofNat_eq_natCast n := rfl
  nsmul_eq_natCast_mul n f := rfl

noncomputable abbrev psRing : Lean.Grind.CommRing PS :=
  letI := psSemi
  { psSemi with
    neg := pn
    sub := pb
    intCast := ⟨fun i => pc (zf i)⟩
    zsmul := ⟨fun i f => pm (pc (zf i)) f⟩
    neg_add_cancel := fun f => by
      funext t; show - f t + f t = cs 0 t; simp only [cs]
      split <;> grind
    sub_eq_add_neg := fun f g => by funext t; show f t - g t = f t + - g t; grind
    neg_zsmul := fun i f => by
      funext t; show ml (cs (zf (-i))) f t = - ml (cs (zf i)) f t; rw [ml_cs, ml_cs, zf_neg]; grind
    zsmul_natCast_eq_nsmul := fun n f => rfl
    intCast_ofNat := fun n => rfl
    intCast_neg := fun i => by
      funext t; show cs (zf (-i)) t = - cs (zf i) t
      rw [zf_neg]
      simp only [cs]
      split <;> grind
    mul_comm := fun f g => funext fun t => ml_comm t f }

end Mine

namespace Mine

/-- an int as a rest -/
noncomputable def fz (a : Int) : F := Fin.ofNat 251 (a % 251).toNat
theorem fz_val (a : Int) : (fz a).val = (a % 251).toNat := by
  show (a % 251).toNat % 251 = _
  have := Int.emod_lt_of_pos a (show (0 : Int) < 251 by decide)
  lia
theorem nat_mod (n : Nat) : ((n : Int) % 251).toNat = n % 251 := by
  rw [show (251 : Int) = ((251 : Nat) : Int) from rfl, ← Int.natCast_emod, Int.toNat_natCast]
theorem rest_nat (a : Int) : ∃ x : Nat, a % 251 = x := ⟨(a % 251).toNat, (Int.toNat_of_nonneg (Int.emod_nonneg a (by decide))).symm⟩
theorem fz_add (a b : Int) : fz (a + b) = fz a + fz b := by
  apply Fin.ext
  obtain ⟨x, hx⟩ := rest_nat a
  obtain ⟨y, hy⟩ := rest_nat b
  rw [Fin.val_add, fz_val, fz_val, fz_val, Int.add_emod, hx, hy, ← Int.natCast_add, Int.toNat_natCast, Int.toNat_natCast, nat_mod]
theorem fz_mul (a b : Int) : fz (a * b) = fz a * fz b := by
  apply Fin.ext
  obtain ⟨x, hx⟩ := rest_nat a
  obtain ⟨y, hy⟩ := rest_nat b
  rw [Fin.val_mul, fz_val, fz_val, fz_val, Int.mul_emod, hx, hy, ← Int.natCast_mul, Int.toNat_natCast, Int.toNat_natCast, nat_mod]
theorem fz_neg (a : Int) : fz (-a) = - fz a := by
  have h : fz (-a) + fz a = 0 := by rw [← fz_add, Int.add_left_neg]; rfl
  grind
theorem fz_sub (a b : Int) : fz (a - b) = fz a - fz b := by
  rw [Int.sub_eq_add_neg, fz_add, fz_neg]; grind
theorem fz_mod (a : Int) : fz (a % 251) = fz a := by
  apply Fin.ext; rw [fz_val, fz_val, Int.emod_emod_of_dvd a (Int.dvd_refl 251)]
theorem fz_iff {a b : Int} : fz a = fz b ↔ a % 251 = b % 251 := by
  constructor
  · intro h
    have := congrArg Fin.val h
    rw [fz_val, fz_val] at this
    lia
  · intro h; apply Fin.ext; rw [fz_val, fz_val, h]
theorem fz_zero : fz 0 = 0 := rfl
theorem fz_one : fz 1 = 1 := rfl
theorem fz_eq_zero {a : Int} : fz a = 0 ↔ a % 251 = 0 := by rw [← fz_zero, fz_iff]; rfl
theorem fz_inj {a b : Int} (ha : 0 ≤ a ∧ a < 251) (hb : 0 ≤ b ∧ b < 251) (h : fz a = fz b) : a = b := by
  have := fz_iff.mp h; lia
theorem fz_pow (a : Int) (n : Nat) : fz (a ^ n) = fz a ^ n := by
  induction n with
  | zero => rw [Int.pow_zero, Lean.Grind.Semiring.pow_zero]; rfl
  | succ n ih => rw [Int.pow_succ, fz_mul, ih, Lean.Grind.Semiring.pow_succ]
theorem fz_surj (x : F) : fz x.val = x := by
  apply Fin.ext; rw [fz_val]; have := x.isLt; lia

theorem inv_table : ((List.range 251).all fun x => x == 0 || x * (x ^ 249 % 251) % 251 == 1) = true := by decide +kernel
theorem inv_mul {a : Int} (h : fz a ≠ 0) : fz a * fz (inv a) = 1 := by
  unfold inv
  rw [← pow_emod]
  have hx : ∃ x : Nat, a % 251 = x := ⟨(a % 251).toNat, by lia⟩
  obtain ⟨x, hx⟩ := hx
  have x1 : x < 251 := by lia
  have x0 : x ≠ 0 := fun e => h (fz_eq_zero.mpr (by lia))
  have t := List.all_eq_true.mp inv_table x (List.mem_range.mpr x1)
  have t2 : x * (x ^ 249 % 251) % 251 = 1 := by
    simp only [Bool.or_eq_true, beq_iff_eq] at t
    exact t.resolve_left x0
  rw [← fz_mod a, hx, ← fz_mul, ← fz_one, fz_iff, ← Int.natCast_pow]
  generalize x ^ 249 = p at t2 ⊢
  rw [show ((p : Int) % 251) = ((p % 251 : Nat) : Int) by lia, ← Int.natCast_mul]
  lia
theorem inv_red (a : Int) : 0 ≤ inv a ∧ inv a < 251 := by
  unfold inv
  exact ⟨Int.emod_nonneg _ (by decide), Int.emod_lt_of_pos _ (by decide)⟩
theorem f_inv {x : F} (h : x ≠ 0) : ∃ y, x * y = 1 := ⟨fz (inv x.val), by have := inv_mul (a := x.val); rw [fz_surj] at this; exact this h⟩
theorem f_mul {x y : F} (h : x * y = 0) : x = 0 ∨ y = 0 := by
  by_cases hx : x = 0
  · exact .inl hx
  · obtain ⟨z, hz⟩ := f_inv hx
    right
    grind

/-! degrees -/
/-- the degree is below n -/
noncomputable def dg (f : PS) (n : Nat) : Prop := ∀ t, n ≤ t → f t = 0
theorem ml_dg {g : PS} {n : Nat} (hg : dg g n) : ∀ {m t : Nat} {f : PS}, dg f m → m + n ≤ t + 1 → ml f g t = 0
  | 0, t, f, hf, _ => by rw [show f = fun _ => 0 from funext fun i => hf i (Nat.zero_le _), ml_zero]
  | m + 1, 0, f, hf, h => by rw [ml, hg 0 (by lia)]; grind
  | m + 1, t + 1, f, hf, h => by
    rw [ml, hg (t + 1) (by lia), ml_dg hg (m := m) (fun i hi => hf (i + 1) (by lia)) (by lia)]; grind
theorem ml_top {g : PS} {n : Nat} (hg : dg g (n + 1)) : ∀ {m : Nat} {f : PS}, dg f (m + 1) → ml f g (m + n) = f m * g n
  | 0, f, hf => by
    cases n with
    | zero => rfl
    | succ n => rw [Nat.zero_add, ml, show (fun i => f (i + 1)) = fun _ => 0 from funext fun i => hf _ (by lia), ml_zero]; grind
  | m + 1, f, hf => by
    rw [show m + 1 + n = (m + n) + 1 by lia, ml, hg (m + n + 1) (by lia), ml_top hg (m := m) (fun i hi => hf (i + 1) (by lia))]; grind
theorem ml_low {g : PS} {n : Nat} : ∀ {t : Nat} {f : PS}, (∀ i, i ≤ t → g i = 0) → ml f g t = 0
  | 0, f, h => by rw [ml, h 0 (Nat.le_refl _)]; grind
  | t + 1, f, h => by rw [ml, h (t + 1) (Nat.le_refl _), ml_low (n := n) fun i hi => h i (by lia)]; grind
theorem ml_low1 {g : PS} {t : Nat} {f : PS} (h : ∀ i, i < t → g i = 0) : ml f g t = f 0 * g t := by
  cases t with
  | zero => rfl
  | succ t => rw [ml, ml_low (n := 0) fun i hi => h i (by lia)]; grind

/-- one coefficient -/
noncomputable def mo (c : F) (k : Nat) : PS := fun t => if t = k then c else 0
theorem ml_mo (c : F) (g : PS) : ∀ (k t : Nat), ml (mo c k) g t = if k ≤ t then c * g (t - k) else 0
  | 0, t => by rw [show mo c 0 = cs c from rfl, ml_cs, if_pos (Nat.zero_le _)]; rfl
  | k + 1, 0 => by rw [ml, if_neg (by lia)]; simp only [mo]; rw [if_neg (by lia)]; grind
  | k + 1, t + 1 => by
    rw [ml, show (fun i => mo c (k + 1) (i + 1)) = mo c k from funext fun i => by simp [mo], ml_mo c g k t]
    simp only [mo]
    rw [if_neg (by lia)]
    by_cases h : k ≤ t
    · rw [if_pos h, if_pos (by lia), Nat.add_sub_add_right]; grind
    · rw [if_neg h, if_neg (by lia)]; grind

/-- f * h begins as zero: h does -/
theorem low_of {f h : PS} {N : Nat} (h0 : f 0 ≠ 0) (hz : ∀ t, t < N → ml f h t = 0) : ∀ t, t < N → h t = 0 := by
  intro t
  induction t using Nat.strongRecOn with
  | _ t ih =>
    intro ht
    have := hz t ht
    rw [ml_low1 fun i hi => ih i hi (by lia)] at this
    exact (f_mul this).resolve_left h0

/-! lists -/
noncomputable def ps (xs : List Int) : PS := fun t => fz (co xs t)
theorem ps_dg (xs : List Int) : dg (ps xs) xs.length := fun t ht => by rw [ps, co_ge ht]; rfl
theorem ps_top {xs : List Int} (hr : Red xs) (ht : Trim xs) {n : Nat} (hn : xs.length = n + 1) : ps xs n ≠ 0 := by
  intro h
  have hc := co_red hr n
  have := fz_eq_zero.mp h
  apply ht
  rw [List.getLast?_eq_getElem?, hn, Nat.add_sub_cancel]
  have e : co xs n = 0 := by lia
  rw [co_lt (by lia)] at e
  rw [List.getElem?_eq_getElem (by lia), e]
theorem ps_len {xs : List Int} (hr : Red xs) (ht : Trim xs) {n : Nat} (hd : dg (ps xs) n) : xs.length ≤ n := by
  rcases Nat.lt_or_ge n xs.length with q | q
  · exfalso
    obtain ⟨m, hm⟩ : ∃ m, xs.length = m + 1 := ⟨xs.length - 1, by lia⟩
    exact ps_top hr ht hm (hd m (by lia))
  · exact q
theorem ps_nil : ps [] = fun _ => 0 := funext fun t => by rw [ps, co_ge (by simp)]; rfl
theorem sm_first (f : Nat → Int) : ∀ n, sm f (n + 1) = f 0 + sm (fun i => f (i + 1)) n
  | 0 => by simp [sm]
  | n + 1 => by rw [sm, sm_first f n, sm]; lia
theorem cv_succ (f g : Nat → Int) (t : Nat) : cv f g (t + 1) = f 0 * g (t + 1) + cv (fun i => f (i + 1)) g t := by
  unfold cv
  rw [sm_first]
  congr 1
  exact sm_congr fun i hi => by rw [show t + 1 - (i + 1) = t - i by lia]
theorem fz_cv (g : Nat → Int) : ∀ (t : Nat) (f : Nat → Int), fz (cv f g t) = ml (fun i => fz (f i)) (fun i => fz (g i)) t
  | 0, f => by simp only [cv, sm, ml]; rw [Int.zero_add, fz_mul]
  | t + 1, f => by rw [cv_succ, fz_add, fz_mul, fz_cv g t, ml]
theorem ps_times {xs ys zs : List Int} (h : ∀ t, co zs t = cv (co xs) (co ys) t % 251) : ps zs = pm (ps xs) (ps ys) := funext fun t => by
  show fz (co zs t) = ml _ _ t
  rw [h, fz_mod, fz_cv]; rfl

end Mine

namespace Mine

/-- a polynomial -/
noncomputable def Pol (f : PS) : Prop := ∃ n, dg f n
theorem pol_m {f g : PS} (hf : Pol f) (hg : Pol g) : Pol (pm f g) := by
  obtain ⟨m, hm⟩ := hf
  obtain ⟨n, hn⟩ := hg
  exact ⟨m + n, fun t ht => ml_dg hn hm (by lia)⟩
theorem pol_a {f g : PS} (hf : Pol f) (hg : Pol g) : Pol (pa f g) := by
  obtain ⟨m, hm⟩ := hf
  obtain ⟨n, hn⟩ := hg
  exact ⟨m + n, fun t ht => by show f t + g t = 0; rw [hm t (by lia), hn t (by lia)]; grind⟩
theorem pol_b {f g : PS} (hf : Pol f) (hg : Pol g) : Pol (pb f g) := by
  obtain ⟨m, hm⟩ := hf
  obtain ⟨n, hn⟩ := hg
  exact ⟨m + n, fun t ht => by show f t - g t = 0; rw [hm t (by lia), hn t (by lia)]; grind⟩
theorem pol_c (c : F) : Pol (pc c) := ⟨1, fun t ht => by show (if t = 0 then c else 0) = 0; rw [if_neg (by lia)]⟩
theorem pol_ps (xs : List Int) : Pol (ps xs) := ⟨_, ps_dg xs⟩
/-- the degree of a polynomial that is not zero -/
theorem pol_deg {f : PS} (hf : Pol f) (h : ∃ t, f t ≠ 0) : ∃ n, dg f (n + 1) ∧ f n ≠ 0 := by
  obtain ⟨m, hm⟩ := hf
  induction m with
  | zero => obtain ⟨t, ht⟩ := h; exact absurd (hm t (Nat.zero_le _)) ht
  | succ m ih =>
    by_cases e : f m = 0
    · exact ih fun t ht => by
        rcases Nat.lt_or_ge m t with q | q
        · exact hm t q
        · rw [show t = m by lia]; exact e
    · exact ⟨m, hm, e⟩

/-- k * h is one power of x at N, h is zero before N: k is a constant -/
theorem const_of {k h : PS} {N : Nat} {e : F} (he : e ≠ 0) (pk : Pol k) (ph : Pol h) (hz : ∀ t, t < N → h t = 0) (hk : pm k h = mo e N) : k 0 ≠ 0 ∧ ∀ t, 0 < t → k t = 0 := by
  have h1 : k 0 * h N = e := by
    have := congrFun hk N
    rw [show mo e N N = e by simp [mo]] at this
    rw [← this]
    exact (ml_low1 hz).symm
  have k0 : k 0 ≠ 0 := fun q => he (by rw [← h1, q]; grind)
  have hN : h N ≠ 0 := fun q => he (by rw [← h1, q]; grind)
  refine ⟨k0, ?_⟩
  obtain ⟨m, hm, hm'⟩ := pol_deg pk ⟨0, k0⟩
  obtain ⟨n, hn, hn'⟩ := pol_deg ph ⟨N, hN⟩
  have hNn : N ≤ n := by
    rcases Nat.lt_or_ge n N with q | q
    · exact absurd (hn N q) hN
    · exact q
  have top := congrFun hk (m + n)
  rw [show pm k h (m + n) = k m * h n from ml_top hn hm] at top
  have m0 : m = 0 := by
    by_cases q : m + n = N
    · lia
    · exfalso
      rw [mo, if_neg q] at top
      rcases f_mul top with z | z
      · exact hm' z
      · exact hn' z
  subst m0
  exact fun t ht => hm t ht

theorem rg_1 {R : Type} [Lean.Grind.CommRing R] {a b U V C r L : R} (h1 : a * U + b * V = C) (h2 : r * V = L * U) : C * L = (a * r + b * L) * V := by grind
theorem rg_2 {R : Type} [Lean.Grind.CommRing R] {a b U V C r L : R} (h1 : a * U + b * V = C) (h2 : r * V = L * U) : C * r = (a * r + b * L) * U := by grind
theorem rg_3 {R : Type} [Lean.Grind.CommRing R] {a b U V C r L A M X : R} (h1 : a * U + b * V = C) (h2 : r * V = L * U) (h3 : A * L - r * M = X) : (a * r + b * L) * (A * V - U * M) = C * X := by grind
theorem rg_4 {R : Type} [Lean.Grind.CommRing R] (a b c : R) : a * b * c = a * c * b := by grind
theorem rg_8 {R : Type} [Lean.Grind.CommRing R] (a b c : R) : a * b * c = c * b * a := by grind
theorem rg_5 {R : Type} [Lean.Grind.CommRing R] (a b c : R) : a * b * c = a * (c * b) := by grind

/-- alike below N -/
noncomputable def al (N : Nat) (f g : PS) : Prop := ∀ t, t < N → f t = g t
theorem al_m {N : Nat} {f f' g g' : PS} (h1 : al N f f') (h2 : al N g g') : al N (pm f g) (pm f' g') := fun t ht => ml_congr (fun i hi => h1 i (by lia)) (fun i hi => h2 i (by lia))
theorem al_refl (N : Nat) (f : PS) : al N f f := fun _ _ => rfl
theorem al_symm {N : Nat} {f g : PS} (h : al N f g) : al N g f := fun t ht => (h t ht).symm
theorem al_trans {N : Nat} {f g h : PS} (h1 : al N f g) (h2 : al N g h) : al N f h := fun t ht => (h1 t ht).trans (h2 t ht)
theorem al_eq {N : Nat} {f g : PS} (h : al N f g) (hf : dg f N) (hg : dg g N) : f = g := funext fun t => by
  rcases Nat.lt_or_ge t N with q | q
  · exact h t q
  · rw [hf t q, hg t q]
theorem dg_m {f g : PS} {m n k : Nat} (hf : dg f m) (hg : dg g n) (h : m + n ≤ k + 1) : dg (pm f g) k := fun t ht => ml_dg hg hf (by lia)
theorem dg_le {f : PS} {m n : Nat} (h : dg f m) (hm : m ≤ n) : dg f n := fun t ht => h t (by lia)

/-- the fraction is the only one -/
theorem pade {A R M L U V S a b : PS} {N u d : Nat} {e c : F} (hN : N = u + d + 1) (he : e ≠ 0) (hc : c ≠ 0)
    (pA : Pol A) (pM : Pol M) (pa' : Pol a) (pb' : Pol b)
    (iR : al N R (pm L S)) (iA : al N A (pm M S)) (det : pb (pm A L) (pm R M) = mo e N)
    (dR : dg R (u + 1)) (dL : dg L (d + 1)) (iU : al N U (pm V S)) (dU : dg U (u + 1)) (dV : dg V (d + 1)) (bez : pa (pm a U) (pm b V) = pc c) :
    ∃ k, k ≠ 0 ∧ (∀ t, L t = k * V t) ∧ ∀ t, R t = k * U t := by
  have cross : pm R V = pm L U := by
    refine al_eq (N := N) ?_ (dg_m dR dV (by lia)) (dg_m dL dU (by lia))
    refine al_trans (al_m iR (al_refl N V)) (al_symm (al_trans (al_m (al_refl N L) iU) ?_))
    rw [show pm L (pm V S) = pm (pm L S) V from (@rg_5 PS psRing L S V).symm]
    exact al_refl _ _
  have e1 : pm (pc c) L = pm (pa (pm a R) (pm b L)) V := @rg_1 PS psRing a b U V (pc c) R L bez cross
  have e2 : pm (pc c) R = pm (pa (pm a R) (pm b L)) U := @rg_2 PS psRing a b U V (pc c) R L bez cross
  have e3 : pm (pa (pm a R) (pm b L)) (pb (pm A V) (pm U M)) = pm (pc c) (mo e N) := @rg_3 PS psRing a b U V (pc c) R L A M (mo e N) bez cross det
  have e4 : pm (pc c) (mo e N) = mo (c * e) N := funext fun t => by
    show ml (cs c) _ t = _
    rw [ml_cs]
    simp only [mo]
    split <;> grind
  rw [e4] at e3
  have ce : c * e ≠ 0 := fun q => (f_mul q).elim hc he
  have hz : ∀ t, t < N → pb (pm A V) (pm U M) t = 0 := by
    have q1 : al N (pm A V) (pm (pm M S) V) := al_m iA (al_refl _ _)
    have q2 : al N (pm U M) (pm (pm V S) M) := al_m iU (al_refl _ _)
    rw [show pm (pm V S) M = pm (pm M S) V from @rg_8 PS psRing V S M] at q2
    intro t ht
    show pm A V t - pm U M t = 0
    rw [q1 t ht, q2 t ht]; grind
  have pR : Pol R := ⟨_, dR⟩
  have pL : Pol L := ⟨_, dL⟩
  have pU : Pol U := ⟨_, dU⟩
  have pV : Pol V := ⟨_, dV⟩
  obtain ⟨k0, kz⟩ := const_of ce (pol_a (pol_m pa' pR) (pol_m pb' pL)) (pol_b (pol_m pA pV) (pol_m pU pM)) hz e3
  generalize pa (pm a R) (pm b L) = K at *
  have hK : K = pc (K 0) := funext fun t => by
    show _ = if t = 0 then _ else _
    split
    · rename_i q; rw [q]
    · rename_i q; exact kz t (by lia)
  rw [hK] at e1 e2
  obtain ⟨c', hc'⟩ := f_inv hc
  refine ⟨c' * K 0, fun q => ?_, fun t => ?_, fun t => ?_⟩
  · rcases f_mul q with z | z
    · rw [z] at hc'; exact absurd hc' (by grind)
    · exact k0 z
  · have := congrFun e1 t
    rw [show pm (pc c) L t = c * L t from ml_cs c t, show pm (pc (K 0)) V t = K 0 * V t from ml_cs _ t] at this
    grind
  · have := congrFun e2 t
    rw [show pm (pc c) R t = c * R t from ml_cs c t, show pm (pc (K 0)) U t = K 0 * U t from ml_cs _ t] at this
    grind

theorem rg_6 {R : Type} [Lean.Grind.CommRing R] (A u v M g : R) : g * (A * v - u * M) = A * (v * g) - (u * g) * M := by grind
/-- what divides both divides a power of x, and does not begin with zero: a constant -/
theorem apart_of {A R M L g u v : PS} {N : Nat} {e : F} (he : e ≠ 0) (det : pb (pm A L) (pm R M) = mo e N) (pA : Pol A) (pM : Pol M) (pg : Pol g) (pu : Pol u) (pv : Pol v)
    (hR : R = pm u g) (hL : L = pm v g) (h0 : L 0 ≠ 0) : g 0 ≠ 0 ∧ ∀ t, 0 < t → g t = 0 := by
  have e1 : pm g (pb (pm A v) (pm u M)) = mo e N := by
    rw [← det, hR, hL]
    exact @rg_6 PS psRing A u v M g
  have g0 : g 0 ≠ 0 := fun q => h0 (by
    rw [hL]
    show v 0 * g 0 = 0
    rw [q]; grind)
  refine const_of he pg (pol_b (pol_m pA pv) (pol_m pu pM)) (low_of g0 fun t ht => ?_) e1
  have := congrFun e1 t
  rw [show mo e N t = 0 by simp only [mo]; rw [if_neg (by lia)]] at this
  exact this
end Mine

namespace Mine

/-- x times the derivative -/
noncomputable def eu (f : PS) : PS := fun t => fz t * f t
theorem fz_succ (t : Nat) : fz ((t + 1 : Nat) : Int) = fz t + 1 := by
  rw [Int.natCast_add, fz_add]; rfl
theorem eu_ml {g : PS} : ∀ (t : Nat) (f : PS), fz t * ml f g t = ml (eu f) g t + ml f (eu g) t
  | 0, f => by simp only [ml, eu]; rw [show fz ((0 : Nat) : Int) = 0 from rfl]; grind
  | t + 1, f => by
    have ih := eu_ml (g := g) t (fun i => f (i + 1))
    simp only [ml]
    have e1 : (fun i => eu f (i + 1)) = fun i => eu (fun i => f (i + 1)) i + f (i + 1) := funext fun i => by
      simp only [eu]; rw [fz_succ]; grind
    rw [e1, ml_add, show eu f 0 = 0 by simp only [eu]; rw [show fz ((0 : Nat) : Int) = 0 from rfl]; grind, show eu g (t + 1) = fz ((t + 1 : Nat) : Int) * g (t + 1) from rfl, fz_succ]
    grind
theorem eu_pm (f g : PS) : eu (pm f g) = pa (pm (eu f) g) (pm f (eu g)) := funext fun t => eu_ml t f

/-- the sums of the powers -/
noncomputable def pw : List Int → PS
  | [] => fun _ => 0
  | a :: r => fun t => if t = 0 then 0 else fz a ^ t + pw r t
noncomputable def lin (a : Int) : PS := pa (pc 1) (mo (- fz a) 1)
/-- the product of 1 - a x -/
noncomputable def pr : List Int → PS
  | [] => pc 1
  | a :: r => pm (lin a) (pr r)
noncomputable def geo (a : Int) : PS := fun t => if t = 0 then 0 else fz a ^ t
theorem pw_cons (a : Int) (r : List Int) : pw (a :: r) = pa (geo a) (pw r) := funext fun t => by
  show (if t = 0 then 0 else fz a ^ t + pw r t) = (if t = 0 then 0 else fz a ^ t) + pw r t
  split
  · rename_i h
    subst h
    have : ∀ r, pw r 0 = 0 := fun r => by cases r <;> rfl
    rw [this]; grind
  · rfl
theorem lin_at (a : Int) (g : PS) (t : Nat) : pm (lin a) g t = g t + (if 1 ≤ t then - fz a * g (t - 1) else 0) := by
  show ml (fun i => pc 1 i + mo (- fz a) 1 i) g t = _
  rw [ml_add, ml_mo, show ml (pc 1) g t = 1 * g t from ml_cs 1 t]
  grind
theorem lin_geo (a : Int) : pm (lin a) (geo a) = mo (fz a) 1 := funext fun t => by
  rw [lin_at]
  match t with
  | 0 => show (0 : F) + 0 = 0; grind
  | 1 =>
    show fz a ^ 1 + - fz a * 0 = fz a
    rw [show (1 : Nat) = 0 + 1 from rfl, Lean.Grind.Semiring.pow_succ, Lean.Grind.Semiring.pow_zero]; grind
  | t + 2 =>
    simp only [geo, mo]
    rw [if_neg (by lia), if_pos (by lia), if_neg (by lia), if_neg (by lia), show t + 2 - 1 = t + 1 by lia, Lean.Grind.Semiring.pow_succ _ (t + 1)]
    grind
theorem eu_lin (a : Int) : eu (lin a) = pn (mo (fz a) 1) := funext fun t => by
  show fz t * ((if t = 0 then 1 else 0) + (if t = 1 then - fz a else 0)) = - (if t = 1 then fz a else 0)
  by_cases h0 : t = 0
  · subst h0; rw [show fz ((0 : Nat) : Int) = 0 from rfl]; simp only [if_true]; rw [if_neg (by lia), if_neg (by lia)]; grind
  · by_cases h1 : t = 1
    · subst h1; rw [show fz ((1 : Nat) : Int) = 1 from rfl]; simp only [if_true]; rw [if_neg (by lia)]; grind
    · rw [if_neg h0, if_neg h1, if_neg h1]; grind
theorem rg_9 {R : Type} [Lean.Grind.CommRing R] {l g p q X : R} (h : l * g = X) : (-X) * p + l * (-(q * p)) = -((g + q) * (l * p)) := by grind
theorem newton : ∀ r : List Int, eu (pr r) = pn (pm (pw r) (pr r))
  | [] => funext fun t => by
    show fz t * (if t = 0 then 1 else 0) = - ml (fun _ => 0) _ t
    rw [ml_zero]
    split
    · rename_i h; subst h; rw [show fz ((0 : Nat) : Int) = 0 from rfl]; grind
    · grind
  | a :: r => by
    rw [pr, eu_pm, newton r, eu_lin, pw_cons]
    exact @rg_9 PS psRing (lin a) (geo a) (pr r) (pw r) (mo (fz a) 1) (lin_geo a)
theorem pw_zero (r : List Int) : pw r 0 = 0 := by cases r <;> rfl
theorem pr_zero : ∀ r : List Int, pr r 0 = 1
  | [] => rfl
  | a :: r => by rw [pr, lin_at, pr_zero r, if_neg (by lia)]; grind
theorem pr_dg : ∀ r : List Int, dg (pr r) (r.length + 1)
  | [] => fun t ht => by
    show (if t = 0 then _ else _) = _
    rw [if_neg]
    intro q; rw [q] at ht; simp at ht
  | a :: r => fun t ht => by
    simp only [List.length_cons] at ht
    rw [pr, lin_at, pr_dg r t (by lia), if_pos (by lia), pr_dg r (t - 1) (by lia)]; grind

/-- the recursion has one solution -/
theorem eu_one {P P' f g : PS} {N : Nat} (hN : N ≤ 251) (h0 : P 0 = 0) (hP : al N P P') (hf : al N (eu f) (pn (pm P f))) (hg : al N (eu g) (pn (pm P' g))) (h : f 0 = g 0) : al N f g := by
  intro t
  induction t using Nat.strongRecOn with
  | _ t ih =>
    intro ht
    cases t with
    | zero => exact h
    | succ t =>
      have e1 := hf (t + 1) ht
      have e2 := hg (t + 1) ht
      have e3 : ml P f (t + 1) = ml P' g (t + 1) := by
        simp only [ml]
        have p0 := hP 0 (by lia)
        rw [← p0, h0]
        have : ml (fun i => P (i + 1)) f t = ml (fun i => P' (i + 1)) g t := ml_congr (fun i hi => hP (i + 1) (by lia)) fun i hi => ih i (by lia) (by lia)
        rw [this]; grind
      have e4 : fz ((t + 1 : Nat) : Int) * f (t + 1) = fz ((t + 1 : Nat) : Int) * g (t + 1) := by
        refine Eq.trans e1 (Eq.trans ?_ e2.symm)
        show - ml P f (t + 1) = - ml P' g (t + 1)
        rw [e3]
      have e5 : fz ((t + 1 : Nat) : Int) ≠ 0 := fun q => by have := fz_eq_zero.mp q; lia
      obtain ⟨y, hy⟩ := f_inv e5
      generalize fz ((t + 1 : Nat) : Int) = z at *
      grind

theorem rg_11 {R : Type} [Lean.Grind.CommRing R] (p q b s : R) : -(p * b) * s + b * -(q * s) = -((p + q) * (b * s)) := by grind
/-- a series with the sums of A less those of B is the fraction of the products -/
theorem newton_frac {A B : List Int} {Q S : PS} {N : Nat} (hN : N ≤ 251) (h0 : S 0 = 1) (hS : al N (eu S) (pn (pm Q S))) (hQ : ∀ t, t < N → Q t = pw A t - pw B t) : al N (pr A) (pm (pr B) S) := by
  refine eu_one (P := pw A) (P' := pa (pw B) Q) hN (pw_zero A) ?_ ?_ ?_ ?_
  · intro t ht
    show _ = pw B t + Q t
    rw [hQ t ht]; grind
  · rw [newton]; exact al_refl _ _
  · rw [eu_pm, newton]
    have e : pn (pm (pa (pw B) Q) (pm (pr B) S)) = pa (pm (pn (pm (pw B) (pr B))) S) (pm (pr B) (pn (pm Q S))) := (@rg_11 PS psRing (pw B) Q (pr B) S).symm
    rw [e]
    intro t ht
    show ml _ _ t + ml _ _ t = ml _ _ t + ml _ _ t
    congr 1
    exact al_m (al_refl N (pr B)) hS t ht
  · rw [pr_zero]
    show _ = pr B 0 * S 0
    rw [pr_zero, h0]; grind

/-! values -/
noncomputable def evn (f : PS) (x : F) : Nat → F
  | 0 => 0
  | n + 1 => evn f x n + f n * x ^ n
theorem evn_lin (a : Int) (g : PS) (x : F) : ∀ n, evn (pm (lin a) g) x (n + 1) = (1 - fz a * x) * evn g x n + g n * x ^ n
  | 0 => by
    simp only [evn]
    rw [lin_at, if_neg (by lia), Lean.Grind.Semiring.pow_zero]; grind
  | n + 1 => by
    rw [evn, evn_lin a g x n, lin_at, if_pos (by lia), evn, Nat.add_sub_cancel, Lean.Grind.Semiring.pow_succ]; grind
theorem evn_pr {x : F} : ∀ r : List Int, evn (pr r) x (r.length + 1) = 0 ↔ ∃ a ∈ r, fz a * x = 1
  | [] => by
    constructor
    · intro h
      exfalso
      simp only [evn, List.length_nil, pr] at h
      rw [show pc 1 0 = 1 from rfl, Lean.Grind.Semiring.pow_zero] at h
      exact absurd h (by decide)
    · rintro ⟨a, ha, _⟩; cases ha
  | a :: r => by
    rw [pr, List.length_cons, evn_lin, pr_dg r (r.length + 1) (Nat.le_refl _)]
    constructor
    · intro h
      have h' : (1 - fz a * x) * evn (pr r) x (r.length + 1) = 0 := by grind
      rcases f_mul h' with q | q
      · exact ⟨a, List.mem_cons_self, by grind⟩
      · obtain ⟨b, hb, e⟩ := (evn_pr r).mp q
        exact ⟨b, List.mem_cons_of_mem _ hb, e⟩
    · rintro ⟨b, hb, e⟩
      rcases List.mem_cons.mp hb with q | q
      · subst q; grind
      · have := (evn_pr r).mpr ⟨b, q, e⟩
        rw [this]; grind
theorem fz_ev (x : Int) : ∀ (xs : List Int) , fz (ev xs x) = evn (ps xs) (fz x) xs.length := by
  intro xs
  suffices h : ∀ n, n ≤ xs.length → fz (ev (xs.take n) x) = evn (ps xs) (fz x) n by
    have := h xs.length (Nat.le_refl _)
    rwa [List.take_length] at this
  intro n
  induction n with
  | zero => intro _; rfl
  | succ n ih =>
    intro hn
    rw [evn, ← ih (by lia), List.take_succ_eq_append_getElem (by lia), ev_append, fz_add, fz_mul, fz_pow, List.length_take, Nat.min_eq_left (by lia)]
    rw [show ps xs n = fz xs[n] by rw [ps, co_lt (by lia)]]
    grind
end Mine

namespace Mine

/-! at most as many roots as the degree -/
noncomputable def evF : List F → F → F
  | [], _ => 0
  | a :: r, x => a + x * evF r x
noncomputable def syn : List F → F → List F
  | [], _ => []
  | [_], _ => []
  | _ :: b :: r, x => evF (b :: r) x :: syn (b :: r) x
theorem syn_len (x : F) : ∀ fs : List F, (syn fs x).length = fs.length - 1
  | [] => rfl
  | [_] => rfl
  | _ :: b :: r => by rw [syn, List.length_cons, syn_len x (b :: r)]; simp
theorem rg_syn {R : Type} [Lean.Grind.CommRing R] {x y a u v w : R} (h : v - w = (y - x) * u) : a + y * v - (a + x * w) = (y - x) * (w + y * u) := by grind
theorem syn_ev (x y : F) : ∀ fs : List F, evF fs y - evF fs x = (y - x) * evF (syn fs x) y
  | [] => by simp only [evF, syn]; grind
  | [a] => by simp only [evF, syn]; grind
  | a :: b :: r => by
    have h := syn_ev x y (b :: r)
    show a + y * evF (b :: r) y - (a + x * evF (b :: r) x) = (y - x) * (evF (b :: r) x + y * evF (syn (b :: r) x) y)
    exact rg_syn h
theorem syn_last (x : F) : ∀ fs : List F, 2 ≤ fs.length → (syn fs x).getLast? = fs.getLast?
  | [], h => by simp at h
  | [_], h => by simp at h
  | [a, b], _ => by show some (b + x * 0) = some b; rw [show b + x * 0 = b by grind]
  | a :: b :: c :: r, _ => by
    have := syn_last x (b :: c :: r) (by simp)
    rw [syn, List.getLast?_cons_cons, ← this, List.getLast?_cons]
    cases e : (syn (b :: c :: r) x) with
    | nil => have := syn_len x (b :: c :: r); rw [e] at this; simp at this
    | cons p q => simp [List.getLast?_cons]
theorem roots_most : ∀ (n : Nat) (fs rs : List F), fs.length = n → (∀ c, fs.getLast? = some c → c ≠ 0) → fs ≠ [] → rs.Nodup → (∀ r ∈ rs, evF fs r = 0) → rs.length + 1 ≤ fs.length
  | n, fs, [], _, _, h, _, _ => by have := List.length_pos_iff.mpr h; simp only [List.length_nil]; lia
  | 0, fs, r :: rs, hn, _, h, _, _ => absurd (List.length_eq_zero_iff.mp hn) h
  | 1, fs, r :: rs, hn, hl, h, _, hz => by
    obtain ⟨a, rfl⟩ := List.length_eq_one_iff.mp hn
    exfalso
    have := hz r List.mem_cons_self
    apply hl a rfl
    simp only [evF] at this
    grind
  | n + 2, fs, r :: rs, hn, hl, h, hd, hz => by
    have l1 := syn_len r fs
    have ih := roots_most (n + 1) (syn fs r) rs (by lia) (fun c hc => hl c (by rw [← syn_last r fs (by lia)]; exact hc)) (by intro e; rw [e] at l1; simp at l1; lia) (List.nodup_cons.mp hd).2 (fun y hy => by
      have e1 := syn_ev r y fs
      rw [hz r List.mem_cons_self, hz y (List.mem_cons_of_mem _ hy)] at e1
      have ne : y - r ≠ 0 := fun q => (List.nodup_cons.mp hd).1 (by rw [show r = y by grind]; exact hy)
      have e2 : (y - r) * evF (syn fs r) y = 0 := by grind
      exact (f_mul e2).resolve_left ne)
    simp only [List.length_cons]
    lia
theorem fz_evF (x : Int) : ∀ xs : List Int, fz (ev xs x) = evF (xs.map fz) (fz x)
  | [] => rfl
  | a :: r => by rw [ev, fz_add, fz_mul, fz_evF x r]; rfl

theorem mem_roots {xs : List Int} {r : Int} : r ∈ rootsOf xs ↔ (1 ≤ r ∧ r ≤ 250) ∧ fz (ev xs r) = 0 := by
  unfold rootsOf
  rw [fz_eq_zero]
  constructor
  · intro h
    obtain ⟨j, hj, rfl⟩ := List.mem_map.mp h
    obtain ⟨h1, h2⟩ := List.mem_filter.mp hj
    have := List.mem_range.mp h1
    exact ⟨by lia, of_decide_eq_true h2⟩
  · rintro ⟨⟨h1, h2⟩, h3⟩
    refine List.mem_map.mpr ⟨(r - 1).toNat, List.mem_filter.mpr ⟨List.mem_range.mpr (by lia), ?_⟩, by lia⟩
    rw [show (1 + ((r - 1).toNat : Int)) = r by lia]
    exact decide_eq_true h3
theorem nodup_map {α β : Type} {f : α → β} {l : List α} (hf : ∀ a ∈ l, ∀ b ∈ l, f a = f b → a = b) (h : l.Nodup) : (l.map f).Nodup := by
  induction l with
  | nil => exact List.nodup_nil
  | cons a r ih =>
    rw [List.map_cons, List.nodup_cons]
    have h' := List.nodup_cons.mp h
    refine ⟨fun q => ?_, ih (fun x hx y hy => hf x (List.mem_cons_of_mem _ hx) y (List.mem_cons_of_mem _ hy)) h'.2⟩
    obtain ⟨b, hb, e⟩ := List.mem_map.mp q
    have := hf a List.mem_cons_self b (List.mem_cons_of_mem _ hb) e.symm
    exact h'.1 (this ▸ hb)
theorem roots_nodup (xs : List Int) : (rootsOf xs).Nodup := by
  unfold rootsOf
  exact nodup_map (fun a _ b _ e => by lia) (List.Pairwise.filter _ List.nodup_range)
theorem roots_le {xs : List Int} (hr : Red xs) (ht : Trim xs) (hn : xs ≠ []) : (rootsOf xs).length + 1 ≤ xs.length := by
  have := roots_most _ (xs.map fz) ((rootsOf xs).map fz) rfl ?_ (by simpa using hn) ?_ ?_
  · simpa using this
  · intro c hc q
    rw [List.getLast?_map, Option.map_eq_some_iff] at hc
    obtain ⟨a, ha, e⟩ := hc
    apply ht
    rw [ha]
    have := hr a (List.mem_of_getLast? ha)
    rw [q] at e
    have := fz_eq_zero.mp e
    congr 1; lia
  · refine nodup_map (fun a ha b hb e => ?_) (roots_nodup xs)
    have h1 := (mem_roots.mp ha).1
    have h2 := (mem_roots.mp hb).1
    exact fz_inj (by lia) (by lia) e
  · intro r hr
    obtain ⟨a, ha, rfl⟩ := List.mem_map.mp hr
    rw [← fz_evF]
    exact (mem_roots.mp ha).2

/-! the numbers of a product -/
/-- numbers of a row -/
noncomputable def Num (A : List Int) : Prop := ∀ a ∈ A, 1 ≤ a ∧ a ≤ 250
theorem num_ne {a : Int} (h : 1 ≤ a ∧ a ≤ 250) : fz a ≠ 0 := fun q => by have := fz_eq_zero.mp q; lia
theorem inv_num {a : Int} (h : 1 ≤ a ∧ a ≤ 250) : 1 ≤ inv a ∧ inv a ≤ 250 := by
  have h1 := inv_red a
  have h2 := inv_mul (num_ne h)
  have : inv a ≠ 0 := fun q => by rw [q, fz_zero] at h2; exact absurd h2 (by grind)
  lia
theorem inv_one {a b : Int} (h : 1 ≤ a ∧ a ≤ 250) (e : fz b * fz a = 1) (hb : 1 ≤ b ∧ b ≤ 250) : inv a = b := by
  have h1 := inv_red a
  have h2 := inv_mul (num_ne h)
  exact fz_inj h1 (by lia) (by grind)
theorem inv_inj {a b : Int} (h : 1 ≤ a ∧ a ≤ 250) (h' : 1 ≤ b ∧ b ≤ 250) (e : inv a = inv b) : a = b := by
  have h1 := inv_mul (num_ne h)
  have h2 := inv_mul (num_ne h')
  rw [e] at h1
  exact fz_inj (by lia) (by lia) (by grind)
theorem pr_top : ∀ {A : List Int}, Num A → pr A A.length ≠ 0
  | [], _ => by show (1 : F) ≠ 0; decide
  | a :: r, h => by
    rw [pr, List.length_cons, lin_at, pr_dg r (r.length + 1) (Nat.le_refl _), if_pos (by lia), Nat.add_sub_cancel]
    intro q
    have q' : fz a * pr r r.length = 0 := by grind
    rcases f_mul q' with z | z
    · exact num_ne (h a List.mem_cons_self) z
    · exact pr_top (fun x hx => h x (List.mem_cons_of_mem _ hx)) z
theorem pr_len {p A : List Int} (hr : Red p) (ht : Trim p) (hA : Num A) (h : ps p = pr A) : p.length = A.length + 1 := by
  have h1 : p.length ≤ A.length + 1 := ps_len hr ht (h ▸ pr_dg A)
  rcases Nat.lt_or_ge A.length p.length with q | q
  · lia
  · exact absurd (h ▸ ps_dg p A.length q) (pr_top hA)
theorem pr_roots {p A : List Int} (hr : Red p) (ht : Trim p) (hA : Num A) (dA : A.Nodup) (h : ps p = pr A) : ((rootsOf p).map inv).Perm A := by
  have hl := pr_len hr ht hA h
  have d1 : ((rootsOf p).map inv).Nodup := nodup_map (fun a ha b hb e => inv_inj (mem_roots.mp ha).1 (mem_roots.mp hb).1 e) (roots_nodup p)
  refine (List.perm_ext_iff_of_nodup d1 dA).mpr fun a => ?_
  have key : ∀ r, fz (ev p r) = 0 ↔ ∃ a ∈ A, fz a * fz r = 1 := fun r => by rw [fz_ev, h, hl, evn_pr]
  constructor
  · intro q
    obtain ⟨r, hr, rfl⟩ := List.mem_map.mp q
    obtain ⟨h1, h2⟩ := mem_roots.mp hr
    obtain ⟨b, hb, e⟩ := (key r).mp h2
    rw [inv_one h1 e (hA b hb)]; exact hb
  · intro q
    have hq := hA a q
    refine List.mem_map.mpr ⟨inv a, mem_roots.mpr ⟨inv_num hq, (key _).mpr ⟨a, q, inv_mul (num_ne hq)⟩⟩, ?_⟩
    exact inv_one (inv_num hq) (inv_mul (num_ne hq)) hq
theorem lin_apart {a b : Int} (h : fz a ≠ fz b) : ∃ x y : F, pa (pm (pc x) (lin a)) (pm (pc y) (lin b)) = pc 1 := by
  have ne : fz b - fz a ≠ 0 := fun q => h (by grind)
  obtain ⟨z, hz⟩ := f_inv ne
  refine ⟨z * fz b, - z * fz a, funext fun t => ?_⟩
  show ml (cs _) _ t + ml (cs _) _ t = cs 1 t
  rw [ml_cs, ml_cs]
  show z * fz b * (cs 1 t + (if t = 1 then - fz a else 0)) + - z * fz a * (cs 1 t + (if t = 1 then - fz b else 0)) = cs 1 t
  simp only [cs]
  by_cases h0 : t = 0
  · subst h0; rw [if_pos rfl, if_neg (by lia), if_neg (by lia)]; grind
  · rw [if_neg h0]
    split <;> grind
theorem bez_1 {R : Type} [Lean.Grind.CommRing R] {x y l p u v m : R} (h : u * l + v * m = 1) (h' : x * l + y * p = 1) : (x + y * p * u) * l + (y * v) * (m * p) = 1 := by grind
theorem lin_pr {a : Int} : ∀ {B : List Int}, (∀ b ∈ B, fz a ≠ fz b) → ∃ x y : PS, Pol x ∧ Pol y ∧ pa (pm x (lin a)) (pm y (pr B)) = pc 1
  | [], _ => ⟨pc 0, pc 1, pol_c _, pol_c _, funext fun t => by
      show ml (cs 0) _ t + ml (cs 1) (cs 1) t = cs 1 t
      rw [ml_cs, ml_cs]; grind⟩
  | b :: B, h => by
    obtain ⟨x, y, hx, hy, e⟩ := lin_pr (B := B) fun c hc => h c (List.mem_cons_of_mem _ hc)
    obtain ⟨u, v, e'⟩ := lin_apart (h b List.mem_cons_self)
    have pl : Pol (lin b) := ⟨2, fun t ht => by
      show (if t = 0 then _ else _) + (if t = 1 then _ else _) = _
      rw [if_neg (by lia), if_neg (by lia)]; grind⟩
    refine ⟨pa x (pm (pm y (pr B)) (pc u)), pm y (pc v), pol_a hx (pol_m (pol_m hy ⟨_, pr_dg B⟩) (pol_c _)), pol_m hy (pol_c _), ?_⟩
    exact @bez_1 PS psRing x y (lin a) (pr B) (pc u) (pc v) (lin b) (show _ = pc (0 + 1) from e'.trans (by rw [show (0 : F) + 1 = 1 by grind])) (show _ = pc (0 + 1) from e.trans (by rw [show (0 : F) + 1 = 1 by grind])) |>.trans (show pc (0 + 1) = pc 1 by rw [show (0 : F) + 1 = 1 by grind])
theorem bez_2 {R : Type} [Lean.Grind.CommRing R] {x y l p u v q : R} (h : x * l + y * q = 1) (h' : u * p + v * q = 1) : (x * u) * (l * p) + (y * u * p + v) * q = 1 := by grind
theorem pr_apart : ∀ {A B : List Int}, (∀ a ∈ A, ∀ b ∈ B, fz a ≠ fz b) → ∃ x y : PS, Pol x ∧ Pol y ∧ pa (pm x (pr A)) (pm y (pr B)) = pc 1
  | [], B, _ => ⟨pc 1, pc 0, pol_c _, pol_c _, funext fun t => by
      show ml (cs 1) (cs 1) t + ml (cs 0) _ t = cs 1 t
      rw [ml_cs, ml_cs]; grind⟩
  | a :: A, B, h => by
    obtain ⟨u, v, hu, hv, e'⟩ := pr_apart (A := A) (B := B) fun c hc => h c (List.mem_cons_of_mem _ hc)
    obtain ⟨x, y, hx, hy, e⟩ := lin_pr (h a List.mem_cons_self)
    refine ⟨pm x u, pa (pm (pm y u) (pr A)) v, pol_m hx hu, pol_a (pol_m (pol_m hy hu) ⟨_, pr_dg A⟩) hv, ?_⟩
    exact @bez_2 PS psRing x y (lin a) (pr A) u v (pr B) (show _ = pc (0 + 1) from e.trans (by rw [show (0 : F) + 1 = 1 by grind])) (show _ = pc (0 + 1) from e'.trans (by rw [show (0 : F) + 1 = 1 by grind])) |>.trans (show pc (0 + 1) = pc 1 by rw [show (0 : F) + 1 = 1 by grind])
end Mine

open PySem
set_option linter.unusedSimpArgs false
set_option linter.unusedVariables false
namespace Mine

theorem set_ne {H : Hp} {k l : Nat} {vs ws : List V} (h : H[k]? = some vs) (n : l ≠ k) : (H.set l ws)[k]? = some vs := by rw [List.getElem?_set_ne n]; exact h
theorem lt_of {H : Hp} {k : Nat} {vs : List V} (h : H[k]? = some vs) : k < H.length := (List.getElem?_eq_some_iff.mp h).1
theorem last_co {xs : List Int} (h : xs ≠ []) : xs.getLast h = co xs (xs.length - 1) := by
  have := List.length_pos_iff.mpr h
  rw [List.getLast_eq_getElem, co_lt (by lia)]
theorem red_set {xs : List Int} {t : Nat} {a : Int} (h : Red xs) (ha : 0 ≤ a ∧ a < 251) : Red (xs.set t a) := fun b hb => by
  rcases List.mem_or_eq_of_mem_set hb with q | q
  · exact h b q
  · subst q; exact ha
theorem red_of_co {xs : List Int} (h : ∀ t, t < xs.length → 0 ≤ co xs t ∧ co xs t < 251) : Red xs := fun a ha => by
  obtain ⟨t, ht, rfl⟩ := List.getElem_of_mem ha
  have := h t ht
  rwa [co_lt ht] at this
theorem red_replicate (n : Nat) : Red (List.replicate n 0) := fun a ha => by
  rw [List.mem_replicate] at ha
  lia
theorem rg_div {R : Type} [Lean.Grind.CommRing R] {X Q Y r M : R} (h : X = Q * Y + r) : X = (Q + M) * Y + (r - M * Y) := by grind

/-- one step of a division -/
theorem div_step {rs ys gs : List Int} {f num : Int} {at' : Nat} (rr : Red rs) (ny : 0 < ys.length) (hat : rs.length = at' + ys.length) (hinv : fz (co ys (ys.length - 1)) * fz f = 1) (hnum : co rs (rs.length - 1) * f % 251 = num) (tg : Trim gs)
    (hg : ∀ t, co gs t = if at' ≤ t ∧ t - at' < ys.length then (co rs t - num * co ys (t - at')) % 251 else co rs t) : Red gs ∧ gs.length ≤ rs.length - 1 ∧ ps gs = pb (ps rs) (pm (mo (fz num) at') (ps ys)) := by
  have hps : ps gs = pb (ps rs) (pm (mo (fz num) at') (ps ys)) := funext fun t => by
    show fz (co gs t) = ps rs t - ml _ _ t
    rw [hg, ml_mo]
    by_cases c1 : at' ≤ t
    · rw [if_pos c1]
      by_cases c2 : t - at' < ys.length
      · rw [if_pos ⟨c1, c2⟩, fz_mod, fz_sub, fz_mul]; rfl
      · rw [if_neg (fun q => c2 q.2), ps_dg ys (t - at') (Nat.le_of_not_lt c2)]
        show fz (co rs t) = fz (co rs t) - _
        grind
    · rw [if_neg (fun q => c1 q.1), if_neg c1]
      show fz (co rs t) = fz (co rs t) - _
      grind
  have rg : Red gs := red_of_co fun t _ => by
    rw [hg]
    split
    · exact ⟨Int.emod_nonneg _ (by decide), Int.emod_lt_of_pos _ (by decide)⟩
    · exact co_red rr t
  refine ⟨rg, ps_len rg tg fun t ht => ?_, hps⟩
  rcases Nat.lt_or_ge (rs.length - 1) t with c1 | c1
  · rw [ps, hg, if_neg (by lia), co_ge (by lia)]; rfl
  · have et : t = rs.length - 1 := Nat.le_antisymm c1 ht
    subst et
    rw [hps]
    show ps rs (rs.length - 1) - ml _ _ _ = 0
    rw [ml_mo, if_pos (by lia), show rs.length - 1 - at' = ys.length - 1 by lia, ← hnum, fz_mod, fz_mul]
    show fz (co rs _) - fz (co rs _) * fz f * fz (co ys _) = 0
    grind

theorem spec_divided (n i j : Nat) (xs ys : List Int) (H : Hp) (P : PV) (hi : H[i]? = some (zl xs)) (hj : H[j]? = some (zl ys)) (rx : Red xs) (ry : Red ys) (tx : Trim xs) (ty : Trim ys) (ny : ys ≠ []) (lx : xs.length ≤ 400000) (ly : ys.length ≤ 400000)
    (h : ∀ k l qs rs H', H <+: H' → H.length ≤ k → H.length ≤ l → k ≠ l → H'[k]? = some (zl qs) → H'[l]? = some (zl rs) → Trim qs → Red qs → Trim rs → Red rs → rs.length < ys.length → (ys.length ≤ xs.length → qs.length + ys.length ≤ xs.length + 1) → (xs.length < ys.length → qs = []) →
      rs.length ≤ xs.length → ps xs = pa (pm (ps qs) (ps ys)) (ps rs) → P (.tup [.ref k, .ref l]) H') : run T (n + 3) 16 [.ref i, .ref j] H P := by
  --EXPL
  have ly1 := List.length_pos_iff.mpr ny
  refine run_succ (d := f_divided) rfl rfl (by decide) ?_
  simp only [f_divided, entry, List.map, List.replicate, Nat.reduceSub, List.cons_append, List.nil_append]
  (with_reducible first | refine Vx ?_ | (refine VC ?_; intro J)); simp -implicitDefEqProofs only [↓Ve, ↓Vf, ↓Vs, ↓Vl, ↓YU, ↓Vb, ↓Vu, ↓Ym, ↓Vk, ↓VI, ↓Vh, ↓YD, ↓Vj, ↓Yg, ↓Yy, ↓Ys, ↓Yo, ↓Yp, ↓Ye, Yc, ZA, ZS, Yb, Yr, ZF, Zx, ZD, ZT, ZX, ZO, Yd, YG, ZZ, YT, Yn, ZJ, YL, YK, Vc, Yw, ZU, ZR, YC, ZQ, ZV, ZH, YV, Vq, Vd, Vt, Vi, Vr, Va, Vo, Vg, YY, YJ, Yi, Zm, Zh, Zc, Zb, ZC, Zu, ZB, ZL, ZI, ZM, ZG, ZE, YF, Zz, Zy, Zw, Zt, Zr, Zo, Zv, Zn, Zi, Zp, Zl, Zd, Zk, Ze, Zj, Zf, Zg, Za, Yq, YB, Yv, ZW, Yx, YX, YZ, Vm, YW, Yj, YH, Vp, Vn, Zq, Zs, YM, YE, Yk, Yz, Yl, Yu, YA, Yt, Yh, YI, ZP, ZY, List.cons_append, List.nil_append, Bool.not_true, Bool.not_false, VH hi, VH hj, VR]
  (with_reducible first | refine Vx ?_ | (refine VC ?_; intro J)); simp -implicitDefEqProofs only [↓Ve, ↓Vf, ↓Vs, ↓Vl, ↓YU, ↓Vb, ↓Vu, ↓Ym, ↓Vk, ↓VI, ↓Vh, ↓YD, ↓Vj, ↓Yg, ↓Yy, ↓Ys, ↓Yo, ↓Yp, ↓Ye, Yc, ZA, ZS, Yb, Yr, ZF, Zx, ZD, ZT, ZX, ZO, Yd, YG, ZZ, YT, Yn, ZJ, YL, YK, Vc, Yw, ZU, ZR, YC, ZQ, ZV, ZH, YV, Vq, Vd, Vt, Vi, Vr, Va, Vo, Vg, YY, YJ, Yi, Zm, Zh, Zc, Zb, ZC, Zu, ZB, ZL, ZI, ZM, ZG, ZE, YF, Zz, Zy, Zw, Zt, Zr, Zo, Zv, Zn, Zi, Zp, Zl, Zd, Zk, Ze, Zj, Zf, Zg, Za, Yq, YB, Yv, ZW, Yx, YX, YZ, Vm, YW, Yj, YH, Vp, Vn, Zq, Zs, YM, YE, Yk, Yz, Yl, Yu, YA, Yt, Yh, YI, ZP, ZY, List.cons_append, List.nil_append, Bool.not_true, Bool.not_false]
  refine withL_of (get_old hi) ?_
  refine withL_of (get_old hj) ?_
  rw [VR, VR]
  generalize hL : (if (0 : Int) < (xs.length : Int) - ys.length + 1 then (xs.length : Int) - ys.length + 1 else 0) = L
  have hL' : 0 ≤ L ∧ L ≤ 400001 ∧ (ys.length ≤ xs.length → L = (xs.length : Int) - ys.length + 1) ∧ (xs.length < ys.length → L = 0) := by
    subst hL; split <;> lia
  refine comp_range (VB _ _) (by decide) (by lia) (fun s acc H' => H' = H ++ [zl xs] ∧ acc = zl (List.replicate s 0)) ⟨rfl, rfl⟩ ?_ ?_
  · rintro s acc H' hs ⟨rfl, rfl⟩
    (try (with_reducible (first | refine Vy ?_ | refine Vw ?_); intro J))
    (try simp -implicitDefEqProofs only [↓Ve, ↓Vf, ↓Vs, ↓Vl, ↓YU, ↓Vb, ↓Vu, ↓Ym, ↓Vk, ↓VI, ↓Vh, ↓YD, ↓Vj, ↓Yg, ↓Yy, ↓Ys, ↓Yo, ↓Yp, ↓Ye, Yc, ZA, ZS, Yb, Yr, ZF, Zx, ZD, ZT, ZX, ZO, Yd, YG, ZZ, YT, Yn, ZJ, YL, YK, Vc, Yw, ZU, ZR, YC, ZQ, ZV, ZH, YV, Vq, Vd, Vt, Vi, Vr, Va, Vo, Vg, YY, YJ, Yi, Zm, Zh, Zc, Zb, ZC, Zu, ZB, ZL, ZI, ZM, ZG, ZE, YF, Zz, Zy, Zw, Zt, Zr, Zo, Zv, Zn, Zi, Zp, Zl, Zd, Zk, Ze, Zj, Zf, Zg, Za, Yq, YB, Yv, ZW, Yx, YX, YZ, Vm, YW, Yj, YH, Vp, Vn, Zq, Zs, YM, YE, Yk, Yz, Yl, Yu, YA, Yt, Yh, YI, ZP, ZY, List.cons_append, List.nil_append, Bool.not_true, Bool.not_false])
    refine ⟨(by trivial), ?_⟩
    rw [zl_append, List.replicate_succ']
  rintro acc H' ⟨rfl, rfl⟩
  (try (with_reducible (first | refine Vy ?_ | refine Vw ?_); intro J))
  rw [show (L - 0).toNat = L.toNat by lia]
  (try simp -implicitDefEqProofs only [↓Ve, ↓Vf, ↓Vs, ↓Vl, ↓YU, ↓Vb, ↓Vu, ↓Ym, ↓Vk, ↓VI, ↓Vh, ↓YD, ↓Vj, ↓Yg, ↓Yy, ↓Ys, ↓Yo, ↓Yp, ↓Ye, Yc, ZA, ZS, Yb, Yr, ZF, Zx, ZD, ZT, ZX, ZO, Yd, YG, ZZ, YT, Yn, ZJ, YL, YK, Vc, Yw, ZU, ZR, YC, ZQ, ZV, ZH, YV, Vq, Vd, Vt, Vi, Vr, Va, Vo, Vg, YY, YJ, Yi, Zm, Zh, Zc, Zb, ZC, Zu, ZB, ZL, ZI, ZM, ZG, ZE, YF, Zz, Zy, Zw, Zt, Zr, Zo, Zv, Zn, Zi, Zp, Zl, Zd, Zk, Ze, Zj, Zf, Zg, Za, Yq, YB, Yv, ZW, Yx, YX, YZ, Vm, YW, Yj, YH, Vp, Vn, Zq, Zs, YM, YE, Yk, Yz, Yl, Yu, YA, Yt, Yh, YI, ZP, ZY, List.cons_append, List.nil_append, Bool.not_true, Bool.not_false])
  have hj1 : (H ++ [zl xs] ++ [zl (List.replicate L.toNat 0)])[j]? = some (zl ys) := get_old (get_old hj)
  have hr1 : (H ++ [zl xs] ++ [zl (List.replicate L.toNat 0)])[H.length]? = some (zl xs) := get_old VP
  have hq1 : (H ++ [zl xs] ++ [zl (List.replicate L.toNat 0)])[(H ++ [zl xs]).length]? = some (zl (List.replicate L.toNat 0)) := VP
  have p1 : H <+: H ++ [zl xs] ++ [zl (List.replicate L.toNat 0)] := pre_app (List.prefix_append _ _)
  have kq1 : H.length + 1 = (H ++ [zl xs]).length := by simp
  generalize H ++ [zl xs] ++ [zl (List.replicate L.toNat 0)] = H1 at *
  generalize (H ++ [zl xs]).length = kq at *
  (with_reducible first | refine Vx ?_ | (refine VC ?_; intro J)); simp -implicitDefEqProofs only [↓Ve, ↓Vf, ↓Vs, ↓Vl, ↓YU, ↓Vb, ↓Vu, ↓Ym, ↓Vk, ↓VI, ↓Vh, ↓YD, ↓Vj, ↓Yg, ↓Yy, ↓Ys, ↓Yo, ↓Yp, ↓Ye, Yc, ZA, ZS, Yb, Yr, ZF, Zx, ZD, ZT, ZX, ZO, Yd, YG, ZZ, YT, Yn, ZJ, YL, YK, Vc, Yw, ZU, ZR, YC, ZQ, ZV, ZH, YV, Vq, Vd, Vt, Vi, Vr, Va, Vo, Vg, YY, YJ, Yi, Zm, Zh, Zc, Zb, ZC, Zu, ZB, ZL, ZI, ZM, ZG, ZE, YF, Zz, Zy, Zw, Zt, Zr, Zo, Zv, Zn, Zi, Zp, Zl, Zd, Zk, Ze, Zj, Zf, Zg, Za, Yq, YB, Yv, ZW, Yx, YX, YZ, Vm, YW, Yj, YH, Vp, Vn, Zq, Zs, YM, YE, Yk, Yz, Yl, Yu, YA, Yt, Yh, YI, ZP, ZY, List.cons_append, List.nil_append, Bool.not_true, Bool.not_false, VH hj1]
  refine last_item ny ?_
  rw [last_co ny]
  refine spec_inverse _ _ _ _ ?_
  have hinv := inv_mul (a := co ys (ys.length - 1)) (ps_top (n := ys.length - 1) ry ty (by lia))
  generalize inv (co ys (ys.length - 1)) = f at hinv
  (try simp -implicitDefEqProofs only [↓Ve, ↓Vf, ↓Vs, ↓Vl, ↓YU, ↓Vb, ↓Vu, ↓Ym, ↓Vk, ↓VI, ↓Vh, ↓YD, ↓Vj, ↓Yg, ↓Yy, ↓Ys, ↓Yo, ↓Yp, ↓Ye, Yc, ZA, ZS, Yb, Yr, ZF, Zx, ZD, ZT, ZX, ZO, Yd, YG, ZZ, YT, Yn, ZJ, YL, YK, Vc, Yw, ZU, ZR, YC, ZQ, ZV, ZH, YV, Vq, Vd, Vt, Vi, Vr, Va, Vo, Vg, YY, YJ, Yi, Zm, Zh, Zc, Zb, ZC, Zu, ZB, ZL, ZI, ZM, ZG, ZE, YF, Zz, Zy, Zw, Zt, Zr, Zo, Zv, Zn, Zi, Zp, Zl, Zd, Zk, Ze, Zj, Zf, Zg, Za, Yq, YB, Yv, ZW, Yx, YX, YZ, Vm, YW, Yj, YH, Vp, Vn, Zq, Zs, YM, YE, Yk, Yz, Yl, Yu, YA, Yt, Yh, YI, ZP, ZY, List.cons_append, List.nil_append, Bool.not_true, Bool.not_false])
  (try change wpSs _ _ _ _ _)
  refine s_cut (VB _ _) (fun m' H' => Ex7 fun l rs qs t5 t6 t7 t8 => And13 (H <+: H') (H.length ≤ l) (l ≠ kq) (H'[l]? = some (zl rs)) (H'[kq]? = some (zl qs)) (Red rs) (Trim rs) (rs.length ≤ xs.length) (Red qs) (qs.length = L.toNat) (ps xs = pa (pm (ps qs) (ps ys)) (ps rs)) (rs.length < ys.length) (m' = [some (.ref i), some (.ref j), some (.ref l), some (.ref kq), some (.int f), t5, t6, t7, t8])) ?_ ?_
  · (try (with_reducible refine post_letS ?_; intro J))
    refine loop_of (VB _ _) (fun q m' H' => Ex7 fun l rs qs t5 t6 t7 t8 => And14 (H <+: H') (H.length ≤ l) (l ≠ kq) (H'[l]? = some (zl rs)) (H'[kq]? = some (zl qs)) (Red rs) (Trim rs) (rs.length ≤ xs.length) (Red qs) (qs.length = L.toNat) (ps xs = pa (pm (ps qs) (ps ys)) (ps rs)) ((∀ i, i + ys.length ≤ rs.length → co qs i = 0)) (rs.length = q) (m' = [some (.ref i), some (.ref j), some (.ref l), some (.ref kq), some (.int f), t5, t6, t7, t8])) xs.length ?_ ?_
    · refine ⟨H.length, xs, _, none, none, none, none, p1, Nat.le_refl _, by lia, hr1, hq1, rx, tx, Nat.le_refl _, red_replicate _, by simp, ?_, fun i _ => co_replicate _ _, rfl, rfl⟩
      funext t
      show ps xs t = ml (ps (List.replicate L.toNat 0)) (ps ys) t + ps xs t
      rw [show ps (List.replicate L.toNat 0) = fun _ => 0 from funext fun t => by rw [ps, co_replicate]; rfl, ml_zero]
      grind
    rintro q m' H' ⟨l, rs, qs, t5, t6, t7, t8, hp, hl, hlk, hrs, hqs, rr, tr, lr, rq, lq, heq, hz, rfl, rfl⟩
    (try (with_reducible (first | refine Vy ?_ | refine Vw ?_); intro J))
    have hj' := Vz hp hj
    (try simp -implicitDefEqProofs only [↓Ve, ↓Vf, ↓Vs, ↓Vl, ↓YU, ↓Vb, ↓Vu, ↓Ym, ↓Vk, ↓VI, ↓Vh, ↓YD, ↓Vj, ↓Yg, ↓Yy, ↓Ys, ↓Yo, ↓Yp, ↓Ye, Yc, ZA, ZS, Yb, Yr, ZF, Zx, ZD, ZT, ZX, ZO, Yd, YG, ZZ, YT, Yn, ZJ, YL, YK, Vc, Yw, ZU, ZR, YC, ZQ, ZV, ZH, YV, Vq, Vd, Vt, Vi, Vr, Va, Vo, Vg, YY, YJ, Yi, Zm, Zh, Zc, Zb, ZC, Zu, ZB, ZL, ZI, ZM, ZG, ZE, YF, Zz, Zy, Zw, Zt, Zr, Zo, Zv, Zn, Zi, Zp, Zl, Zd, Zk, Ze, Zj, Zf, Zg, Za, Yq, YB, Yv, ZW, Yx, YX, YZ, Vm, YW, Yj, YH, Vp, Vn, Zq, Zs, YM, YE, Yk, Yz, Yl, Yu, YA, Yt, Yh, YI, ZP, ZY, List.cons_append, List.nil_append, Bool.not_true, Bool.not_false, VH hrs, VH hj', VR])
    split
    rotate_left
    · rename_i c
      exact ⟨l, rs, qs, t5, t6, t7, t8, hp, hl, hlk, hrs, hqs, rr, tr, lr, rq, lq, heq, by lia, rfl⟩
    rename_i c
    have nr : rs ≠ [] := fun e => by rw [e, List.length_nil] at c; lia
    (with_reducible first | refine Vx ?_ | (refine VC ?_; intro J)); simp -implicitDefEqProofs only [↓Ve, ↓Vf, ↓Vs, ↓Vl, ↓YU, ↓Vb, ↓Vu, ↓Ym, ↓Vk, ↓VI, ↓Vh, ↓YD, ↓Vj, ↓Yg, ↓Yy, ↓Ys, ↓Yo, ↓Yp, ↓Ye, Yc, ZA, ZS, Yb, Yr, ZF, Zx, ZD, ZT, ZX, ZO, Yd, YG, ZZ, YT, Yn, ZJ, YL, YK, Vc, Yw, ZU, ZR, YC, ZQ, ZV, ZH, YV, Vq, Vd, Vt, Vi, Vr, Va, Vo, Vg, YY, YJ, Yi, Zm, Zh, Zc, Zb, ZC, Zu, ZB, ZL, ZI, ZM, ZG, ZE, YF, Zz, Zy, Zw, Zt, Zr, Zo, Zv, Zn, Zi, Zp, Zl, Zd, Zk, Ze, Zj, Zf, Zg, Za, Yq, YB, Yv, ZW, Yx, YX, YZ, Vm, YW, Yj, YH, Vp, Vn, Zq, Zs, YM, YE, Yk, Yz, Yl, Yu, YA, Yt, Yh, YI, ZP, ZY, List.cons_append, List.nil_append, Bool.not_true, Bool.not_false, VH hrs, VH hj', VR]
    (with_reducible first | refine Vx ?_ | (refine VC ?_; intro J)); simp -implicitDefEqProofs only [↓Ve, ↓Vf, ↓Vs, ↓Vl, ↓YU, ↓Vb, ↓Vu, ↓Ym, ↓Vk, ↓VI, ↓Vh, ↓YD, ↓Vj, ↓Yg, ↓Yy, ↓Ys, ↓Yo, ↓Yp, ↓Ye, Yc, ZA, ZS, Yb, Yr, ZF, Zx, ZD, ZT, ZX, ZO, Yd, YG, ZZ, YT, Yn, ZJ, YL, YK, Vc, Yw, ZU, ZR, YC, ZQ, ZV, ZH, YV, Vq, Vd, Vt, Vi, Vr, Va, Vo, Vg, YY, YJ, Yi, Zm, Zh, Zc, Zb, ZC, Zu, ZB, ZL, ZI, ZM, ZG, ZE, YF, Zz, Zy, Zw, Zt, Zr, Zo, Zv, Zn, Zi, Zp, Zl, Zd, Zk, Ze, Zj, Zf, Zg, Za, Yq, YB, Yv, ZW, Yx, YX, YZ, Vm, YW, Yj, YH, Vp, Vn, Zq, Zs, YM, YE, Yk, Yz, Yl, Yu, YA, Yt, Yh, YI, ZP, ZY, List.cons_append, List.nil_append, Bool.not_true, Bool.not_false, VH hrs]
    refine last_item nr ?_
    rw [last_co nr]
    (try simp -implicitDefEqProofs only [↓Ve, ↓Vf, ↓Vs, ↓Vl, ↓YU, ↓Vb, ↓Vu, ↓Ym, ↓Vk, ↓VI, ↓Vh, ↓YD, ↓Vj, ↓Yg, ↓Yy, ↓Ys, ↓Yo, ↓Yp, ↓Ye, Yc, ZA, ZS, Yb, Yr, ZF, Zx, ZD, ZT, ZX, ZO, Yd, YG, ZZ, YT, Yn, ZJ, YL, YK, Vc, Yw, ZU, ZR, YC, ZQ, ZV, ZH, YV, Vq, Vd, Vt, Vi, Vr, Va, Vo, Vg, YY, YJ, Yi, Zm, Zh, Zc, Zb, ZC, Zu, ZB, ZL, ZI, ZM, ZG, ZE, YF, Zz, Zy, Zw, Zt, Zr, Zo, Zv, Zn, Zi, Zp, Zl, Zd, Zk, Ze, Zj, Zf, Zg, Za, Yq, YB, Yv, ZW, Yx, YX, YZ, Vm, YW, Yj, YH, Vp, Vn, Zq, Zs, YM, YE, Yk, Yz, Yl, Yu, YA, Yt, Yh, YI, ZP, ZY, List.cons_append, List.nil_append, Bool.not_true, Bool.not_false])
    have cr := co_red rr (rs.length - 1)
    refine ⟨.inl (red_small cr), by decide, ?_⟩
    generalize hnum : co rs (rs.length - 1) * f % 251 = num
    have rnum : 0 ≤ num ∧ num < 251 := by subst hnum; exact ⟨Int.emod_nonneg _ (by decide), Int.emod_lt_of_pos _ (by decide)⟩
    have hat : ((rs.length : Int) - ys.length) = ((rs.length - ys.length : Nat) : Int) := by lia
    rw [hat]
    generalize hat' : rs.length - ys.length = at' at *
    (with_reducible first | refine Vx ?_ | (refine VC ?_; intro J)); simp -implicitDefEqProofs only [↓Ve, ↓Vf, ↓Vs, ↓Vl, ↓YU, ↓Vb, ↓Vu, ↓Ym, ↓Vk, ↓VI, ↓Vh, ↓YD, ↓Vj, ↓Yg, ↓Yy, ↓Ys, ↓Yo, ↓Yp, ↓Ye, Yc, ZA, ZS, Yb, Yr, ZF, Zx, ZD, ZT, ZX, ZO, Yd, YG, ZZ, YT, Yn, ZJ, YL, YK, Vc, Yw, ZU, ZR, YC, ZQ, ZV, ZH, YV, Vq, Vd, Vt, Vi, Vr, Va, Vo, Vg, YY, YJ, Yi, Zm, Zh, Zc, Zb, ZC, Zu, ZB, ZL, ZI, ZM, ZG, ZE, YF, Zz, Zy, Zw, Zt, Zr, Zo, Zv, Zn, Zi, Zp, Zl, Zd, Zk, Ze, Zj, Zf, Zg, Za, Yq, YB, Yv, ZW, Yx, YX, YZ, Vm, YW, Yj, YH, Vp, Vn, Zq, Zs, YM, YE, Yk, Yz, Yl, Yu, YA, Yt, Yh, YI, ZP, ZY, List.cons_append, List.nil_append, Bool.not_true, Bool.not_false, VH hqs]
    refine ⟨by lia, by rw [VR]; lia, ?_⟩
    rw [Int.toNat_natCast, zl_set]
    have hr2 := set_ne (ws := zl (qs.set at' num)) hrs (show kq ≠ l by lia)
    have hj2 := set_ne (ws := zl (qs.set at' num)) hj' (show kq ≠ j by have := lt_of hj; lia)
    have hq2 := set_get (ws := zl (qs.set at' num)) hqs
    have p2 : H <+: H'.set kq (zl (qs.set at' num)) := pre_set hp (by lia)
    generalize H'.set kq (zl (qs.set at' num)) = H2 at *
    (try change wpSs _ _ _ _ _)
    refine s_cut (VB _ _) (fun m' H' => Ex3 fun fs t7 t8 => And6 (H <+: H') (H'[l]? = some (zl fs)) (H'[kq]? = some (zl (qs.set at' num))) (fs.length = rs.length) ((∀ t, co fs t = if at' ≤ t ∧ t - at' < ys.length then (co rs t - num * co ys (t - at')) % 251 else co rs t)) (m' = [some (.ref i), some (.ref j), some (.ref l), some (.ref kq), some (.int f), some (.int (at' : Int)), some (.int num), t7, t8])) ?_ ?_
    · (try (with_reducible refine post_letS ?_; intro J))
      (try simp -implicitDefEqProofs only [↓Ve, ↓Vf, ↓Vs, ↓Vl, ↓YU, ↓Vb, ↓Vu, ↓Ym, ↓Vk, ↓VI, ↓Vh, ↓YD, ↓Vj, ↓Yg, ↓Yy, ↓Ys, ↓Yo, ↓Yp, ↓Ye, Yc, ZA, ZS, Yb, Yr, ZF, Zx, ZD, ZT, ZX, ZO, Yd, YG, ZZ, YT, Yn, ZJ, YL, YK, Vc, Yw, ZU, ZR, YC, ZQ, ZV, ZH, YV, Vq, Vd, Vt, Vi, Vr, Va, Vo, Vg, YY, YJ, Yi, Zm, Zh, Zc, Zb, ZC, Zu, ZB, ZL, ZI, ZM, ZG, ZE, YF, Zz, Zy, Zw, Zt, Zr, Zo, Zv, Zn, Zi, Zp, Zl, Zd, Zk, Ze, Zj, Zf, Zg, Za, Yq, YB, Yv, ZW, Yx, YX, YZ, Vm, YW, Yj, YH, Vp, Vn, Zq, Zs, YM, YE, Yk, Yz, Yl, Yu, YA, Yt, Yh, YI, ZP, ZY, List.cons_append, List.nil_append, Bool.not_true, Bool.not_false])
      refine each_enum (VB _ _) hj2 (fun b m' H' => Ex3 fun fs t7 t8 => And6 (H <+: H') (H'[l]? = some (zl fs)) (H'[kq]? = some (zl (qs.set at' num))) (fs.length = rs.length) ((∀ t, co fs t = if at' ≤ t ∧ t - at' < b then (co rs t - num * co ys (t - at')) % 251 else co rs t)) (m' = [some (.ref i), some (.ref j), some (.ref l), some (.ref kq), some (.int f), some (.int (at' : Int)), some (.int num), t7, t8])) ?_ ?_ ?_ ?_
      · exact ⟨rs, t7, t8, p2, hr2, hq2, rfl, fun t => by rw [if_neg (by lia)], rfl⟩
      · rintro b m H3 ⟨fs, t7, t8, hp3, _⟩
        (try (with_reducible (first | refine Vy ?_ | refine Vw ?_); intro J))
        exact Vz hp3 hj
      · rintro b v m H3 hv ⟨fs, t7, t8, hp3, hf, hq3, hfl, hco, rfl⟩
        (try (with_reducible (first | refine Vy ?_ | refine Vw ?_); intro J))
        obtain ⟨a, ha, rfl⟩ := zl_at hv
        have hb : b < ys.length := (List.getElem?_eq_some_iff.mp ha).1
        have ea : a = co ys b := by rw [co_lt hb]; rw [List.getElem?_eq_getElem hb] at ha; exact (Option.some.inj ha).symm
        subst ea
        have hin : at' + b < fs.length := by lia
        (with_reducible first | refine Vx ?_ | (refine VC ?_; intro J)); simp -implicitDefEqProofs only [↓Ve, ↓Vf, ↓Vs, ↓Vl, ↓YU, ↓Vb, ↓Vu, ↓Ym, ↓Vk, ↓VI, ↓Vh, ↓YD, ↓Vj, ↓Yg, ↓Yy, ↓Ys, ↓Yo, ↓Yp, ↓Ye, Yc, ZA, ZS, Yb, Yr, ZF, Zx, ZD, ZT, ZX, ZO, Yd, YG, ZZ, YT, Yn, ZJ, YL, YK, Vc, Yw, ZU, ZR, YC, ZQ, ZV, ZH, YV, Vq, Vd, Vt, Vi, Vr, Va, Vo, Vg, YY, YJ, Yi, Zm, Zh, Zc, Zb, ZC, Zu, ZB, ZL, ZI, ZM, ZG, ZE, YF, Zz, Zy, Zw, Zt, Zr, Zo, Zv, Zn, Zi, Zp, Zl, Zd, Zk, Ze, Zj, Zf, Zg, Za, Yq, YB, Yv, ZW, Yx, YX, YZ, Vm, YW, Yj, YH, Vp, Vn, Zq, Zs, YM, YE, Yk, Yz, Yl, Yu, YA, Yt, Yh, YI, ZP, ZY, List.cons_append, List.nil_append, Bool.not_true, Bool.not_false, VH hf]
        refine Wa (by lia) (zl_get (xs := fs) (j := ((at' : Int) + b).toNat) (by lia)) ?_
        (try simp -implicitDefEqProofs only [↓Ve, ↓Vf, ↓Vs, ↓Vl, ↓YU, ↓Vb, ↓Vu, ↓Ym, ↓Vk, ↓VI, ↓Vh, ↓YD, ↓Vj, ↓Yg, ↓Yy, ↓Ys, ↓Yo, ↓Yp, ↓Ye, Yc, ZA, ZS, Yb, Yr, ZF, Zx, ZD, ZT, ZX, ZO, Yd, YG, ZZ, YT, Yn, ZJ, YL, YK, Vc, Yw, ZU, ZR, YC, ZQ, ZV, ZH, YV, Vq, Vd, Vt, Vi, Vr, Va, Vo, Vg, YY, YJ, Yi, Zm, Zh, Zc, Zb, ZC, Zu, ZB, ZL, ZI, ZM, ZG, ZE, YF, Zz, Zy, Zw, Zt, Zr, Zo, Zv, Zn, Zi, Zp, Zl, Zd, Zk, Ze, Zj, Zf, Zg, Za, Yq, YB, Yv, ZW, Yx, YX, YZ, Vm, YW, Yj, YH, Vp, Vn, Zq, Zs, YM, YE, Yk, Yz, Yl, Yu, YA, Yt, Yh, YI, ZP, ZY, List.cons_append, List.nil_append, Bool.not_true, Bool.not_false])
        refine ⟨.inl (red_small rnum), by decide, withL_of hf ⟨by lia, by rw [VR]; lia, ?_⟩⟩
        rw [zl_set]
        have et : ((at' : Int) + b).toNat = at' + b := by lia
        have ef : fs[((at' : Int) + b).toNat]'(by lia) = co rs (at' + b) := by
          rw [← co_lt, et, hco, if_neg (by lia)]
        rw [ef, et]
        refine ⟨_, _, _, pre_set hp3 hl, set_get hf, set_ne hq3 hlk, by simp [hfl], fun t => ?_, rfl⟩
        rw [co_set hin]
        by_cases et' : t = at' + b
        · subst et'
          rw [if_pos rfl, if_pos (by lia), Nat.add_sub_cancel_left]
        · rw [if_neg et', hco]
          by_cases c1 : at' ≤ t ∧ t - at' < b
          · rw [if_pos c1, if_pos (by lia)]
          · rw [if_neg c1, if_neg (by lia)]
      · rintro m H3 ⟨fs, t7, t8, hp3, hf, hq3, hfl, hco, rfl⟩
        (try (with_reducible (first | refine Vy ?_ | refine Vw ?_); intro J))
        rw [VR] at hco
        exact ⟨fs, t7, t8, hp3, hf, hq3, hfl, hco, rfl⟩
    rintro m H3 ⟨fs, t7, t8, hp3, hf, hq3, hfl, hco, rfl⟩
    (try (with_reducible (first | refine Vy ?_ | refine Vw ?_); intro J))
    (with_reducible first | refine Vx ?_ | (refine VC ?_; intro J)); simp -implicitDefEqProofs only [↓Ve, ↓Vf, ↓Vs, ↓Vl, ↓YU, ↓Vb, ↓Vu, ↓Ym, ↓Vk, ↓VI, ↓Vh, ↓YD, ↓Vj, ↓Yg, ↓Yy, ↓Ys, ↓Yo, ↓Yp, ↓Ye, Yc, ZA, ZS, Yb, Yr, ZF, Zx, ZD, ZT, ZX, ZO, Yd, YG, ZZ, YT, Yn, ZJ, YL, YK, Vc, Yw, ZU, ZR, YC, ZQ, ZV, ZH, YV, Vq, Vd, Vt, Vi, Vr, Va, Vo, Vg, YY, YJ, Yi, Zm, Zh, Zc, Zb, ZC, Zu, ZB, ZL, ZI, ZM, ZG, ZE, YF, Zz, Zy, Zw, Zt, Zr, Zo, Zv, Zn, Zi, Zp, Zl, Zd, Zk, Ze, Zj, Zf, Zg, Za, Yq, YB, Yv, ZW, Yx, YX, YZ, Vm, YW, Yj, YH, Vp, Vn, Zq, Zs, YM, YE, Yk, Yz, Yl, Yu, YA, Yt, Yh, YI, ZP, ZY, List.cons_append, List.nil_append, Bool.not_true, Bool.not_false]
    refine spec_trimmed _ _ fs _ _ hf fun k' gs H4 p4 lk g4 tg lg hg => ?_
    (try simp -implicitDefEqProofs only [↓Ve, ↓Vf, ↓Vs, ↓Vl, ↓YU, ↓Vb, ↓Vu, ↓Ym, ↓Vk, ↓VI, ↓Vh, ↓YD, ↓Vj, ↓Yg, ↓Yy, ↓Ys, ↓Yo, ↓Yp, ↓Ye, Yc, ZA, ZS, Yb, Yr, ZF, Zx, ZD, ZT, ZX, ZO, Yd, YG, ZZ, YT, Yn, ZJ, YL, YK, Vc, Yw, ZU, ZR, YC, ZQ, ZV, ZH, YV, Vq, Vd, Vt, Vi, Vr, Va, Vo, Vg, YY, YJ, Yi, Zm, Zh, Zc, Zb, ZC, Zu, ZB, ZL, ZI, ZM, ZG, ZE, YF, Zz, Zy, Zw, Zt, Zr, Zo, Zv, Zn, Zi, Zp, Zl, Zd, Zk, Ze, Zj, Zf, Zg, Za, Yq, YB, Yv, ZW, Yx, YX, YZ, Vm, YW, Yj, YH, Vp, Vn, Zq, Zs, YM, YE, Yk, Yz, Yl, Yu, YA, Yt, Yh, YI, ZP, ZY, List.cons_append, List.nil_append, Bool.not_true, Bool.not_false])
    obtain ⟨rg, lgs, hps⟩ := div_step rr ly1 (show rs.length = at' + ys.length by lia) hinv hnum tg fun t => by rw [hg, hco]
    refine ⟨gs.length, by lia, k', gs, qs.set at' num, _, _, _, _, hp3.trans p4, ?_, ?_, g4, Vz p4 hq3, rg, tg, by lia, red_set rq rnum, by simp [lq], ?_, ?_, rfl, rfl⟩
    · have := hp3.length_le; lia
    · have := lt_of hq3; lia
    · have e1 : ps (qs.set at' num) = pa (ps qs) (mo (fz num) at') := funext fun t => by
        show fz (co (qs.set at' num) t) = ps qs t + mo (fz num) at' t
        rw [co_set (by lia)]
        simp only [mo]
        by_cases c1 : t = at'
        · rw [if_pos c1, if_pos c1, ps, c1, hz at' (by lia), fz_zero]; grind
        · rw [if_neg c1, if_neg c1]
          show fz (co qs t) = fz (co qs t) + 0
          grind
      rw [e1, hps]
      exact @rg_div PS psRing (ps xs) (ps qs) (ps ys) (ps rs) (mo (fz num) at') heq
    · intro i hi'
      rw [co_set (by lia), if_neg (by lia)]
      exact hz i (by lia)
  rintro m' H' ⟨l, rs, qs, t5, t6, t7, t8, hp, hl, hlk, hrs, hqs, rr, tr, lr, rq, lq, heq, hlt, rfl⟩
  (try (with_reducible (first | refine Vy ?_ | refine Vw ?_); intro J))
  (with_reducible first | refine Vx ?_ | (refine VC ?_; intro J)); simp -implicitDefEqProofs only [↓Ve, ↓Vf, ↓Vs, ↓Vl, ↓YU, ↓Vb, ↓Vu, ↓Ym, ↓Vk, ↓VI, ↓Vh, ↓YD, ↓Vj, ↓Yg, ↓Yy, ↓Ys, ↓Yo, ↓Yp, ↓Ye, Yc, ZA, ZS, Yb, Yr, ZF, Zx, ZD, ZT, ZX, ZO, Yd, YG, ZZ, YT, Yn, ZJ, YL, YK, Vc, Yw, ZU, ZR, YC, ZQ, ZV, ZH, YV, Vq, Vd, Vt, Vi, Vr, Va, Vo, Vg, YY, YJ, Yi, Zm, Zh, Zc, Zb, ZC, Zu, ZB, ZL, ZI, ZM, ZG, ZE, YF, Zz, Zy, Zw, Zt, Zr, Zo, Zv, Zn, Zi, Zp, Zl, Zd, Zk, Ze, Zj, Zf, Zg, Za, Yq, YB, Yv, ZW, Yx, YX, YZ, Vm, YW, Yj, YH, Vp, Vn, Zq, Zs, YM, YE, Yk, Yz, Yl, Yu, YA, Yt, Yh, YI, ZP, ZY, List.cons_append, List.nil_append, Bool.not_true, Bool.not_false]
  refine spec_trimmed _ _ qs _ _ hqs fun k' gs H4 p4 lk g4 tg lg hg => ?_
  (try simp -implicitDefEqProofs only [↓Ve, ↓Vf, ↓Vs, ↓Vl, ↓YU, ↓Vb, ↓Vu, ↓Ym, ↓Vk, ↓VI, ↓Vh, ↓YD, ↓Vj, ↓Yg, ↓Yy, ↓Ys, ↓Yo, ↓Yp, ↓Ye, Yc, ZA, ZS, Yb, Yr, ZF, Zx, ZD, ZT, ZX, ZO, Yd, YG, ZZ, YT, Yn, ZJ, YL, YK, Vc, Yw, ZU, ZR, YC, ZQ, ZV, ZH, YV, Vq, Vd, Vt, Vi, Vr, Va, Vo, Vg, YY, YJ, Yi, Zm, Zh, Zc, Zb, ZC, Zu, ZB, ZL, ZI, ZM, ZG, ZE, YF, Zz, Zy, Zw, Zt, Zr, Zo, Zv, Zn, Zi, Zp, Zl, Zd, Zk, Ze, Zj, Zf, Zg, Za, Yq, YB, Yv, ZW, Yx, YX, YZ, Vm, YW, Yj, YH, Vp, Vn, Zq, Zs, YM, YE, Yk, Yz, Yl, Yu, YA, Yt, Yh, YI, ZP, ZY, List.cons_append, List.nil_append, Bool.not_true, Bool.not_false])
  have e1 : ps gs = ps qs := funext fun t => by rw [ps, hg]; rfl
  refine h k' l gs rs H4 (hp.trans p4) ?_ hl ?_ g4 (Vz p4 hrs) tg ?_ tr rr hlt ?_ ?_ lr (by rw [e1]; exact heq)
  · have := hp.length_le; lia
  · have := lt_of hrs; lia
  · exact red_of_co fun t _ => by rw [hg]; exact co_red rq t
  · intro c; lia
  · intro c
    apply List.length_eq_zero_iff.mp
    lia
end Mine

open PySem
set_option linter.unusedSimpArgs false
set_option linter.unusedVariables false
namespace Mine

theorem at_of {m : Loc} {i : Nat} {v : V} {P : V → Prop} (h : m[i]? = some (some v)) : at? m i P = P v := by simp only [at?, h]
/-! slices -/
noncomputable def sliceOf (v a b : V) (H : Hp) (P : PV) : Prop := match v, part? a, part? b with
  | .ref k, some l, some h => withL H k fun vs => P (.ref H.length) (H ++ [picked vs l h])
  | _, _, _ => False
theorem ZN {C : Calls} {e lo hi : X} {m : Loc} {H : Hp} {P : PV} : wpE C (.slice e lo hi) m H P = wpE C e m H fun v H₁ => wpE C lo m H₁ fun a H₂ => wpE C hi m H₂ fun b H₃ => sliceOf v a b H₃ P := by
  simp only [VN, VJ, VU, VS, VO, VT, Wc, VW, VF, VY, VV, Wb, VZ, VM, VK, VX, VE, VL, VD]; rfl
theorem YS {k : Nat} {a b : Int} {H : Hp} {P : PV} : sliceOf (.ref k) (.int a) (.int b) H P = withL H k fun vs => P (.ref H.length) (H ++ [picked vs (some a) (some b)]) := rfl
theorem YR {k : Nat} {b : Int} {H : Hp} {P : PV} : sliceOf (.ref k) .none (.int b) H P = withL H k fun vs => P (.ref H.length) (H ++ [picked vs none (some b)]) := rfl
theorem YQ {k : Nat} {a : Int} {H : Hp} {P : PV} : sliceOf (.ref k) (.int a) .none H P = withL H k fun vs => P (.ref H.length) (H ++ [picked vs (some a) none]) := rfl
theorem picked_ni {xs : List Int} {b : Int} (hb : 0 ≤ b) : picked (zl xs) none (some b) = zl (xs.take b.toNat) := by
  simp only [picked, Option.elim, clip_nat _ hb, VR, List.drop_zero, Nat.sub_zero]
  rw [zl, ← List.map_take]
  refine congrArg zl ?_
  rw [List.take_eq_take_iff, Nat.min_assoc, Nat.min_self]
theorem red_co {xs ys : List Int} (h : Red xs) (hc : ∀ t, co ys t = co xs t) : Red ys := red_of_co fun t _ => by rw [hc]; exact co_red h t

theorem b_cat {H : Hp} {k l : Nat} {xs ys : List V} {P : PV} (hk : H[k]? = some xs) (hl : H[l]? = some ys) : wpB .add (.ref k) (.ref l) H P = (xs.length + ys.length ≤ room ∧ P (.ref H.length) (H ++ [xs ++ ys])) := by
  simp only [wpB, addV, refV, ref?, optV, hk, hl]
theorem zl_cat (A B : List Int) : zl A ++ zl B = zl (A ++ B) := by simp [zl]
end Mine

--STEP: ZN, YS, YR, YQ
open PySem
set_option linter.unusedSimpArgs false
set_option linter.unusedVariables false
namespace Mine

/-! comprehensions over numbers -/
theorem at_end {m : Loc} {v : V} {i : Nat} {P : V → Prop} (h : m.length = i) : at? (m ++ [some v]) i P = P v := by subst h; simp [at?]
theorem comp_rmap {C : Calls} {elt : X} {lo hi : Int} {m : Loc} {H : Hp} {P : PV} (hC : LeC C C) (hlo : -1000000 ≤ lo ∧ lo ≤ 1000000) (hhi : -1000000 ≤ hi ∧ hi ≤ 1000000) (f : Nat → Int)
    (step : ∀ k : Nat, k < (hi - lo).toNat → ∀ H', H <+: H' → ∀ R : PV, (∀ H'', H' <+: H'' → R (.int (f k)) H'') → wpE C elt (m ++ [some (.int (lo + k))]) H' R)
    (fin : ∀ H', H <+: H' → P (.ref H'.length) (H' ++ [zl ((List.range (hi - lo).toNat).map f)])) : compOf C elt 1 .range (.bool true) (.int lo) (.int hi) m H P := by
  refine comp_range hC hlo hhi (fun k acc H' => H <+: H' ∧ acc = zl ((List.range k).map f)) ⟨List.prefix_refl _, rfl⟩ ?_ ?_
  · rintro k acc H' hk ⟨hp, rfl⟩
    (try (with_reducible (first | refine Vy ?_ | refine Vw ?_); intro J))
    rw [ZO, Zm]
    refine step k hk H' hp _ fun H'' h2 => ⟨hp.trans h2, ?_⟩
    simp [zl, List.range_succ]
  · rintro acc H' ⟨hp, rfl⟩
    (try (with_reducible (first | refine Vy ?_ | refine Vw ?_); intro J))
    exact fin H' hp
theorem comp_lmap {C : Calls} {elt : X} {k : Nat} {xs : List Int} {m : Loc} {H : Hp} {P : PV} (hC : LeC C C) (hk : H[k]? = some (zl xs)) (f : Int → Int)
    (step : ∀ a ∈ xs, ∀ H', H <+: H' → ∀ R : PV, (∀ H'', H' <+: H'' → R (.int (f a)) H'') → wpE C elt (m ++ [some (.int a)]) H' R)
    (fin : ∀ H', H <+: H' → P (.ref H'.length) (H' ++ [zl (xs.map f)])) : compOf C elt 1 .seq (.bool true) (.ref k) .none m H P := by
  refine comp_ref hC hk (fun j acc H' => H <+: H' ∧ acc = zl ((xs.take j).map f)) ⟨List.prefix_refl _, rfl⟩ (fun j acc H' h => Vz h.1 hk) ?_ ?_
  · rintro j v acc H' hv ⟨hp, rfl⟩
    (try (with_reducible (first | refine Vy ?_ | refine Vw ?_); intro J))
    obtain ⟨a, ha, rfl⟩ := zl_at hv
    have hj : j < xs.length := (List.getElem?_eq_some_iff.mp ha).1
    rw [ZO, Zm]
    refine step a (List.mem_of_getElem? ha) H' hp _ fun H'' h2 => ⟨hp.trans h2, ?_⟩
    rw [List.take_add_one, ha]
    simp [zl]
  · rintro acc H' ⟨hp, rfl⟩
    (try (with_reducible (first | refine Vy ?_ | refine Vw ?_); intro J))
    rw [VR, List.take_length]
    exact fin H' hp
theorem comp_lpick {C : Calls} {cond : X} {k i : Nat} {xs : List Int} {m : Loc} {H : Hp} {P : PV} (hC : LeC C C) (hk : H[k]? = some (zl xs)) (hm : m.length = i) (p : Int → Bool)
    (step : ∀ a ∈ xs, ∀ R : PV, R (.bool (p a)) H → wpE C cond (m ++ [some (.int a)]) H R)
    (fin : P (.ref H.length) (H ++ [zl (xs.filter p)])) : compOf C (.var i) 1 .seq cond (.ref k) .none m H P := by
  refine comp_ref hC hk (fun j acc H' => H' = H ∧ acc = zl ((xs.take j).filter p)) ⟨rfl, rfl⟩ (fun j acc H' h => h.1 ▸ hk) ?_ ?_
  · rintro j v acc H' hv ⟨rfl, rfl⟩
    (try (with_reducible (first | refine Vy ?_ | refine Vw ?_); intro J))
    obtain ⟨a, ha, rfl⟩ := zl_at hv
    refine step a (List.mem_of_getElem? ha) _ ?_
    rw [List.take_add_one, ha]
    simp only [Option.toList, List.filter_append, zl, List.map_append]
    cases hp : p a with
    | true =>
      rw [Zm, ZZ, at_end hm]
      exact ⟨rfl, by simp [hp]⟩
    | false =>
      rw [Zh]
      exact ⟨(by trivial), by simp [hp]⟩
  · rintro acc H' ⟨rfl, rfl⟩
    (try (with_reducible (first | refine Vy ?_ | refine Vw ?_); intro J))
    rw [VR, List.take_length]
    exact fin

/-! membership -/
theorem b_isin {a : Int} {k : Nat} {xs : List Int} {H : Hp} {P : PV} (hk : H[k]? = some (zl xs)) : wpB .isin (.int a) (.ref k) H P = P (.bool (decide (a ∈ xs))) H := by
  simp only [wpB, intV, int?, refV, ref?, optV, hk, zl?_ints]
theorem b_notin {a : Int} {k : Nat} {xs : List Int} {H : Hp} {P : PV} (hk : H[k]? = some (zl xs)) : wpB .notin (.int a) (.ref k) H P = P (.bool (!decide (a ∈ xs))) H := by
  simp only [wpB, intV, int?, refV, ref?, optV, hk, zl?_ints]

theorem num_nil : Num [] := fun a ha => by cases ha
theorem spec_is_whole (n : Nat) (a lo hi : Int) (H : Hp) (P : PV) (h1 : lo ≤ a) (h2 : a ≤ hi) (h : P (.bool true) H) : run T (n + 1) 20 [.int a, .int lo, .int hi] H P := by
  refine run_succ (d := f_is_whole) rfl rfl (by decide) ?_
  simp only [f_is_whole, entry, List.map, List.replicate, Nat.reduceSub, s_cons, ↓Ve, ↓Vf, ↓Vs, ↓Vl, ↓YU, ↓Vb, ↓Vu, ↓Ym, ↓Vk, ↓VI, ↓Vh, ↓YD, ↓Vj, ↓Yg, ↓Yy, ↓Ys, ↓Yo, ↓Yp, ↓Ye, Yc, ZA, ZS, Yb, Yr, ZF, Zx, ZD, ZT, ZX, ZO, Yd, YG, ZZ, YT, Yn, ZJ, YL, YK, Vc, Yw, ZU, ZR, YC, ZQ, ZV, ZH, YV, Vq, Vd, Vt, Vi, Vr, Va, Vo, Vg, YY, YJ, Yi, Zm, Zh, Zc, Zb, ZC, Zu, ZB, ZL, ZI, ZM, ZG, ZE, YF, Zz, Zy, Zw, Zt, Zr, Zo, Zv, Zn, Zi, Zp, Zl, Zd, Zk, Ze, Zj, Zf, Zg, Za, Yq, YB, Yv, ZW, Yx, YX, YZ, Vm, YW, Yj, YH, Vp, Vn, Zq, Zs, YM, YE, Yk, Yz, Yl, Yu, YA, Yt, Yh, YI, ZP, ZY, List.cons_append, List.nil_append, Bool.not_true, Bool.not_false, ZN, YS, YR, YQ]
  rw [if_pos h1, decide_eq_true h2]
  exact h

theorem spec_need_row (n k : Nat) (xs : List Int) (H : Hp) (P : PV) (hk : H[k]? = some (zl xs)) (h1 : Num xs) (h2 : xs.Nodup) (h3 : xs.length < 4000) (h : P .none H) : run T (n + 2) 21 [.ref k] H P := by
  refine run_succ (d := f_need_row) rfl rfl (by decide) ?_
  simp only [f_need_row, entry, List.map, List.replicate, Nat.reduceSub, List.cons_append, List.nil_append]
  (with_reducible first | refine Vx ?_ | (refine VC ?_; intro J)); simp only [↓Ve, ↓Vf, ↓Vs, ↓Vl, ↓YU, ↓Vb, ↓Vu, ↓Ym, ↓Vk, ↓VI, ↓Vh, ↓YD, ↓Vj, ↓Yg, ↓Yy, ↓Ys, ↓Yo, ↓Yp, ↓Ye, Yc, ZA, ZS, Yb, Yr, ZF, Zx, ZD, ZT, ZX, ZO, Yd, YG, ZZ, YT, Yn, ZJ, YL, YK, Vc, Yw, ZU, ZR, YC, ZQ, ZV, ZH, YV, Vq, Vd, Vt, Vi, Vr, Va, Vo, Vg, YY, YJ, Yi, Zm, Zh, Zc, Zb, ZC, Zu, ZB, ZL, ZI, ZM, ZG, ZE, YF, Zz, Zy, Zw, Zt, Zr, Zo, Zv, Zn, Zi, Zp, Zl, Zd, Zk, Ze, Zj, Zf, Zg, Za, Yq, YB, Yv, ZW, Yx, YX, YZ, Vm, YW, Yj, YH, Vp, Vn, Zq, Zs, YM, YE, Yk, Yz, Yl, Yu, YA, Yt, Yh, YI, ZP, ZY, List.cons_append, List.nil_append, Bool.not_true, Bool.not_false, ZN, YS, YR, YQ]
  (try change wpSs _ _ _ _ _)
  refine s_cut (VB _ _) (fun m' H' => H' = H ∧ ∃ t, m' = [some (.ref k), t]) ?_ ?_
  · (try (with_reducible refine post_letS ?_; intro J))
    (try simp only [↓Ve, ↓Vf, ↓Vs, ↓Vl, ↓YU, ↓Vb, ↓Vu, ↓Ym, ↓Vk, ↓VI, ↓Vh, ↓YD, ↓Vj, ↓Yg, ↓Yy, ↓Ys, ↓Yo, ↓Yp, ↓Ye, Yc, ZA, ZS, Yb, Yr, ZF, Zx, ZD, ZT, ZX, ZO, Yd, YG, ZZ, YT, Yn, ZJ, YL, YK, Vc, Yw, ZU, ZR, YC, ZQ, ZV, ZH, YV, Vq, Vd, Vt, Vi, Vr, Va, Vo, Vg, YY, YJ, Yi, Zm, Zh, Zc, Zb, ZC, Zu, ZB, ZL, ZI, ZM, ZG, ZE, YF, Zz, Zy, Zw, Zt, Zr, Zo, Zv, Zn, Zi, Zp, Zl, Zd, Zk, Ze, Zj, Zf, Zg, Za, Yq, YB, Yv, ZW, Yx, YX, YZ, Vm, YW, Yj, YH, Vp, Vn, Zq, Zs, YM, YE, Yk, Yz, Yl, Yu, YA, Yt, Yh, YI, ZP, ZY, List.cons_append, List.nil_append, Bool.not_true, Bool.not_false, ZN, YS, YR, YQ])
    refine each_ref (VB _ _) hk (fun j m' H' => H' = H ∧ ∃ t, m' = [some (.ref k), t]) ⟨rfl, none, rfl⟩ (fun j m H' h => h.1 ▸ hk) ?_ ?_
    · rintro j v m H' hv ⟨rfl, t, rfl⟩
      (try (with_reducible (first | refine Vy ?_ | refine Vw ?_); intro J))
      obtain ⟨a, ha, rfl⟩ := zl_at hv
      have ra := h1 a (List.mem_of_getElem? ha)
      (with_reducible first | refine Vx ?_ | (refine VC ?_; intro J)); simp only [↓Ve, ↓Vf, ↓Vs, ↓Vl, ↓YU, ↓Vb, ↓Vu, ↓Ym, ↓Vk, ↓VI, ↓Vh, ↓YD, ↓Vj, ↓Yg, ↓Yy, ↓Ys, ↓Yo, ↓Yp, ↓Ye, Yc, ZA, ZS, Yb, Yr, ZF, Zx, ZD, ZT, ZX, ZO, Yd, YG, ZZ, YT, Yn, ZJ, YL, YK, Vc, Yw, ZU, ZR, YC, ZQ, ZV, ZH, YV, Vq, Vd, Vt, Vi, Vr, Va, Vo, Vg, YY, YJ, Yi, Zm, Zh, Zc, Zb, ZC, Zu, ZB, ZL, ZI, ZM, ZG, ZE, YF, Zz, Zy, Zw, Zt, Zr, Zo, Zv, Zn, Zi, Zp, Zl, Zd, Zk, Ze, Zj, Zf, Zg, Za, Yq, YB, Yv, ZW, Yx, YX, YZ, Vm, YW, Yj, YH, Vp, Vn, Zq, Zs, YM, YE, Yk, Yz, Yl, Yu, YA, Yt, Yh, YI, ZP, ZY, List.cons_append, List.nil_append, Bool.not_true, Bool.not_false, ZN, YS, YR, YQ]
      refine spec_is_whole _ _ _ _ _ _ ra.1 (by lia) ?_
      (try simp only [↓Ve, ↓Vf, ↓Vs, ↓Vl, ↓YU, ↓Vb, ↓Vu, ↓Ym, ↓Vk, ↓VI, ↓Vh, ↓YD, ↓Vj, ↓Yg, ↓Yy, ↓Ys, ↓Yo, ↓Yp, ↓Ye, Yc, ZA, ZS, Yb, Yr, ZF, Zx, ZD, ZT, ZX, ZO, Yd, YG, ZZ, YT, Yn, ZJ, YL, YK, Vc, Yw, ZU, ZR, YC, ZQ, ZV, ZH, YV, Vq, Vd, Vt, Vi, Vr, Va, Vo, Vg, YY, YJ, Yi, Zm, Zh, Zc, Zb, ZC, Zu, ZB, ZL, ZI, ZM, ZG, ZE, YF, Zz, Zy, Zw, Zt, Zr, Zo, Zv, Zn, Zi, Zp, Zl, Zd, Zk, Ze, Zj, Zf, Zg, Za, Yq, YB, Yv, ZW, Yx, YX, YZ, Vm, YW, Yj, YH, Vp, Vn, Zq, Zs, YM, YE, Yk, Yz, Yl, Yu, YA, Yt, Yh, YI, ZP, ZY, List.cons_append, List.nil_append, Bool.not_true, Bool.not_false, ZN, YS, YR, YQ])
      exact ⟨(by trivial), _, rfl⟩
    · rintro m H' ⟨rfl, t, rfl⟩
      (try (with_reducible (first | refine Vy ?_ | refine Vw ?_); intro J))
      exact ⟨rfl, t, rfl⟩
  rintro m H' ⟨rfl, t, rfl⟩
  (try (with_reducible (first | refine Vy ?_ | refine Vw ?_); intro J))
  (with_reducible first | refine Vx ?_ | (refine VC ?_; intro J)); simp only [↓Ve, ↓Vf, ↓Vs, ↓Vl, ↓YU, ↓Vb, ↓Vu, ↓Ym, ↓Vk, ↓VI, ↓Vh, ↓YD, ↓Vj, ↓Yg, ↓Yy, ↓Ys, ↓Yo, ↓Yp, ↓Ye, Yc, ZA, ZS, Yb, Yr, ZF, Zx, ZD, ZT, ZX, ZO, Yd, YG, ZZ, YT, Yn, ZJ, YL, YK, Vc, Yw, ZU, ZR, YC, ZQ, ZV, ZH, YV, Vq, Vd, Vt, Vi, Vr, Va, Vo, Vg, YY, YJ, Yi, Zm, Zh, Zc, Zb, ZC, Zu, ZB, ZL, ZI, ZM, ZG, ZE, YF, Zz, Zy, Zw, Zt, Zr, Zo, Zv, Zn, Zi, Zp, Zl, Zd, Zk, Ze, Zj, Zf, Zg, Za, Yq, YB, Yv, ZW, Yx, YX, YZ, Vm, YW, Yj, YH, Vp, Vn, Zq, Zs, YM, YE, Yk, Yz, Yl, Yu, YA, Yt, Yh, YI, ZP, ZY, List.cons_append, List.nil_append, Bool.not_true, Bool.not_false, ZN, YS, YR, YQ]
  simp only [wpU, refV, ref?, optV, hk, zl?_ints]
  refine ⟨h3, fun c hc _ => ?_⟩
  rw [hc h2]
  (try simp only [↓Ve, ↓Vf, ↓Vs, ↓Vl, ↓YU, ↓Vb, ↓Vu, ↓Ym, ↓Vk, ↓VI, ↓Vh, ↓YD, ↓Vj, ↓Yg, ↓Yy, ↓Ys, ↓Yo, ↓Yp, ↓Ye, Yc, ZA, ZS, Yb, Yr, ZF, Zx, ZD, ZT, ZX, ZO, Yd, YG, ZZ, YT, Yn, ZJ, YL, YK, Vc, Yw, ZU, ZR, YC, ZQ, ZV, ZH, YV, Vq, Vd, Vt, Vi, Vr, Va, Vo, Vg, YY, YJ, Yi, Zm, Zh, Zc, Zb, ZC, Zu, ZB, ZL, ZI, ZM, ZG, ZE, YF, Zz, Zy, Zw, Zt, Zr, Zo, Zv, Zn, Zi, Zp, Zl, Zd, Zk, Ze, Zj, Zf, Zg, Za, Yq, YB, Yv, ZW, Yx, YX, YZ, Vm, YW, Yj, YH, Vp, Vn, Zq, Zs, YM, YE, Yk, Yz, Yl, Yu, YA, Yt, Yh, YI, ZP, ZY, List.cons_append, List.nil_append, Bool.not_true, Bool.not_false, ZN, YS, YR, YQ, VH hk, VR])
  rw [if_pos trivial]
  exact h

theorem spec_law_row (n : Nat) (xs : List Int) (at' most : Int) (H : Hp) (P : PV) (h0 : 0 ≤ at') (h0' : at' ≤ 100) (h1 : 0 ≤ most) (h2 : most ≤ 250)
    (h : ∀ k A H', H <+: H' → H.length ≤ k → H'[k]? = some (zl A) → Num A → A.Nodup → A.length ≤ most → P (.ref k) H') : run T (n + 2) 25 [.frz xs, .int at', .int most] H P := by
  refine run_succ (d := f_law_row) rfl rfl (by decide) ?_
  simp only [f_law_row, entry, List.map, List.replicate, Nat.reduceSub, List.cons_append, List.nil_append]
  (with_reducible first | refine Vx ?_ | (refine VC ?_; intro J)); simp only [↓Ve, ↓Vf, ↓Vs, ↓Vl, ↓YU, ↓Vb, ↓Vu, ↓Ym, ↓Vk, ↓VI, ↓Vh, ↓YD, ↓Vj, ↓Yg, ↓Yy, ↓Ys, ↓Yo, ↓Yp, ↓Ye, Yc, ZA, ZS, Yb, Yr, ZF, Zx, ZD, ZT, ZX, ZO, Yd, YG, ZZ, YT, Yn, ZJ, YL, YK, Vc, Yw, ZU, ZR, YC, ZQ, ZV, ZH, YV, Vq, Vd, Vt, Vi, Vr, Va, Vo, Vg, YY, YJ, Yi, Zm, Zh, Zc, Zb, ZC, Zu, ZB, ZL, ZI, ZM, ZG, ZE, YF, Zz, Zy, Zw, Zt, Zr, Zo, Zv, Zn, Zi, Zp, Zl, Zd, Zk, Ze, Zj, Zf, Zg, Za, Yq, YB, Yv, ZW, Yx, YX, YZ, Vm, YW, Yj, YH, Vp, Vn, Zq, Zs, YM, YE, Yk, Yz, Yl, Yu, YA, Yt, Yh, YI, ZP, ZY, List.cons_append, List.nil_append, Bool.not_true, Bool.not_false, ZN, YS, YR, YQ]
  refine spec_cell _ _ _ _ _ h0 ?_
  generalize cell xs at' = c
  (try simp only [↓Ve, ↓Vf, ↓Vs, ↓Vl, ↓YU, ↓Vb, ↓Vu, ↓Ym, ↓Vk, ↓VI, ↓Vh, ↓YD, ↓Vj, ↓Yg, ↓Yy, ↓Ys, ↓Yo, ↓Yp, ↓Ye, Yc, ZA, ZS, Yb, Yr, ZF, Zx, ZD, ZT, ZX, ZO, Yd, YG, ZZ, YT, Yn, ZJ, YL, YK, Vc, Yw, ZU, ZR, YC, ZQ, ZV, ZH, YV, Vq, Vd, Vt, Vi, Vr, Va, Vo, Vg, YY, YJ, Yi, Zm, Zh, Zc, Zb, ZC, Zu, ZB, ZL, ZI, ZM, ZG, ZE, YF, Zz, Zy, Zw, Zt, Zr, Zo, Zv, Zn, Zi, Zp, Zl, Zd, Zk, Ze, Zj, Zf, Zg, Za, Yq, YB, Yv, ZW, Yx, YX, YZ, Vm, YW, Yj, YH, Vp, Vn, Zq, Zs, YM, YE, Yk, Yz, Yl, Yu, YA, Yt, Yh, YI, ZP, ZY, List.cons_append, List.nil_append, Bool.not_true, Bool.not_false, ZN, YS, YR, YQ])
  (with_reducible first | refine Vx ?_ | (refine VC ?_; intro J)); simp only [↓Ve, ↓Vf, ↓Vs, ↓Vl, ↓YU, ↓Vb, ↓Vu, ↓Ym, ↓Vk, ↓VI, ↓Vh, ↓YD, ↓Vj, ↓Yg, ↓Yy, ↓Ys, ↓Yo, ↓Yp, ↓Ye, Yc, ZA, ZS, Yb, Yr, ZF, Zx, ZD, ZT, ZX, ZO, Yd, YG, ZZ, YT, Yn, ZJ, YL, YK, Vc, Yw, ZU, ZR, YC, ZQ, ZV, ZH, YV, Vq, Vd, Vt, Vi, Vr, Va, Vo, Vg, YY, YJ, Yi, Zm, Zh, Zc, Zb, ZC, Zu, ZB, ZL, ZI, ZM, ZG, ZE, YF, Zz, Zy, Zw, Zt, Zr, Zo, Zv, Zn, Zi, Zp, Zl, Zd, Zk, Ze, Zj, Zf, Zg, Za, Yq, YB, Yv, ZW, Yx, YX, YZ, Vm, YW, Yj, YH, Vp, Vn, Zq, Zs, YM, YE, Yk, Yz, Yl, Yu, YA, Yt, Yh, YI, ZP, ZY, List.cons_append, List.nil_append, Bool.not_true, Bool.not_false, ZN, YS, YR, YQ]
  refine ⟨by lia, by lia, by decide, withL_of VP ?_⟩
  refine item_mem (xs := [1, 3, 7, 9, 11, 13, 37, 121, 249, 97]) (Int.emod_nonneg _ (by decide)) (Int.emod_lt_of_pos _ (by decide)) fun st hst => ?_
  have hst' : 0 ≤ st ∧ st ≤ 300 := by
    simp only [List.mem_cons, List.not_mem_nil, or_false] at hst; omega --o
  (with_reducible first | refine Vx ?_ | (refine VC ?_; intro J)); simp only [↓Ve, ↓Vf, ↓Vs, ↓Vl, ↓YU, ↓Vb, ↓Vu, ↓Ym, ↓Vk, ↓VI, ↓Vh, ↓YD, ↓Vj, ↓Yg, ↓Yy, ↓Ys, ↓Yo, ↓Yp, ↓Ye, Yc, ZA, ZS, Yb, Yr, ZF, Zx, ZD, ZT, ZX, ZO, Yd, YG, ZZ, YT, Yn, ZJ, YL, YK, Vc, Yw, ZU, ZR, YC, ZQ, ZV, ZH, YV, Vq, Vd, Vt, Vi, Vr, Va, Vo, Vg, YY, YJ, Yi, Zm, Zh, Zc, Zb, ZC, Zu, ZB, ZL, ZI, ZM, ZG, ZE, YF, Zz, Zy, Zw, Zt, Zr, Zo, Zv, Zn, Zi, Zp, Zl, Zd, Zk, Ze, Zj, Zf, Zg, Za, Yq, YB, Yv, ZW, Yx, YX, YZ, Vm, YW, Yj, YH, Vp, Vn, Zq, Zs, YM, YE, Yk, Yz, Yl, Yu, YA, Yt, Yh, YI, ZP, ZY, List.cons_append, List.nil_append, Bool.not_true, Bool.not_false, ZN, YS, YR, YQ]
  refine ⟨by lia, by lia, by decide, by decide, ?_⟩
  generalize c / (most + 1) / 10 = bg
  (with_reducible first | refine Vx ?_ | (refine VC ?_; intro J)); simp only [↓Ve, ↓Vf, ↓Vs, ↓Vl, ↓YU, ↓Vb, ↓Vu, ↓Ym, ↓Vk, ↓VI, ↓Vh, ↓YD, ↓Vj, ↓Yg, ↓Yy, ↓Ys, ↓Yo, ↓Yp, ↓Ye, Yc, ZA, ZS, Yb, Yr, ZF, Zx, ZD, ZT, ZX, ZO, Yd, YG, ZZ, YT, Yn, ZJ, YL, YK, Vc, Yw, ZU, ZR, YC, ZQ, ZV, ZH, YV, Vq, Vd, Vt, Vi, Vr, Va, Vo, Vg, YY, YJ, Yi, Zm, Zh, Zc, Zb, ZC, Zu, ZB, ZL, ZI, ZM, ZG, ZE, YF, Zz, Zy, Zw, Zt, Zr, Zo, Zv, Zn, Zi, Zp, Zl, Zd, Zk, Ze, Zj, Zf, Zg, Za, Yq, YB, Yv, ZW, Yx, YX, YZ, Vm, YW, Yj, YH, Vp, Vn, Zq, Zs, YM, YE, Yk, Yz, Yl, Yu, YA, Yt, Yh, YI, ZP, ZY, List.cons_append, List.nil_append, Bool.not_true, Bool.not_false, ZN, YS, YR, YQ]
  have p1 : H <+: H ++ [[V.int 1, V.int 3, V.int 7, V.int 9, V.int 11, V.int 13, V.int 37, V.int 121, V.int 249, V.int 97]] := List.prefix_append _ _
  generalize H ++ [[V.int 1, V.int 3, V.int 7, V.int 9, V.int 11, V.int 13, V.int 37, V.int 121, V.int 249, V.int 97]] = H1 at p1 ⊢
  have hs : 0 ≤ c % (most + 1) ∧ c % (most + 1) ≤ most := ⟨Int.emod_nonneg _ (by lia), by have := Int.emod_lt_of_pos c (show 0 < most + 1 by lia); lia⟩
  (try change wpSs _ _ _ _ _)
  refine s_cut (VB _ _) (fun m' H' => Ex3 fun A t7 t8 => And6 (H <+: H') (H'[H1.length]? = some (zl A)) (Num A) (A.Nodup) (A.length ≤ most) (m' = [some (.frz xs), some (.int at'), some (.int most), some (.int c), some (.int st), some (.int bg), some (.ref H1.length), t7, t8])) ?_ ?_
  · (try (with_reducible refine post_letS ?_; intro J))
    (try simp only [↓Ve, ↓Vf, ↓Vs, ↓Vl, ↓YU, ↓Vb, ↓Vu, ↓Ym, ↓Vk, ↓VI, ↓Vh, ↓YD, ↓Vj, ↓Yg, ↓Yy, ↓Ys, ↓Yo, ↓Yp, ↓Ye, Yc, ZA, ZS, Yb, Yr, ZF, Zx, ZD, ZT, ZX, ZO, Yd, YG, ZZ, YT, Yn, ZJ, YL, YK, Vc, Yw, ZU, ZR, YC, ZQ, ZV, ZH, YV, Vq, Vd, Vt, Vi, Vr, Va, Vo, Vg, YY, YJ, Yi, Zm, Zh, Zc, Zb, ZC, Zu, ZB, ZL, ZI, ZM, ZG, ZE, YF, Zz, Zy, Zw, Zt, Zr, Zo, Zv, Zn, Zi, Zp, Zl, Zd, Zk, Ze, Zj, Zf, Zg, Za, Yq, YB, Yv, ZW, Yx, YX, YZ, Vm, YW, Yj, YH, Vp, Vn, Zq, Zs, YM, YE, Yk, Yz, Yl, Yu, YA, Yt, Yh, YI, ZP, ZY, List.cons_append, List.nil_append, Bool.not_true, Bool.not_false, ZN, YS, YR, YQ])
    refine ⟨by lia, ?_⟩
    generalize c % (most + 1) = s at hs
    refine each_range (VB _ _) (by decide) (by lia) (fun q m' H' => Ex3 fun A t7 t8 => And6 (H <+: H') (H'[H1.length]? = some (zl A)) (Num A) (A.Nodup) (A.length ≤ q) (m' = [some (.frz xs), some (.int at'), some (.int most), some (.int c), some (.int st), some (.int bg), some (.ref H1.length), t7, t8])) ?_ ?_ ?_
    · exact ⟨[], none, none, pre_app p1, VP (vs := []), num_nil, List.nodup_nil, by simp, rfl⟩
    · rintro q m' H' hq ⟨A, t7, t8, hp, hk, hn, hd, hl, rfl⟩
      (try (with_reducible (first | refine Vy ?_ | refine Vw ?_); intro J))
      (try change wpSs _ _ _ _ _)
      refine s_cut (VB _ _) (fun m' H'' => H'' = H' ∧ ∃ a, And3 (1 ≤ a) (a ≤ 250) (m' = [some (.frz xs), some (.int at'), some (.int most), some (.int c), some (.int st), some (.int bg), some (.ref H1.length), some (.int (0 + (q : Int))), some (.int a)])) ?_ ?_
      · (try (with_reducible refine post_letS ?_; intro J))
        (try simp only [↓Ve, ↓Vf, ↓Vs, ↓Vl, ↓YU, ↓Vb, ↓Vu, ↓Ym, ↓Vk, ↓VI, ↓Vh, ↓YD, ↓Vj, ↓Yg, ↓Yy, ↓Ys, ↓Yo, ↓Yp, ↓Ye, Yc, ZA, ZS, Yb, Yr, ZF, Zx, ZD, ZT, ZX, ZO, Yd, YG, ZZ, YT, Yn, ZJ, YL, YK, Vc, Yw, ZU, ZR, YC, ZQ, ZV, ZH, YV, Vq, Vd, Vt, Vi, Vr, Va, Vo, Vg, YY, YJ, Yi, Zm, Zh, Zc, Zb, ZC, Zu, ZB, ZL, ZI, ZM, ZG, ZE, YF, Zz, Zy, Zw, Zt, Zr, Zo, Zv, Zn, Zi, Zp, Zl, Zd, Zk, Ze, Zj, Zf, Zg, Za, Yq, YB, Yv, ZW, Yx, YX, YZ, Vm, YW, Yj, YH, Vp, Vn, Zq, Zs, YM, YE, Yk, Yz, Yl, Yu, YA, Yt, Yh, YI, ZP, ZY, List.cons_append, List.nil_append, Bool.not_true, Bool.not_false, ZN, YS, YR, YQ])
        exact ⟨.inl ⟨by lia, by lia⟩, by decide, (by trivial), _, by lia, by lia, rfl⟩
      rintro m2 H2 ⟨rfl, a, ha0, ha1, rfl⟩
      (try (with_reducible (first | refine Vy ?_ | refine Vw ?_); intro J))
      (try change wpSs _ _ _ _ _)
      refine s_cut (VB _ _) (fun m' H'' => H'' = H2 ∧ ∃ a, And3 (1 ≤ a) (a ≤ 250) (m' = [some (.frz xs), some (.int at'), some (.int most), some (.int c), some (.int st), some (.int bg), some (.ref H1.length), some (.int (0 + (q : Int))), some (.int a)])) ?_ ?_
      · (try (with_reducible refine post_letS ?_; intro J))
        (try simp only [↓Ve, ↓Vf, ↓Vs, ↓Vl, ↓YU, ↓Vb, ↓Vu, ↓Ym, ↓Vk, ↓VI, ↓Vh, ↓YD, ↓Vj, ↓Yg, ↓Yy, ↓Ys, ↓Yo, ↓Yp, ↓Ye, Yc, ZA, ZS, Yb, Yr, ZF, Zx, ZD, ZT, ZX, ZO, Yd, YG, ZZ, YT, Yn, ZJ, YL, YK, Vc, Yw, ZU, ZR, YC, ZQ, ZV, ZH, YV, Vq, Vd, Vt, Vi, Vr, Va, Vo, Vg, YY, YJ, Yi, Zm, Zh, Zc, Zb, ZC, Zu, ZB, ZL, ZI, ZM, ZG, ZE, YF, Zz, Zy, Zw, Zt, Zr, Zo, Zv, Zn, Zi, Zp, Zl, Zd, Zk, Ze, Zj, Zf, Zg, Za, Yq, YB, Yv, ZW, Yx, YX, YZ, Vm, YW, Yj, YH, Vp, Vn, Zq, Zs, YM, YE, Yk, Yz, Yl, Yu, YA, Yt, Yh, YI, ZP, ZY, List.cons_append, List.nil_append, Bool.not_true, Bool.not_false, ZN, YS, YR, YQ])
        refine ⟨by decide, ?_⟩
        split
        · (try change wpSs _ _ _ _ _); simp only [s_cons, ↓Ve, ↓Vf, ↓Vs, ↓Vl, ↓YU, ↓Vb, ↓Vu, ↓Ym, ↓Vk, ↓VI, ↓Vh, ↓YD, ↓Vj, ↓Yg, ↓Yy, ↓Ys, ↓Yo, ↓Yp, ↓Ye, Yc, ZA, ZS, Yb, Yr, ZF, Zx, ZD, ZT, ZX, ZO, Yd, YG, ZZ, YT, Yn, ZJ, YL, YK, Vc, Yw, ZU, ZR, YC, ZQ, ZV, ZH, YV, Vq, Vd, Vt, Vi, Vr, Va, Vo, Vg, YY, YJ, Yi, Zm, Zh, Zc, Zb, ZC, Zu, ZB, ZL, ZI, ZM, ZG, ZE, YF, Zz, Zy, Zw, Zt, Zr, Zo, Zv, Zn, Zi, Zp, Zl, Zd, Zk, Ze, Zj, Zf, Zg, Za, Yq, YB, Yv, ZW, Yx, YX, YZ, Vm, YW, Yj, YH, Vp, Vn, Zq, Zs, YM, YE, Yk, Yz, Yl, Yu, YA, Yt, Yh, YI, ZP, ZY, List.cons_append, List.nil_append, Bool.not_true, Bool.not_false, ZN, YS, YR, YQ]
          exact ⟨by decide, by decide, .inl ⟨by lia, by lia⟩, .inr ⟨by lia, by lia⟩, .inl ⟨by lia, by lia⟩, .inr ⟨by lia, by lia⟩, by decide, by decide, (by trivial), _, by lia, by lia, rfl⟩
        · (try simp only [↓Ve, ↓Vf, ↓Vs, ↓Vl, ↓YU, ↓Vb, ↓Vu, ↓Ym, ↓Vk, ↓VI, ↓Vh, ↓YD, ↓Vj, ↓Yg, ↓Yy, ↓Ys, ↓Yo, ↓Yp, ↓Ye, Yc, ZA, ZS, Yb, Yr, ZF, Zx, ZD, ZT, ZX, ZO, Yd, YG, ZZ, YT, Yn, ZJ, YL, YK, Vc, Yw, ZU, ZR, YC, ZQ, ZV, ZH, YV, Vq, Vd, Vt, Vi, Vr, Va, Vo, Vg, YY, YJ, Yi, Zm, Zh, Zc, Zb, ZC, Zu, ZB, ZL, ZI, ZM, ZG, ZE, YF, Zz, Zy, Zw, Zt, Zr, Zo, Zv, Zn, Zi, Zp, Zl, Zd, Zk, Ze, Zj, Zf, Zg, Za, Yq, YB, Yv, ZW, Yx, YX, YZ, Vm, YW, Yj, YH, Vp, Vn, Zq, Zs, YM, YE, Yk, Yz, Yl, Yu, YA, Yt, Yh, YI, ZP, ZY, List.cons_append, List.nil_append, Bool.not_true, Bool.not_false, ZN, YS, YR, YQ])
          exact ⟨(by trivial), a, ha0, ha1, rfl⟩
      rintro m3 H3 ⟨rfl, b, hb0, hb1, rfl⟩
      (try (with_reducible (first | refine Vy ?_ | refine Vw ?_); intro J))
      (try change wpSs _ _ _ _ _)
      refine s_cut (VB _ _) (fun m' H'' => H'' = H3 ∧ ∃ a, And3 (1 ≤ a) (a ≤ 250) (m' = [some (.frz xs), some (.int at'), some (.int most), some (.int c), some (.int st), some (.int bg), some (.ref H1.length), some (.int (0 + (q : Int))), some (.int a)])) ?_ ?_
      · (try (with_reducible refine post_letS ?_; intro J))
        (try simp only [↓Ve, ↓Vf, ↓Vs, ↓Vl, ↓YU, ↓Vb, ↓Vu, ↓Ym, ↓Vk, ↓VI, ↓Vh, ↓YD, ↓Vj, ↓Yg, ↓Yy, ↓Ys, ↓Yo, ↓Yp, ↓Ye, Yc, ZA, ZS, Yb, Yr, ZF, Zx, ZD, ZT, ZX, ZO, Yd, YG, ZZ, YT, Yn, ZJ, YL, YK, Vc, Yw, ZU, ZR, YC, ZQ, ZV, ZH, YV, Vq, Vd, Vt, Vi, Vr, Va, Vo, Vg, YY, YJ, Yi, Zm, Zh, Zc, Zb, ZC, Zu, ZB, ZL, ZI, ZM, ZG, ZE, YF, Zz, Zy, Zw, Zt, Zr, Zo, Zv, Zn, Zi, Zp, Zl, Zd, Zk, Ze, Zj, Zf, Zg, Za, Yq, YB, Yv, ZW, Yx, YX, YZ, Vm, YW, Yj, YH, Vp, Vn, Zq, Zs, YM, YE, Yk, Yz, Yl, Yu, YA, Yt, Yh, YI, ZP, ZY, List.cons_append, List.nil_append, Bool.not_true, Bool.not_false, ZN, YS, YR, YQ])
        refine ⟨by decide, ?_⟩
        split
        · (with_reducible first | refine Vx ?_ | (refine VC ?_; intro J)); simp only [↓Ve, ↓Vf, ↓Vs, ↓Vl, ↓YU, ↓Vb, ↓Vu, ↓Ym, ↓Vk, ↓VI, ↓Vh, ↓YD, ↓Vj, ↓Yg, ↓Yy, ↓Ys, ↓Yo, ↓Yp, ↓Ye, Yc, ZA, ZS, Yb, Yr, ZF, Zx, ZD, ZT, ZX, ZO, Yd, YG, ZZ, YT, Yn, ZJ, YL, YK, Vc, Yw, ZU, ZR, YC, ZQ, ZV, ZH, YV, Vq, Vd, Vt, Vi, Vr, Va, Vo, Vg, YY, YJ, Yi, Zm, Zh, Zc, Zb, ZC, Zu, ZB, ZL, ZI, ZM, ZG, ZE, YF, Zz, Zy, Zw, Zt, Zr, Zo, Zv, Zn, Zi, Zp, Zl, Zd, Zk, Ze, Zj, Zf, Zg, Za, Yq, YB, Yv, ZW, Yx, YX, YZ, Vm, YW, Yj, YH, Vp, Vn, Zq, Zs, YM, YE, Yk, Yz, Yl, Yu, YA, Yt, Yh, YI, ZP, ZY, List.cons_append, List.nil_append, Bool.not_true, Bool.not_false, ZN, YS, YR, YQ]
          refine ⟨.inl ⟨by lia, by lia⟩, ?_⟩
          refine spec_cell _ _ _ _ _ (by lia) ?_
          (try simp only [↓Ve, ↓Vf, ↓Vs, ↓Vl, ↓YU, ↓Vb, ↓Vu, ↓Ym, ↓Vk, ↓VI, ↓Vh, ↓YD, ↓Vj, ↓Yg, ↓Yy, ↓Ys, ↓Yo, ↓Yp, ↓Ye, Yc, ZA, ZS, Yb, Yr, ZF, Zx, ZD, ZT, ZX, ZO, Yd, YG, ZZ, YT, Yn, ZJ, YL, YK, Vc, Yw, ZU, ZR, YC, ZQ, ZV, ZH, YV, Vq, Vd, Vt, Vi, Vr, Va, Vo, Vg, YY, YJ, Yi, Zm, Zh, Zc, Zb, ZC, Zu, ZB, ZL, ZI, ZM, ZG, ZE, YF, Zz, Zy, Zw, Zt, Zr, Zo, Zv, Zn, Zi, Zp, Zl, Zd, Zk, Ze, Zj, Zf, Zg, Za, Yq, YB, Yv, ZW, Yx, YX, YZ, Vm, YW, Yj, YH, Vp, Vn, Zq, Zs, YM, YE, Yk, Yz, Yl, Yu, YA, Yt, Yh, YI, ZP, ZY, List.cons_append, List.nil_append, Bool.not_true, Bool.not_false, ZN, YS, YR, YQ])
          exact ⟨by decide, (by trivial), _, by lia, by lia, rfl⟩
        · (try simp only [↓Ve, ↓Vf, ↓Vs, ↓Vl, ↓YU, ↓Vb, ↓Vu, ↓Ym, ↓Vk, ↓VI, ↓Vh, ↓YD, ↓Vj, ↓Yg, ↓Yy, ↓Ys, ↓Yo, ↓Yp, ↓Ye, Yc, ZA, ZS, Yb, Yr, ZF, Zx, ZD, ZT, ZX, ZO, Yd, YG, ZZ, YT, Yn, ZJ, YL, YK, Vc, Yw, ZU, ZR, YC, ZQ, ZV, ZH, YV, Vq, Vd, Vt, Vi, Vr, Va, Vo, Vg, YY, YJ, Yi, Zm, Zh, Zc, Zb, ZC, Zu, ZB, ZL, ZI, ZM, ZG, ZE, YF, Zz, Zy, Zw, Zt, Zr, Zo, Zv, Zn, Zi, Zp, Zl, Zd, Zk, Ze, Zj, Zf, Zg, Za, Yq, YB, Yv, ZW, Yx, YX, YZ, Vm, YW, Yj, YH, Vp, Vn, Zq, Zs, YM, YE, Yk, Yz, Yl, Yu, YA, Yt, Yh, YI, ZP, ZY, List.cons_append, List.nil_append, Bool.not_true, Bool.not_false, ZN, YS, YR, YQ])
          exact ⟨(by trivial), b, hb0, hb1, rfl⟩
      rintro m4 H4 ⟨rfl, d, hd0, hd1, rfl⟩
      (try (with_reducible (first | refine Vy ?_ | refine Vw ?_); intro J))
      (with_reducible first | refine Vx ?_ | (refine VC ?_; intro J)); simp only [↓Ve, ↓Vf, ↓Vs, ↓Vl, ↓YU, ↓Vb, ↓Vu, ↓Ym, ↓Vk, ↓VI, ↓Vh, ↓YD, ↓Vj, ↓Yg, ↓Yy, ↓Ys, ↓Yo, ↓Yp, ↓Ye, Yc, ZA, ZS, Yb, Yr, ZF, Zx, ZD, ZT, ZX, ZO, Yd, YG, ZZ, YT, Yn, ZJ, YL, YK, Vc, Yw, ZU, ZR, YC, ZQ, ZV, ZH, YV, Vq, Vd, Vt, Vi, Vr, Va, Vo, Vg, YY, YJ, Yi, Zm, Zh, Zc, Zb, ZC, Zu, ZB, ZL, ZI, ZM, ZG, ZE, YF, Zz, Zy, Zw, Zt, Zr, Zo, Zv, Zn, Zi, Zp, Zl, Zd, Zk, Ze, Zj, Zf, Zg, Za, Yq, YB, Yv, ZW, Yx, YX, YZ, Vm, YW, Yj, YH, Vp, Vn, Zq, Zs, YM, YE, Yk, Yz, Yl, Yu, YA, Yt, Yh, YI, ZP, ZY, List.cons_append, List.nil_append, Bool.not_true, Bool.not_false, ZN, YS, YR, YQ, b_notin hk]
      split
      · rename_i hin
        (try simp only [↓Ve, ↓Vf, ↓Vs, ↓Vl, ↓YU, ↓Vb, ↓Vu, ↓Ym, ↓Vk, ↓VI, ↓Vh, ↓YD, ↓Vj, ↓Yg, ↓Yy, ↓Ys, ↓Yo, ↓Yp, ↓Ye, Yc, ZA, ZS, Yb, Yr, ZF, Zx, ZD, ZT, ZX, ZO, Yd, YG, ZZ, YT, Yn, ZJ, YL, YK, Vc, Yw, ZU, ZR, YC, ZQ, ZV, ZH, YV, Vq, Vd, Vt, Vi, Vr, Va, Vo, Vg, YY, YJ, Yi, Zm, Zh, Zc, Zb, ZC, Zu, ZB, ZL, ZI, ZM, ZG, ZE, YF, Zz, Zy, Zw, Zt, Zr, Zo, Zv, Zn, Zi, Zp, Zl, Zd, Zk, Ze, Zj, Zf, Zg, Za, Yq, YB, Yv, ZW, Yx, YX, YZ, Vm, YW, Yj, YH, Vp, Vn, Zq, Zs, YM, YE, Yk, Yz, Yl, Yu, YA, Yt, Yh, YI, ZP, ZY, List.cons_append, List.nil_append, Bool.not_true, Bool.not_false, ZN, YS, YR, YQ])
        exact ⟨A, _, _, hp, hk, hn, hd, by lia, rfl⟩
      · rename_i hin
        (with_reducible first | refine Vx ?_ | (refine VC ?_; intro J)); simp only [↓Ve, ↓Vf, ↓Vs, ↓Vl, ↓YU, ↓Vb, ↓Vu, ↓Ym, ↓Vk, ↓VI, ↓Vh, ↓YD, ↓Vj, ↓Yg, ↓Yy, ↓Ys, ↓Yo, ↓Yp, ↓Ye, Yc, ZA, ZS, Yb, Yr, ZF, Zx, ZD, ZT, ZX, ZO, Yd, YG, ZZ, YT, Yn, ZJ, YL, YK, Vc, Yw, ZU, ZR, YC, ZQ, ZV, ZH, YV, Vq, Vd, Vt, Vi, Vr, Va, Vo, Vg, YY, YJ, Yi, Zm, Zh, Zc, Zb, ZC, Zu, ZB, ZL, ZI, ZM, ZG, ZE, YF, Zz, Zy, Zw, Zt, Zr, Zo, Zv, Zn, Zi, Zp, Zl, Zd, Zk, Ze, Zj, Zf, Zg, Za, Yq, YB, Yv, ZW, Yx, YX, YZ, Vm, YW, Yj, YH, Vp, Vn, Zq, Zs, YM, YE, Yk, Yz, Yl, Yu, YA, Yt, Yh, YI, ZP, ZY, List.cons_append, List.nil_append, Bool.not_true, Bool.not_false, ZN, YS, YR, YQ, VH hk]
        refine ⟨by rw [VR]; unfold room; lia, A ++ [d], _, _, pre_set hp ?_, ?_, ?_, ?_, by simp; lia, rfl⟩
        · have := p1.length_le; lia
        · rw [set_get hk, zl_append]
        · intro x hx
          rcases List.mem_append.mp hx with y | y
          · exact hn x y
          · simp only [List.mem_singleton] at y; subst y; exact ⟨hd0, hd1⟩
        · rw [List.nodup_append]
          refine ⟨hd, by simp, fun x hx y hy e => ?_⟩
          simp only [List.mem_singleton] at hy
          subst hy; subst e; exact hin hx
    · rintro m' H' ⟨A, t7, t8, hp, hk, hn, hd, hl, rfl⟩
      (try (with_reducible (first | refine Vy ?_ | refine Vw ?_); intro J))
      exact ⟨A, t7, t8, hp, hk, hn, hd, by lia, rfl⟩
  rintro m' H' ⟨A, t7, t8, hp, hk, hn, hd, hl, rfl⟩
  (try (with_reducible (first | refine Vy ?_ | refine Vw ?_); intro J))
  (try change wpSs _ _ _ _ _); simp only [s_cons, ↓Ve, ↓Vf, ↓Vs, ↓Vl, ↓YU, ↓Vb, ↓Vu, ↓Ym, ↓Vk, ↓VI, ↓Vh, ↓YD, ↓Vj, ↓Yg, ↓Yy, ↓Ys, ↓Yo, ↓Yp, ↓Ye, Yc, ZA, ZS, Yb, Yr, ZF, Zx, ZD, ZT, ZX, ZO, Yd, YG, ZZ, YT, Yn, ZJ, YL, YK, Vc, Yw, ZU, ZR, YC, ZQ, ZV, ZH, YV, Vq, Vd, Vt, Vi, Vr, Va, Vo, Vg, YY, YJ, Yi, Zm, Zh, Zc, Zb, ZC, Zu, ZB, ZL, ZI, ZM, ZG, ZE, YF, Zz, Zy, Zw, Zt, Zr, Zo, Zv, Zn, Zi, Zp, Zl, Zd, Zk, Ze, Zj, Zf, Zg, Za, Yq, YB, Yv, ZW, Yx, YX, YZ, Vm, YW, Yj, YH, Vp, Vn, Zq, Zs, YM, YE, Yk, Yz, Yl, Yu, YA, Yt, Yh, YI, ZP, ZY, List.cons_append, List.nil_append, Bool.not_true, Bool.not_false, ZN, YS, YR, YQ]
  exact h _ A H' hp p1.length_le hk hn hd hl

/-! sums of powers -/
noncomputable def pws : List Int → Nat → Int
  | [], _ => 0
  | a :: r, k => a ^ k + pws r k
noncomputable def sumsL (A : List Int) (m : Nat) : List Int := (List.range m).map fun k => pws A (k + 1) % 251
theorem pws_append (A B : List Int) (k : Nat) : pws (A ++ B) k = pws A k + pws B k := by
  induction A with
  | nil => simp [pws]
  | cons a r ih => simp only [List.cons_append, pws, ih]; lia
theorem fz_pws (A : List Int) {t : Nat} (h : t ≠ 0) : fz (pws A t) = pw A t := by
  induction A with
  | nil => rfl
  | cons a r ih => rw [pws, fz_add, fz_pow, ih]; simp only [pw]; rw [if_neg h]
theorem sumsL_len (A : List Int) (m : Nat) : (sumsL A m).length = m := by simp [sumsL]
theorem sumsL_red (A : List Int) (m : Nat) : Red (sumsL A m) := fun a ha => by
  obtain ⟨t, _, rfl⟩ := List.mem_map.mp ha
  exact ⟨Int.emod_nonneg _ (by decide), Int.emod_lt_of_pos _ (by decide)⟩
theorem sumsL_co (A : List Int) {m k : Nat} (h : k < m) : co (sumsL A m) k = pws A (k + 1) % 251 := by
  rw [co_lt (by simp [sumsL, h])]; simp [sumsL]
theorem list_co {xs ys : List Int} (hl : xs.length = ys.length) (h : ∀ t, t < xs.length → co xs t = co ys t) : xs = ys := List.ext_getElem hl fun i h1 h2 => by
  have := h i h1
  rwa [co_lt h1, co_lt h2] at this
theorem pws_sum (A : List Int) (k : Nat) : (A.map fun a => a ^ k % 251).sum % 251 = pws A k % 251 := by
  induction A with
  | nil => rfl
  | cons a r ih =>
    rw [List.map_cons, List.sum_cons, pws]
    lia

theorem spec_sums_of (n k : Nat) (A : List Int) (many : Nat) (H : Hp) (P : PV) (hk : H[k]? = some (zl A)) (hm : many ≤ 1000) (h : ∀ H', H <+: H' → P (.ref H'.length) (H' ++ [zl (sumsL A many)])) : run T (n + 2) 23 [.ref k, .int many] H P := by
  --EXPL
  refine run_succ (d := f_sums_of) rfl rfl (by decide) ?_
  simp -implicitDefEqProofs only [f_sums_of, entry, List.map, List.replicate, Nat.reduceSub, s_cons, ↓Ve, ↓Vf, ↓Vs, ↓Vl, ↓YU, ↓Vb, ↓Vu, ↓Ym, ↓Vk, ↓VI, ↓Vh, ↓YD, ↓Vj, ↓Yg, ↓Yy, ↓Ys, ↓Yo, ↓Yp, ↓Ye, Yc, ZA, ZS, Yb, Yr, ZF, Zx, ZD, ZT, ZX, ZO, Yd, YG, ZZ, YT, Yn, ZJ, YL, YK, Vc, Yw, ZU, ZR, YC, ZQ, ZV, ZH, YV, Vq, Vd, Vt, Vi, Vr, Va, Vo, Vg, YY, YJ, Yi, Zm, Zh, Zc, Zb, ZC, Zu, ZB, ZL, ZI, ZM, ZG, ZE, YF, Zz, Zy, Zw, Zt, Zr, Zo, Zv, Zn, Zi, Zp, Zl, Zd, Zk, Ze, Zj, Zf, Zg, Za, Yq, YB, Yv, ZW, Yx, YX, YZ, Vm, YW, Yj, YH, Vp, Vn, Zq, Zs, YM, YE, Yk, Yz, Yl, Yu, YA, Yt, Yh, YI, ZP, ZY, List.cons_append, List.nil_append, Bool.not_true, Bool.not_false, ZN, YS, YR, YQ]
  generalize hM : (many : Int) + 1 = M
  generalize hL : (1 : Int) = L
  refine comp_rmap (VB _ _) (by lia) (by lia) (fun k => pws A (k + 1) % 251) ?_ ?_
  · intro j hj H' hp R hR
    (try simp -implicitDefEqProofs only [↓Ve, ↓Vf, ↓Vs, ↓Vl, ↓YU, ↓Vb, ↓Vu, ↓Ym, ↓Vk, ↓VI, ↓Vh, ↓YD, ↓Vj, ↓Yg, ↓Yy, ↓Ys, ↓Yo, ↓Yp, ↓Ye, Yc, ZA, ZS, Yb, Yr, ZF, Zx, ZD, ZT, ZX, ZO, Yd, YG, ZZ, YT, Yn, ZJ, YL, YK, Vc, Yw, ZU, ZR, YC, ZQ, ZV, ZH, YV, Vq, Vd, Vt, Vi, Vr, Va, Vo, Vg, YY, YJ, Yi, Zm, Zh, Zc, Zb, ZC, Zu, ZB, ZL, ZI, ZM, ZG, ZE, YF, Zz, Zy, Zw, Zt, Zr, Zo, Zv, Zn, Zi, Zp, Zl, Zd, Zk, Ze, Zj, Zf, Zg, Za, Yq, YB, Yv, ZW, Yx, YX, YZ, Vm, YW, Yj, YH, Vp, Vn, Zq, Zs, YM, YE, Yk, Yz, Yl, Yu, YA, Yt, Yh, YI, ZP, ZY, List.cons_append, List.nil_append, Bool.not_true, Bool.not_false, ZN, YS, YR, YQ])
    refine comp_lmap (VB _ _) (Vz hp hk) (fun a => a ^ (j + 1) % 251) ?_ ?_
    · intro a ha H2 hp2 R2 hR2
      (try simp -implicitDefEqProofs only [↓Ve, ↓Vf, ↓Vs, ↓Vl, ↓YU, ↓Vb, ↓Vu, ↓Ym, ↓Vk, ↓VI, ↓Vh, ↓YD, ↓Vj, ↓Yg, ↓Yy, ↓Ys, ↓Yo, ↓Yp, ↓Ye, Yc, ZA, ZS, Yb, Yr, ZF, Zx, ZD, ZT, ZX, ZO, Yd, YG, ZZ, YT, Yn, ZJ, YL, YK, Vc, Yw, ZU, ZR, YC, ZQ, ZV, ZH, YV, Vq, Vd, Vt, Vi, Vr, Va, Vo, Vg, YY, YJ, Yi, Zm, Zh, Zc, Zb, ZC, Zu, ZB, ZL, ZI, ZM, ZG, ZE, YF, Zz, Zy, Zw, Zt, Zr, Zo, Zv, Zn, Zi, Zp, Zl, Zd, Zk, Ze, Zj, Zf, Zg, Za, Yq, YB, Yv, ZW, Yx, YX, YZ, Vm, YW, Yj, YH, Vp, Vn, Zq, Zs, YM, YE, Yk, Yz, Yl, Yu, YA, Yt, Yh, YI, ZP, ZY, List.cons_append, List.nil_append, Bool.not_true, Bool.not_false, ZN, YS, YR, YQ])
      refine spec_power _ _ _ _ _ (by lia) ?_
      rw [show (L + (j : Int)).toNat = j + 1 by lia]
      exact hR2 _ (List.prefix_refl _)
    · intro H2 hp2
      (try simp -implicitDefEqProofs only [↓Ve, ↓Vf, ↓Vs, ↓Vl, ↓YU, ↓Vb, ↓Vu, ↓Ym, ↓Vk, ↓VI, ↓Vh, ↓YD, ↓Vj, ↓Yg, ↓Yy, ↓Ys, ↓Yo, ↓Yp, ↓Ye, Yc, ZA, ZS, Yb, Yr, ZF, Zx, ZD, ZT, ZX, ZO, Yd, YG, ZZ, YT, Yn, ZJ, YL, YK, Vc, Yw, ZU, ZR, YC, ZQ, ZV, ZH, YV, Vq, Vd, Vt, Vi, Vr, Va, Vo, Vg, YY, YJ, Yi, Zm, Zh, Zc, Zb, ZC, Zu, ZB, ZL, ZI, ZM, ZG, ZE, YF, Zz, Zy, Zw, Zt, Zr, Zo, Zv, Zn, Zi, Zp, Zl, Zd, Zk, Ze, Zj, Zf, Zg, Za, Yq, YB, Yv, ZW, Yx, YX, YZ, Vm, YW, Yj, YH, Vp, Vn, Zq, Zs, YM, YE, Yk, Yz, Yl, Yu, YA, Yt, Yh, YI, ZP, ZY, List.cons_append, List.nil_append, Bool.not_true, Bool.not_false, ZN, YS, YR, YQ])
      refine withL_of VP ?_
      (try simp -implicitDefEqProofs only [↓Ve, ↓Vf, ↓Vs, ↓Vl, ↓YU, ↓Vb, ↓Vu, ↓Ym, ↓Vk, ↓VI, ↓Vh, ↓YD, ↓Vj, ↓Yg, ↓Yy, ↓Ys, ↓Yo, ↓Yp, ↓Ye, Yc, ZA, ZS, Yb, Yr, ZF, Zx, ZD, ZT, ZX, ZO, Yd, YG, ZZ, YT, Yn, ZJ, YL, YK, Vc, Yw, ZU, ZR, YC, ZQ, ZV, ZH, YV, Vq, Vd, Vt, Vi, Vr, Va, Vo, Vg, YY, YJ, Yi, Zm, Zh, Zc, Zb, ZC, Zu, ZB, ZL, ZI, ZM, ZG, ZE, YF, Zz, Zy, Zw, Zt, Zr, Zo, Zv, Zn, Zi, Zp, Zl, Zd, Zk, Ze, Zj, Zf, Zg, Za, Yq, YB, Yv, ZW, Yx, YX, YZ, Vm, YW, Yj, YH, Vp, Vn, Zq, Zs, YM, YE, Yk, Yz, Yl, Yu, YA, Yt, Yh, YI, ZP, ZY, List.cons_append, List.nil_append, Bool.not_true, Bool.not_false, ZN, YS, YR, YQ])
      refine ⟨by decide, ?_⟩
      rw [pws_sum]
      exact hR _ (pre_app hp2)
  · intro H' hp
    rw [show (M - L).toNat = many by lia]
    exact h H' hp

theorem spec_law_sums (n k : Nat) (A : List Int) (many : Nat) (H : Hp) (P : PV) (hk : H[k]? = some (zl A)) (hA : Num A) (hm : many ≤ 1000)
    (h : ∀ k' H', H <+: H' → H.length ≤ k' → H'[k']? = some (zl (sumsL A many)) → P (.ref k') H') : run T (n + 1) 26 [.ref k, .int many] H P := by
  refine run_succ (d := f_law_sums) rfl rfl (by decide) ?_
  simp only [f_law_sums, entry, List.map, List.replicate, Nat.reduceSub, List.cons_append, List.nil_append]
  (with_reducible first | refine Vx ?_ | (refine VC ?_; intro J)); simp only [↓Ve, ↓Vf, ↓Vs, ↓Vl, ↓YU, ↓Vb, ↓Vu, ↓Ym, ↓Vk, ↓VI, ↓Vh, ↓YD, ↓Vj, ↓Yg, ↓Yy, ↓Ys, ↓Yo, ↓Yp, ↓Ye, Yc, ZA, ZS, Yb, Yr, ZF, Zx, ZD, ZT, ZX, ZO, Yd, YG, ZZ, YT, Yn, ZJ, YL, YK, Vc, Yw, ZU, ZR, YC, ZQ, ZV, ZH, YV, Vq, Vd, Vt, Vi, Vr, Va, Vo, Vg, YY, YJ, Yi, Zm, Zh, Zc, Zb, ZC, Zu, ZB, ZL, ZI, ZM, ZG, ZE, YF, Zz, Zy, Zw, Zt, Zr, Zo, Zv, Zn, Zi, Zp, Zl, Zd, Zk, Ze, Zj, Zf, Zg, Za, Yq, YB, Yv, ZW, Yx, YX, YZ, Vm, YW, Yj, YH, Vp, Vn, Zq, Zs, YM, YE, Yk, Yz, Yl, Yu, YA, Yt, Yh, YI, ZP, ZY, List.cons_append, List.nil_append, Bool.not_true, Bool.not_false, ZN, YS, YR, YQ]
  (try change wpSs _ _ _ _ _)
  refine s_cut (VB _ _) (fun m' H' => ∃ t3, And3 (H <+: H') (H'[H.length]? = some (zl (sumsL [] many))) (m' = [some (.ref k), some (.int many), some (.ref H.length), t3, none, none])) ?_ ?_
  · (try (with_reducible refine post_letS ?_; intro J))
    (try simp only [↓Ve, ↓Vf, ↓Vs, ↓Vl, ↓YU, ↓Vb, ↓Vu, ↓Ym, ↓Vk, ↓VI, ↓Vh, ↓YD, ↓Vj, ↓Yg, ↓Yy, ↓Ys, ↓Yo, ↓Yp, ↓Ye, Yc, ZA, ZS, Yb, Yr, ZF, Zx, ZD, ZT, ZX, ZO, Yd, YG, ZZ, YT, Yn, ZJ, YL, YK, Vc, Yw, ZU, ZR, YC, ZQ, ZV, ZH, YV, Vq, Vd, Vt, Vi, Vr, Va, Vo, Vg, YY, YJ, Yi, Zm, Zh, Zc, Zb, ZC, Zu, ZB, ZL, ZI, ZM, ZG, ZE, YF, Zz, Zy, Zw, Zt, Zr, Zo, Zv, Zn, Zi, Zp, Zl, Zd, Zk, Ze, Zj, Zf, Zg, Za, Yq, YB, Yv, ZW, Yx, YX, YZ, Vm, YW, Yj, YH, Vp, Vn, Zq, Zs, YM, YE, Yk, Yz, Yl, Yu, YA, Yt, Yh, YI, ZP, ZY, List.cons_append, List.nil_append, Bool.not_true, Bool.not_false, ZN, YS, YR, YQ])
    refine each_range (VB _ _) (by decide) (by lia) (fun q m' H' => ∃ t3, And3 (H <+: H') (H'[H.length]? = some (zl (sumsL [] q))) (m' = [some (.ref k), some (.int many), some (.ref H.length), t3, none, none])) ⟨none, List.prefix_append _ _, VP, rfl⟩ ?_ ?_
    · rintro q m' H' hq ⟨t3, hp, hk', rfl⟩
      (try (with_reducible (first | refine Vy ?_ | refine Vw ?_); intro J))
      (with_reducible first | refine Vx ?_ | (refine VC ?_; intro J)); simp only [↓Ve, ↓Vf, ↓Vs, ↓Vl, ↓YU, ↓Vb, ↓Vu, ↓Ym, ↓Vk, ↓VI, ↓Vh, ↓YD, ↓Vj, ↓Yg, ↓Yy, ↓Ys, ↓Yo, ↓Yp, ↓Ye, Yc, ZA, ZS, Yb, Yr, ZF, Zx, ZD, ZT, ZX, ZO, Yd, YG, ZZ, YT, Yn, ZJ, YL, YK, Vc, Yw, ZU, ZR, YC, ZQ, ZV, ZH, YV, Vq, Vd, Vt, Vi, Vr, Va, Vo, Vg, YY, YJ, Yi, Zm, Zh, Zc, Zb, ZC, Zu, ZB, ZL, ZI, ZM, ZG, ZE, YF, Zz, Zy, Zw, Zt, Zr, Zo, Zv, Zn, Zi, Zp, Zl, Zd, Zk, Ze, Zj, Zf, Zg, Za, Yq, YB, Yv, ZW, Yx, YX, YZ, Vm, YW, Yj, YH, Vp, Vn, Zq, Zs, YM, YE, Yk, Yz, Yl, Yu, YA, Yt, Yh, YI, ZP, ZY, List.cons_append, List.nil_append, Bool.not_true, Bool.not_false, ZN, YS, YR, YQ, VH hk']
      refine ⟨by rw [VR, sumsL_len]; unfold room; lia, _, pre_set hp (Nat.le_refl _), ?_, rfl⟩
      rw [set_get hk', zl_append]
      simp [sumsL, List.range_succ, pws]
    · rintro m' H' ⟨t3, hp, hk', rfl⟩
      (try (with_reducible (first | refine Vy ?_ | refine Vw ?_); intro J))
      rw [show ((many : Int) - 0).toNat = many by lia] at hk'
      exact ⟨t3, hp, hk', rfl⟩
  rintro m' H' ⟨t3, hp, hk', rfl⟩
  (try (with_reducible (first | refine Vy ?_ | refine Vw ?_); intro J))
  (try change wpSs _ _ _ _ _)
  refine s_cut (VB _ _) (fun m' H' => Ex3 fun t3 t4 t5 => And3 (H <+: H') (H'[H.length]? = some (zl (sumsL A many))) (m' = [some (.ref k), some (.int many), some (.ref H.length), t3, t4, t5])) ?_ ?_
  · (try (with_reducible refine post_letS ?_; intro J))
    (try simp only [↓Ve, ↓Vf, ↓Vs, ↓Vl, ↓YU, ↓Vb, ↓Vu, ↓Ym, ↓Vk, ↓VI, ↓Vh, ↓YD, ↓Vj, ↓Yg, ↓Yy, ↓Ys, ↓Yo, ↓Yp, ↓Ye, Yc, ZA, ZS, Yb, Yr, ZF, Zx, ZD, ZT, ZX, ZO, Yd, YG, ZZ, YT, Yn, ZJ, YL, YK, Vc, Yw, ZU, ZR, YC, ZQ, ZV, ZH, YV, Vq, Vd, Vt, Vi, Vr, Va, Vo, Vg, YY, YJ, Yi, Zm, Zh, Zc, Zb, ZC, Zu, ZB, ZL, ZI, ZM, ZG, ZE, YF, Zz, Zy, Zw, Zt, Zr, Zo, Zv, Zn, Zi, Zp, Zl, Zd, Zk, Ze, Zj, Zf, Zg, Za, Yq, YB, Yv, ZW, Yx, YX, YZ, Vm, YW, Yj, YH, Vp, Vn, Zq, Zs, YM, YE, Yk, Yz, Yl, Yu, YA, Yt, Yh, YI, ZP, ZY, List.cons_append, List.nil_append, Bool.not_true, Bool.not_false, ZN, YS, YR, YQ])
    refine each_ref (VB _ _) (Vz hp hk) (fun q m' H' => Ex3 fun t3 t4 t5 => And3 (H <+: H') (H'[H.length]? = some (zl (sumsL (A.take q) many))) (m' = [some (.ref k), some (.int many), some (.ref H.length), t3, t4, t5])) ⟨t3, none, none, hp, hk', rfl⟩ (fun j m H' h => by obtain ⟨_, _, _, h, _⟩ := h; exact Vz h hk) ?_ ?_
    · rintro q v m' H' hv ⟨t3, t4, t5, hp, hk', rfl⟩
      (try (with_reducible (first | refine Vy ?_ | refine Vw ?_); intro J))
      obtain ⟨a, ha, rfl⟩ := zl_at hv
      have na := hA a (List.mem_of_getElem? ha)
      (with_reducible first | refine Vx ?_ | (refine VC ?_; intro J)); simp only [↓Ve, ↓Vf, ↓Vs, ↓Vl, ↓YU, ↓Vb, ↓Vu, ↓Ym, ↓Vk, ↓VI, ↓Vh, ↓YD, ↓Vj, ↓Yg, ↓Yy, ↓Ys, ↓Yo, ↓Yp, ↓Ye, Yc, ZA, ZS, Yb, Yr, ZF, Zx, ZD, ZT, ZX, ZO, Yd, YG, ZZ, YT, Yn, ZJ, YL, YK, Vc, Yw, ZU, ZR, YC, ZQ, ZV, ZH, YV, Vq, Vd, Vt, Vi, Vr, Va, Vo, Vg, YY, YJ, Yi, Zm, Zh, Zc, Zb, ZC, Zu, ZB, ZL, ZI, ZM, ZG, ZE, YF, Zz, Zy, Zw, Zt, Zr, Zo, Zv, Zn, Zi, Zp, Zl, Zd, Zk, Ze, Zj, Zf, Zg, Za, Yq, YB, Yv, ZW, Yx, YX, YZ, Vm, YW, Yj, YH, Vp, Vn, Zq, Zs, YM, YE, Yk, Yz, Yl, Yu, YA, Yt, Yh, YI, ZP, ZY, List.cons_append, List.nil_append, Bool.not_true, Bool.not_false, ZN, YS, YR, YQ]
      (try change wpSs _ _ _ _ _)
      refine s_cut (VB _ _) (fun m' H' => Ex3 fun t3 t4 t5 => And3 (H <+: H') (H'[H.length]? = some (zl (sumsL (A.take (q + 1)) many))) (m' = [some (.ref k), some (.int many), some (.ref H.length), t3, t4, t5])) ?_ (fun m H h => by (try change wpSs _ _ _ _ _); simp only [s_cons, ↓Ve, ↓Vf, ↓Vs, ↓Vl, ↓YU, ↓Vb, ↓Vu, ↓Ym, ↓Vk, ↓VI, ↓Vh, ↓YD, ↓Vj, ↓Yg, ↓Yy, ↓Ys, ↓Yo, ↓Yp, ↓Ye, Yc, ZA, ZS, Yb, Yr, ZF, Zx, ZD, ZT, ZX, ZO, Yd, YG, ZZ, YT, Yn, ZJ, YL, YK, Vc, Yw, ZU, ZR, YC, ZQ, ZV, ZH, YV, Vq, Vd, Vt, Vi, Vr, Va, Vo, Vg, YY, YJ, Yi, Zm, Zh, Zc, Zb, ZC, Zu, ZB, ZL, ZI, ZM, ZG, ZE, YF, Zz, Zy, Zw, Zt, Zr, Zo, Zv, Zn, Zi, Zp, Zl, Zd, Zk, Ze, Zj, Zf, Zg, Za, Yq, YB, Yv, ZW, Yx, YX, YZ, Vm, YW, Yj, YH, Vp, Vn, Zq, Zs, YM, YE, Yk, Yz, Yl, Yu, YA, Yt, Yh, YI, ZP, ZY, List.cons_append, List.nil_append, Bool.not_true, Bool.not_false, ZN, YS, YR, YQ]; exact h)
      (try simp only [↓Ve, ↓Vf, ↓Vs, ↓Vl, ↓YU, ↓Vb, ↓Vu, ↓Ym, ↓Vk, ↓VI, ↓Vh, ↓YD, ↓Vj, ↓Yg, ↓Yy, ↓Ys, ↓Yo, ↓Yp, ↓Ye, Yc, ZA, ZS, Yb, Yr, ZF, Zx, ZD, ZT, ZX, ZO, Yd, YG, ZZ, YT, Yn, ZJ, YL, YK, Vc, Yw, ZU, ZR, YC, ZQ, ZV, ZH, YV, Vq, Vd, Vt, Vi, Vr, Va, Vo, Vg, YY, YJ, Yi, Zm, Zh, Zc, Zb, ZC, Zu, ZB, ZL, ZI, ZM, ZG, ZE, YF, Zz, Zy, Zw, Zt, Zr, Zo, Zv, Zn, Zi, Zp, Zl, Zd, Zk, Ze, Zj, Zf, Zg, Za, Yq, YB, Yv, ZW, Yx, YX, YZ, Vm, YW, Yj, YH, Vp, Vn, Zq, Zs, YM, YE, Yk, Yz, Yl, Yu, YA, Yt, Yh, YI, ZP, ZY, List.cons_append, List.nil_append, Bool.not_true, Bool.not_false, ZN, YS, YR, YQ])
      refine each_range (VB _ _) (by decide) (by lia) (fun j m' H' => Ex2 fun t3 fs => And5 (H <+: H') (H'[H.length]? = some (zl fs)) (fs.length = many) ((∀ t, t < many → co fs t = (pws (A.take q) (t + 1) + if t < j then a ^ (t + 1) else 0) % 251)) (m' = [some (.ref k), some (.int many), some (.ref H.length), t3, some (.int a), some (.int (a ^ j % 251))])) ?_ ?_ ?_
      · refine ⟨_, _, hp, hk', sumsL_len _ _, fun t ht => ?_, by rw [Int.pow_zero]; rfl⟩
        rw [sumsL_co _ ht, if_neg (by lia), Int.add_zero]
      · rintro j m' H' hj ⟨t3, fs, hp, hk', hl, hc, rfl⟩
        (try (with_reducible (first | refine Vy ?_ | refine Vw ?_); intro J))
        (with_reducible first | refine Vx ?_ | (refine VC ?_; intro J)); simp only [↓Ve, ↓Vf, ↓Vs, ↓Vl, ↓YU, ↓Vb, ↓Vu, ↓Ym, ↓Vk, ↓VI, ↓Vh, ↓YD, ↓Vj, ↓Yg, ↓Yy, ↓Ys, ↓Yo, ↓Yp, ↓Ye, Yc, ZA, ZS, Yb, Yr, ZF, Zx, ZD, ZT, ZX, ZO, Yd, YG, ZZ, YT, Yn, ZJ, YL, YK, Vc, Yw, ZU, ZR, YC, ZQ, ZV, ZH, YV, Vq, Vd, Vt, Vi, Vr, Va, Vo, Vg, YY, YJ, Yi, Zm, Zh, Zc, Zb, ZC, Zu, ZB, ZL, ZI, ZM, ZG, ZE, YF, Zz, Zy, Zw, Zt, Zr, Zo, Zv, Zn, Zi, Zp, Zl, Zd, Zk, Ze, Zj, Zf, Zg, Za, Yq, YB, Yv, ZW, Yx, YX, YZ, Vm, YW, Yj, YH, Vp, Vn, Zq, Zs, YM, YE, Yk, Yz, Yl, Yu, YA, Yt, Yh, YI, ZP, ZY, List.cons_append, List.nil_append, Bool.not_true, Bool.not_false, ZN, YS, YR, YQ]
        refine ⟨.inr ⟨by lia, by lia⟩, by decide, ?_⟩
        have e1 : a ^ j % 251 * a % 251 = a ^ (j + 1) % 251 := by
          rw [Int.pow_succ, Int.mul_emod, Int.emod_emod_of_dvd _ (Int.dvd_refl _), ← Int.mul_emod]
        rw [e1]
        (with_reducible first | refine Vx ?_ | (refine VC ?_; intro J)); simp only [↓Ve, ↓Vf, ↓Vs, ↓Vl, ↓YU, ↓Vb, ↓Vu, ↓Ym, ↓Vk, ↓VI, ↓Vh, ↓YD, ↓Vj, ↓Yg, ↓Yy, ↓Ys, ↓Yo, ↓Yp, ↓Ye, Yc, ZA, ZS, Yb, Yr, ZF, Zx, ZD, ZT, ZX, ZO, Yd, YG, ZZ, YT, Yn, ZJ, YL, YK, Vc, Yw, ZU, ZR, YC, ZQ, ZV, ZH, YV, Vq, Vd, Vt, Vi, Vr, Va, Vo, Vg, YY, YJ, Yi, Zm, Zh, Zc, Zb, ZC, Zu, ZB, ZL, ZI, ZM, ZG, ZE, YF, Zz, Zy, Zw, Zt, Zr, Zo, Zv, Zn, Zi, Zp, Zl, Zd, Zk, Ze, Zj, Zf, Zg, Za, Yq, YB, Yv, ZW, Yx, YX, YZ, Vm, YW, Yj, YH, Vp, Vn, Zq, Zs, YM, YE, Yk, Yz, Yl, Yu, YA, Yt, Yh, YI, ZP, ZY, List.cons_append, List.nil_append, Bool.not_true, Bool.not_false, ZN, YS, YR, YQ, VH hk']
        refine Wa (by lia) (zl_get (xs := fs) (j := (0 + (j : Int)).toNat) (by lia)) ?_
        (try simp only [↓Ve, ↓Vf, ↓Vs, ↓Vl, ↓YU, ↓Vb, ↓Vu, ↓Ym, ↓Vk, ↓VI, ↓Vh, ↓YD, ↓Vj, ↓Yg, ↓Yy, ↓Ys, ↓Yo, ↓Yp, ↓Ye, Yc, ZA, ZS, Yb, Yr, ZF, Zx, ZD, ZT, ZX, ZO, Yd, YG, ZZ, YT, Yn, ZJ, YL, YK, Vc, Yw, ZU, ZR, YC, ZQ, ZV, ZH, YV, Vq, Vd, Vt, Vi, Vr, Va, Vo, Vg, YY, YJ, Yi, Zm, Zh, Zc, Zb, ZC, Zu, ZB, ZL, ZI, ZM, ZG, ZE, YF, Zz, Zy, Zw, Zt, Zr, Zo, Zv, Zn, Zi, Zp, Zl, Zd, Zk, Ze, Zj, Zf, Zg, Za, Yq, YB, Yv, ZW, Yx, YX, YZ, Vm, YW, Yj, YH, Vp, Vn, Zq, Zs, YM, YE, Yk, Yz, Yl, Yu, YA, Yt, Yh, YI, ZP, ZY, List.cons_append, List.nil_append, Bool.not_true, Bool.not_false, ZN, YS, YR, YQ])
        refine ⟨by decide, withL_of hk' ⟨by lia, by rw [VR]; lia, ?_⟩⟩
        rw [zl_set]
        refine ⟨_, _, pre_set hp (Nat.le_refl _), set_get hk', by simp [hl], fun t ht => ?_, rfl⟩
        rw [co_set (by lia)]
        have ej : (0 + (j : Int)).toNat = j := by lia
        by_cases et : t = j
        · subst et
          rw [if_pos ej.symm, if_pos (by lia), ← co_lt, ej, hc t ht, if_neg (by lia)]
          generalize pws (A.take q) (t + 1) = u
          generalize a ^ (t + 1) = w
          lia
        · rw [if_neg (by lia), hc t ht]
          by_cases c : t < j
          · rw [if_pos c, if_pos (by lia)]
          · rw [if_neg c, if_neg (by lia)]
      · rintro m' H' ⟨t3, fs, hp, hk', hl, hc, rfl⟩
        (try (with_reducible (first | refine Vy ?_ | refine Vw ?_); intro J))
        refine ⟨t3, _, _, hp, ?_, rfl⟩
        rw [hk', list_co (xs := fs) (ys := sumsL (A.take (q + 1)) many) (by rw [hl, sumsL_len]) fun t ht => ?_]
        rw [hc t (by lia), sumsL_co _ (by lia), if_pos (by lia), List.take_add_one, ha, Option.toList, pws_append]
        simp [pws]
    · rintro m' H' ⟨t3, t4, t5, hp, hk', rfl⟩
      (try (with_reducible (first | refine Vy ?_ | refine Vw ?_); intro J))
      rw [VR, List.take_length] at hk'
      exact ⟨t3, t4, t5, hp, hk', rfl⟩
  rintro m' H' ⟨t3, t4, t5, hp, hk', rfl⟩
  (try (with_reducible (first | refine Vy ?_ | refine Vw ?_); intro J))
  (try change wpSs _ _ _ _ _); simp only [s_cons, ↓Ve, ↓Vf, ↓Vs, ↓Vl, ↓YU, ↓Vb, ↓Vu, ↓Ym, ↓Vk, ↓VI, ↓Vh, ↓YD, ↓Vj, ↓Yg, ↓Yy, ↓Ys, ↓Yo, ↓Yp, ↓Ye, Yc, ZA, ZS, Yb, Yr, ZF, Zx, ZD, ZT, ZX, ZO, Yd, YG, ZZ, YT, Yn, ZJ, YL, YK, Vc, Yw, ZU, ZR, YC, ZQ, ZV, ZH, YV, Vq, Vd, Vt, Vi, Vr, Va, Vo, Vg, YY, YJ, Yi, Zm, Zh, Zc, Zb, ZC, Zu, ZB, ZL, ZI, ZM, ZG, ZE, YF, Zz, Zy, Zw, Zt, Zr, Zo, Zv, Zn, Zi, Zp, Zl, Zd, Zk, Ze, Zj, Zf, Zg, Za, Yq, YB, Yv, ZW, Yx, YX, YZ, Vm, YW, Yj, YH, Vp, Vn, Zq, Zs, YM, YE, Yk, Yz, Yl, Yu, YA, Yt, Yh, YI, ZP, ZY, List.cons_append, List.nil_append, Bool.not_true, Bool.not_false, ZN, YS, YR, YQ]
  exact h _ H' hp (Nat.le_refl _) hk'
end Mine

--STEP: ZN, YS, YR, YQ
open PySem
set_option linter.unusedSimpArgs false
set_option linter.unusedVariables false
namespace Mine

theorem sub_len {l l' : List Int} (hd : l.Nodup) (hs : ∀ a ∈ l, a ∈ l') : l.length ≤ l'.length := by
  induction l generalizing l' with
  | nil => simp
  | cons a r ih =>
    have h1 := List.nodup_cons.mp hd
    have ha := hs a List.mem_cons_self
    have := ih (l' := l'.erase a) h1.2 fun b hb => (List.mem_erase_of_ne fun (e : b = a) => h1.1 (e ▸ hb)).mpr (hs b (List.mem_cons_of_mem _ hb))
    rw [List.length_erase_of_mem ha] at this
    have := List.length_pos_of_mem ha
    simp only [List.length_cons]; lia
theorem item_zl {xs : List Int} {i : Int} {F : V → Prop} (h0 : 0 ≤ i) (h1 : i < xs.length) (q : F (.int (co xs i.toNat))) : itemOf (zl xs) i F :=
  Wa h0 (zl_get (xs := xs) (by lia)) (by rw [co_lt (by lia)] at q; exact q)

end Mine

--STEP: ZN, YS, YR, YQ
open PySem
set_option linter.unusedSimpArgs false
set_option linter.unusedVariables false
namespace Mine


theorem num_append {A B : List Int} (hA : Num A) (hB : Num B) : Num (A ++ B) := fun a ha => (List.mem_append.mp ha).elim (hA a) (hB a)
end Mine

--STEP: ZN, YS, YR, YQ
open PySem
set_option linter.unusedSimpArgs false
set_option linter.unusedVariables false
namespace Mine

theorem spec_need_letter (n : Nat) (c : Int) (S : List Int) (H : Hp) (P : PV) (h0 : 0 ≤ c) (h1 : c ≤ 250) (rS : Red S) (l1 : 1 ≤ S.length) (l2 : S.length ≤ 12) (h : P .none H) : run T (n + 2) 28 [.tup [.int c, .tup (zl S)]] H P := by
  refine run_succ (d := f_need_letter) rfl rfl (by decide) ?_
  simp only [f_need_letter, entry, List.map, List.replicate, Nat.reduceSub, List.cons_append, List.nil_append]
  (with_reducible first | refine Vx ?_ | (refine VC ?_; intro J)); simp only [↓Ve, ↓Vf, ↓Vs, ↓Vl, ↓YU, ↓Vb, ↓Vu, ↓Ym, ↓Vk, ↓VI, ↓Vh, ↓YD, ↓Vj, ↓Yg, ↓Yy, ↓Ys, ↓Yo, ↓Yp, ↓Ye, Yc, ZA, ZS, Yb, Yr, ZF, Zx, ZD, ZT, ZX, ZO, Yd, YG, ZZ, YT, Yn, ZJ, YL, YK, Vc, Yw, ZU, ZR, YC, ZQ, ZV, ZH, YV, Vq, Vd, Vt, Vi, Vr, Va, Vo, Vg, YY, YJ, Yi, Zm, Zh, Zc, Zb, ZC, Zu, ZB, ZL, ZI, ZM, ZG, ZE, YF, Zz, Zy, Zw, Zt, Zr, Zo, Zv, Zn, Zi, Zp, Zl, Zd, Zk, Ze, Zj, Zf, Zg, Za, Yq, YB, Yv, ZW, Yx, YX, YZ, Vm, YW, Yj, YH, Vp, Vn, Zq, Zs, YM, YE, Yk, Yz, Yl, Yu, YA, Yt, Yh, YI, ZP, ZY, List.cons_append, List.nil_append, Bool.not_true, Bool.not_false, ZN, YS, YR, YQ]
  rw [if_pos (show (([V.int c, V.tup (zl S)] : List V).length : Int) = 2 from rfl)]
  refine Wa (by decide) rfl ?_
  (try simp only [↓Ve, ↓Vf, ↓Vs, ↓Vl, ↓YU, ↓Vb, ↓Vu, ↓Ym, ↓Vk, ↓VI, ↓Vh, ↓YD, ↓Vj, ↓Yg, ↓Yy, ↓Ys, ↓Yo, ↓Yp, ↓Ye, Yc, ZA, ZS, Yb, Yr, ZF, Zx, ZD, ZT, ZX, ZO, Yd, YG, ZZ, YT, Yn, ZJ, YL, YK, Vc, Yw, ZU, ZR, YC, ZQ, ZV, ZH, YV, Vq, Vd, Vt, Vi, Vr, Va, Vo, Vg, YY, YJ, Yi, Zm, Zh, Zc, Zb, ZC, Zu, ZB, ZL, ZI, ZM, ZG, ZE, YF, Zz, Zy, Zw, Zt, Zr, Zo, Zv, Zn, Zi, Zp, Zl, Zd, Zk, Ze, Zj, Zf, Zg, Za, Yq, YB, Yv, ZW, Yx, YX, YZ, Vm, YW, Yj, YH, Vp, Vn, Zq, Zs, YM, YE, Yk, Yz, Yl, Yu, YA, Yt, Yh, YI, ZP, ZY, List.cons_append, List.nil_append, Bool.not_true, Bool.not_false, ZN, YS, YR, YQ])
  refine spec_is_whole _ _ _ _ _ _ h0 (by lia) ?_
  (try simp only [↓Ve, ↓Vf, ↓Vs, ↓Vl, ↓YU, ↓Vb, ↓Vu, ↓Ym, ↓Vk, ↓VI, ↓Vh, ↓YD, ↓Vj, ↓Yg, ↓Yy, ↓Ys, ↓Yo, ↓Yp, ↓Ye, Yc, ZA, ZS, Yb, Yr, ZF, Zx, ZD, ZT, ZX, ZO, Yd, YG, ZZ, YT, Yn, ZJ, YL, YK, Vc, Yw, ZU, ZR, YC, ZQ, ZV, ZH, YV, Vq, Vd, Vt, Vi, Vr, Va, Vo, Vg, YY, YJ, Yi, Zm, Zh, Zc, Zb, ZC, Zu, ZB, ZL, ZI, ZM, ZG, ZE, YF, Zz, Zy, Zw, Zt, Zr, Zo, Zv, Zn, Zi, Zp, Zl, Zd, Zk, Ze, Zj, Zf, Zg, Za, Yq, YB, Yv, ZW, Yx, YX, YZ, Vm, YW, Yj, YH, Vp, Vn, Zq, Zs, YM, YE, Yk, Yz, Yl, Yu, YA, Yt, Yh, YI, ZP, ZY, List.cons_append, List.nil_append, Bool.not_true, Bool.not_false, ZN, YS, YR, YQ])
  (with_reducible first | refine Vx ?_ | (refine VC ?_; intro J)); simp only [↓Ve, ↓Vf, ↓Vs, ↓Vl, ↓YU, ↓Vb, ↓Vu, ↓Ym, ↓Vk, ↓VI, ↓Vh, ↓YD, ↓Vj, ↓Yg, ↓Yy, ↓Ys, ↓Yo, ↓Yp, ↓Ye, Yc, ZA, ZS, Yb, Yr, ZF, Zx, ZD, ZT, ZX, ZO, Yd, YG, ZZ, YT, Yn, ZJ, YL, YK, Vc, Yw, ZU, ZR, YC, ZQ, ZV, ZH, YV, Vq, Vd, Vt, Vi, Vr, Va, Vo, Vg, YY, YJ, Yi, Zm, Zh, Zc, Zb, ZC, Zu, ZB, ZL, ZI, ZM, ZG, ZE, YF, Zz, Zy, Zw, Zt, Zr, Zo, Zv, Zn, Zi, Zp, Zl, Zd, Zk, Ze, Zj, Zf, Zg, Za, Yq, YB, Yv, ZW, Yx, YX, YZ, Vm, YW, Yj, YH, Vp, Vn, Zq, Zs, YM, YE, Yk, Yz, Yl, Yu, YA, Yt, Yh, YI, ZP, ZY, List.cons_append, List.nil_append, Bool.not_true, Bool.not_false, ZN, YS, YR, YQ]
  refine Wa (by decide) rfl ?_
  (try simp only [↓Ve, ↓Vf, ↓Vs, ↓Vl, ↓YU, ↓Vb, ↓Vu, ↓Ym, ↓Vk, ↓VI, ↓Vh, ↓YD, ↓Vj, ↓Yg, ↓Yy, ↓Ys, ↓Yo, ↓Yp, ↓Ye, Yc, ZA, ZS, Yb, Yr, ZF, Zx, ZD, ZT, ZX, ZO, Yd, YG, ZZ, YT, Yn, ZJ, YL, YK, Vc, Yw, ZU, ZR, YC, ZQ, ZV, ZH, YV, Vq, Vd, Vt, Vi, Vr, Va, Vo, Vg, YY, YJ, Yi, Zm, Zh, Zc, Zb, ZC, Zu, ZB, ZL, ZI, ZM, ZG, ZE, YF, Zz, Zy, Zw, Zt, Zr, Zo, Zv, Zn, Zi, Zp, Zl, Zd, Zk, Ze, Zj, Zf, Zg, Za, Yq, YB, Yv, ZW, Yx, YX, YZ, Vm, YW, Yj, YH, Vp, Vn, Zq, Zs, YM, YE, Yk, Yz, Yl, Yu, YA, Yt, Yh, YI, ZP, ZY, List.cons_append, List.nil_append, Bool.not_true, Bool.not_false, ZN, YS, YR, YQ])
  refine Wa (by decide) rfl ?_
  (try simp only [↓Ve, ↓Vf, ↓Vs, ↓Vl, ↓YU, ↓Vb, ↓Vu, ↓Ym, ↓Vk, ↓VI, ↓Vh, ↓YD, ↓Vj, ↓Yg, ↓Yy, ↓Ys, ↓Yo, ↓Yp, ↓Ye, Yc, ZA, ZS, Yb, Yr, ZF, Zx, ZD, ZT, ZX, ZO, Yd, YG, ZZ, YT, Yn, ZJ, YL, YK, Vc, Yw, ZU, ZR, YC, ZQ, ZV, ZH, YV, Vq, Vd, Vt, Vi, Vr, Va, Vo, Vg, YY, YJ, Yi, Zm, Zh, Zc, Zb, ZC, Zu, ZB, ZL, ZI, ZM, ZG, ZE, YF, Zz, Zy, Zw, Zt, Zr, Zo, Zv, Zn, Zi, Zp, Zl, Zd, Zk, Ze, Zj, Zf, Zg, Za, Yq, YB, Yv, ZW, Yx, YX, YZ, Vm, YW, Yj, YH, Vp, Vn, Zq, Zs, YM, YE, Yk, Yz, Yl, Yu, YA, Yt, Yh, YI, ZP, ZY, List.cons_append, List.nil_append, Bool.not_true, Bool.not_false, ZN, YS, YR, YQ, VR])
  rw [if_pos (by lia), if_pos (by lia)]
  (try change wpSs _ _ _ _ _)
  refine s_cut (VB _ _) (fun m' H' => H' = H ∧ ∃ t, m' = [some (.tup [.int c, .tup (zl S)]), t]) ?_ ?_
  · (try (with_reducible refine post_letS ?_; intro J))
    (try simp only [↓Ve, ↓Vf, ↓Vs, ↓Vl, ↓YU, ↓Vb, ↓Vu, ↓Ym, ↓Vk, ↓VI, ↓Vh, ↓YD, ↓Vj, ↓Yg, ↓Yy, ↓Ys, ↓Yo, ↓Yp, ↓Ye, Yc, ZA, ZS, Yb, Yr, ZF, Zx, ZD, ZT, ZX, ZO, Yd, YG, ZZ, YT, Yn, ZJ, YL, YK, Vc, Yw, ZU, ZR, YC, ZQ, ZV, ZH, YV, Vq, Vd, Vt, Vi, Vr, Va, Vo, Vg, YY, YJ, Yi, Zm, Zh, Zc, Zb, ZC, Zu, ZB, ZL, ZI, ZM, ZG, ZE, YF, Zz, Zy, Zw, Zt, Zr, Zo, Zv, Zn, Zi, Zp, Zl, Zd, Zk, Ze, Zj, Zf, Zg, Za, Yq, YB, Yv, ZW, Yx, YX, YZ, Vm, YW, Yj, YH, Vp, Vn, Zq, Zs, YM, YE, Yk, Yz, Yl, Yu, YA, Yt, Yh, YI, ZP, ZY, List.cons_append, List.nil_append, Bool.not_true, Bool.not_false, ZN, YS, YR, YQ])
    refine Wa (by decide) rfl ?_
    refine each_tup (VB _ _) (fun j m' H' => H' = H ∧ ∃ t, m' = [some (.tup [.int c, .tup (zl S)]), t]) ⟨rfl, none, rfl⟩ ?_ ?_
    · rintro j v m H' hv ⟨rfl, t, rfl⟩
      (try (with_reducible (first | refine Vy ?_ | refine Vw ?_); intro J))
      obtain ⟨a, ha, rfl⟩ := zl_at hv
      have ra := rS a (List.mem_of_getElem? ha)
      (with_reducible first | refine Vx ?_ | (refine VC ?_; intro J)); simp only [↓Ve, ↓Vf, ↓Vs, ↓Vl, ↓YU, ↓Vb, ↓Vu, ↓Ym, ↓Vk, ↓VI, ↓Vh, ↓YD, ↓Vj, ↓Yg, ↓Yy, ↓Ys, ↓Yo, ↓Yp, ↓Ye, Yc, ZA, ZS, Yb, Yr, ZF, Zx, ZD, ZT, ZX, ZO, Yd, YG, ZZ, YT, Yn, ZJ, YL, YK, Vc, Yw, ZU, ZR, YC, ZQ, ZV, ZH, YV, Vq, Vd, Vt, Vi, Vr, Va, Vo, Vg, YY, YJ, Yi, Zm, Zh, Zc, Zb, ZC, Zu, ZB, ZL, ZI, ZM, ZG, ZE, YF, Zz, Zy, Zw, Zt, Zr, Zo, Zv, Zn, Zi, Zp, Zl, Zd, Zk, Ze, Zj, Zf, Zg, Za, Yq, YB, Yv, ZW, Yx, YX, YZ, Vm, YW, Yj, YH, Vp, Vn, Zq, Zs, YM, YE, Yk, Yz, Yl, Yu, YA, Yt, Yh, YI, ZP, ZY, List.cons_append, List.nil_append, Bool.not_true, Bool.not_false, ZN, YS, YR, YQ]
      refine spec_is_whole _ _ _ _ _ _ ra.1 (by lia) ?_
      (try simp only [↓Ve, ↓Vf, ↓Vs, ↓Vl, ↓YU, ↓Vb, ↓Vu, ↓Ym, ↓Vk, ↓VI, ↓Vh, ↓YD, ↓Vj, ↓Yg, ↓Yy, ↓Ys, ↓Yo, ↓Yp, ↓Ye, Yc, ZA, ZS, Yb, Yr, ZF, Zx, ZD, ZT, ZX, ZO, Yd, YG, ZZ, YT, Yn, ZJ, YL, YK, Vc, Yw, ZU, ZR, YC, ZQ, ZV, ZH, YV, Vq, Vd, Vt, Vi, Vr, Va, Vo, Vg, YY, YJ, Yi, Zm, Zh, Zc, Zb, ZC, Zu, ZB, ZL, ZI, ZM, ZG, ZE, YF, Zz, Zy, Zw, Zt, Zr, Zo, Zv, Zn, Zi, Zp, Zl, Zd, Zk, Ze, Zj, Zf, Zg, Za, Yq, YB, Yv, ZW, Yx, YX, YZ, Vm, YW, Yj, YH, Vp, Vn, Zq, Zs, YM, YE, Yk, Yz, Yl, Yu, YA, Yt, Yh, YI, ZP, ZY, List.cons_append, List.nil_append, Bool.not_true, Bool.not_false, ZN, YS, YR, YQ])
      exact ⟨(by trivial), _, rfl⟩
    · rintro m H' ⟨rfl, t, rfl⟩
      (try (with_reducible (first | refine Vy ?_ | refine Vw ?_); intro J))
      exact ⟨rfl, t, rfl⟩
  rintro m H' ⟨rfl, t, rfl⟩
  (try (with_reducible (first | refine Vy ?_ | refine Vw ?_); intro J))
  (try simp only [↓Ve, ↓Vf, ↓Vs, ↓Vl, ↓YU, ↓Vb, ↓Vu, ↓Ym, ↓Vk, ↓VI, ↓Vh, ↓YD, ↓Vj, ↓Yg, ↓Yy, ↓Ys, ↓Yo, ↓Yp, ↓Ye, Yc, ZA, ZS, Yb, Yr, ZF, Zx, ZD, ZT, ZX, ZO, Yd, YG, ZZ, YT, Yn, ZJ, YL, YK, Vc, Yw, ZU, ZR, YC, ZQ, ZV, ZH, YV, Vq, Vd, Vt, Vi, Vr, Va, Vo, Vg, YY, YJ, Yi, Zm, Zh, Zc, Zb, ZC, Zu, ZB, ZL, ZI, ZM, ZG, ZE, YF, Zz, Zy, Zw, Zt, Zr, Zo, Zv, Zn, Zi, Zp, Zl, Zd, Zk, Ze, Zj, Zf, Zg, Za, Yq, YB, Yv, ZW, Yx, YX, YZ, Vm, YW, Yj, YH, Vp, Vn, Zq, Zs, YM, YE, Yk, Yz, Yl, Yu, YA, Yt, Yh, YI, ZP, ZY, List.cons_append, List.nil_append, Bool.not_true, Bool.not_false, ZN, YS, YR, YQ])
  exact h

/-- the gaps -/
noncomputable def gapsL (A S : List Int) : List Int := (List.range S.length).map fun k => (co S k - pws A (k + 1)) % 251
theorem gapsL_len (A S : List Int) : (gapsL A S).length = S.length := by simp [gapsL]
theorem gapsL_red (A S : List Int) : Red (gapsL A S) := fun a ha => by
  obtain ⟨t, _, rfl⟩ := List.mem_map.mp ha
  exact ⟨Int.emod_nonneg _ (by decide), Int.emod_lt_of_pos _ (by decide)⟩
theorem gapsL_co (A S : List Int) {k : Nat} (h : k < S.length) : co (gapsL A S) k = (co S k - pws A (k + 1)) % 251 := by
  rw [co_lt (by simp [gapsL, h])]; simp [gapsL]
theorem gapsL_zip (A S : List Int) : List.zipWith (fun x y => (x - y) % 251) S (sumsL A S.length) = gapsL A S := by
  refine list_co (by simp [gapsL, sumsL]) fun t ht => ?_
  have ht' : t < S.length := by simpa [sumsL] using ht
  rw [gapsL_co A S ht', co_lt ht, List.getElem_zipWith, ← co_lt, ← co_lt, sumsL_co A ht']
  lia

theorem wp_zip {C : Calls} (f : Int → Int → Int) {elt : X} (he : ∀ x y (R : V → Prop), R (.int (f x y)) → wpE C elt [some (.int x), some (.int y)] [] fun v _ => R v) :
    ∀ (X Y : List Int) (acc : List V) (P : List V → Prop), P (acc ++ zl (List.zipWith f X Y)) → wpZip (fun x y P' => wpE C elt [some (.int x), some (.int y)] [] fun v _ => P' v) X Y acc P
  | [], Y, acc, P, h => by simp only [List.zipWith_nil_left, zl, List.map_nil, List.append_nil] at h; exact h
  | x :: X, [], acc, P, h => by simp only [List.zipWith_nil_right, zl, List.map_nil, List.append_nil] at h; exact h
  | x :: X, y :: Y, acc, P, h => by
    rw [wpZip]
    refine he x y _ ?_
    refine wp_zip f he X Y _ P ?_
    simpa [zl] using h
theorem e_zcomp {C : Calls} {elt a b : X} {m : Loc} {H : Hp} {P : PV} (f : Int → Int → Int) (he : ∀ x y (R : V → Prop), R (.int (f x y)) → wpE C elt [some (.int x), some (.int y)] [] fun v _ => R v)
    (hC : LeC C C) (h : wpE C a m H fun v H₁ => ∃ X, v = .tup (zl X) ∧ wpE C b m H₁ fun w H₂ => ∃ k Y, w = .ref k ∧ H₂[k]? = some (zl Y) ∧ X.length = Y.length ∧ P (.ref H₂.length) (H₂ ++ [zl (List.zipWith f X Y)])) : wpE C (.zcomp elt a b) m H P := by
  simp only [VN, VJ, VU, VS, VO, VT, Wc, VW, VF, VY, VV, Wb, VZ, VM, VK, VX, VE, VL, VD]
  refine Wd hC a (fun v H₁ q => ?_) h
  obtain ⟨X, rfl, q⟩ := q
  refine Wd hC b (fun w H₂ q => ?_) q
  obtain ⟨k, Y, rfl, hk, hl, q⟩ := q
  show optV (some (zl X)) fun us => optV (some k) fun k => optV H₂[k]? fun vs => _
  rw [optV, optV, hk, optV, zl?_ints, optV, zl?_ints, optV]
  exact ⟨hl, wp_zip f he X Y [] _ (by simpa using q)⟩

theorem spec_gaps (n k : Nat) (A S : List Int) (c : Int) (H : Hp) (P : PV) (hk : H[k]? = some (zl A)) (nA : Num A) (dA : A.Nodup) (lA : A.length < 4000) (h0 : 0 ≤ c) (h1 : c ≤ 250) (rS : Red S) (l1 : 1 ≤ S.length) (l2 : S.length ≤ 12)
    (h : ∀ k' H', H <+: H' → H.length ≤ k' → H'[k']? = some (zl (gapsL A S)) → P (.tup [.int (c - A.length), .ref k']) H') : run T (n + 3) 29 [.ref k, .tup [.int c, .tup (zl S)]] H P := by
  refine run_succ (d := f_gaps) rfl rfl (by decide) ?_
  simp only [f_gaps, entry, List.map, List.replicate, Nat.reduceSub, List.cons_append, List.nil_append]
  (with_reducible first | refine Vx ?_ | (refine VC ?_; intro J)); simp only [↓Ve, ↓Vf, ↓Vs, ↓Vl, ↓YU, ↓Vb, ↓Vu, ↓Ym, ↓Vk, ↓VI, ↓Vh, ↓YD, ↓Vj, ↓Yg, ↓Yy, ↓Ys, ↓Yo, ↓Yp, ↓Ye, Yc, ZA, ZS, Yb, Yr, ZF, Zx, ZD, ZT, ZX, ZO, Yd, YG, ZZ, YT, Yn, ZJ, YL, YK, Vc, Yw, ZU, ZR, YC, ZQ, ZV, ZH, YV, Vq, Vd, Vt, Vi, Vr, Va, Vo, Vg, YY, YJ, Yi, Zm, Zh, Zc, Zb, ZC, Zu, ZB, ZL, ZI, ZM, ZG, ZE, YF, Zz, Zy, Zw, Zt, Zr, Zo, Zv, Zn, Zi, Zp, Zl, Zd, Zk, Ze, Zj, Zf, Zg, Za, Yq, YB, Yv, ZW, Yx, YX, YZ, Vm, YW, Yj, YH, Vp, Vn, Zq, Zs, YM, YE, Yk, Yz, Yl, Yu, YA, Yt, Yh, YI, ZP, ZY, List.cons_append, List.nil_append, Bool.not_true, Bool.not_false, ZN, YS, YR, YQ]
  refine spec_need_row _ _ A _ _ hk nA dA lA ?_
  (try simp only [↓Ve, ↓Vf, ↓Vs, ↓Vl, ↓YU, ↓Vb, ↓Vu, ↓Ym, ↓Vk, ↓VI, ↓Vh, ↓YD, ↓Vj, ↓Yg, ↓Yy, ↓Ys, ↓Yo, ↓Yp, ↓Ye, Yc, ZA, ZS, Yb, Yr, ZF, Zx, ZD, ZT, ZX, ZO, Yd, YG, ZZ, YT, Yn, ZJ, YL, YK, Vc, Yw, ZU, ZR, YC, ZQ, ZV, ZH, YV, Vq, Vd, Vt, Vi, Vr, Va, Vo, Vg, YY, YJ, Yi, Zm, Zh, Zc, Zb, ZC, Zu, ZB, ZL, ZI, ZM, ZG, ZE, YF, Zz, Zy, Zw, Zt, Zr, Zo, Zv, Zn, Zi, Zp, Zl, Zd, Zk, Ze, Zj, Zf, Zg, Za, Yq, YB, Yv, ZW, Yx, YX, YZ, Vm, YW, Yj, YH, Vp, Vn, Zq, Zs, YM, YE, Yk, Yz, Yl, Yu, YA, Yt, Yh, YI, ZP, ZY, List.cons_append, List.nil_append, Bool.not_true, Bool.not_false, ZN, YS, YR, YQ])
  (with_reducible first | refine Vx ?_ | (refine VC ?_; intro J)); simp only [↓Ve, ↓Vf, ↓Vs, ↓Vl, ↓YU, ↓Vb, ↓Vu, ↓Ym, ↓Vk, ↓VI, ↓Vh, ↓YD, ↓Vj, ↓Yg, ↓Yy, ↓Ys, ↓Yo, ↓Yp, ↓Ye, Yc, ZA, ZS, Yb, Yr, ZF, Zx, ZD, ZT, ZX, ZO, Yd, YG, ZZ, YT, Yn, ZJ, YL, YK, Vc, Yw, ZU, ZR, YC, ZQ, ZV, ZH, YV, Vq, Vd, Vt, Vi, Vr, Va, Vo, Vg, YY, YJ, Yi, Zm, Zh, Zc, Zb, ZC, Zu, ZB, ZL, ZI, ZM, ZG, ZE, YF, Zz, Zy, Zw, Zt, Zr, Zo, Zv, Zn, Zi, Zp, Zl, Zd, Zk, Ze, Zj, Zf, Zg, Za, Yq, YB, Yv, ZW, Yx, YX, YZ, Vm, YW, Yj, YH, Vp, Vn, Zq, Zs, YM, YE, Yk, Yz, Yl, Yu, YA, Yt, Yh, YI, ZP, ZY, List.cons_append, List.nil_append, Bool.not_true, Bool.not_false, ZN, YS, YR, YQ]
  refine spec_need_letter _ _ _ _ _ h0 h1 rS l1 l2 ?_
  (try simp only [↓Ve, ↓Vf, ↓Vs, ↓Vl, ↓YU, ↓Vb, ↓Vu, ↓Ym, ↓Vk, ↓VI, ↓Vh, ↓YD, ↓Vj, ↓Yg, ↓Yy, ↓Ys, ↓Yo, ↓Yp, ↓Ye, Yc, ZA, ZS, Yb, Yr, ZF, Zx, ZD, ZT, ZX, ZO, Yd, YG, ZZ, YT, Yn, ZJ, YL, YK, Vc, Yw, ZU, ZR, YC, ZQ, ZV, ZH, YV, Vq, Vd, Vt, Vi, Vr, Va, Vo, Vg, YY, YJ, Yi, Zm, Zh, Zc, Zb, ZC, Zu, ZB, ZL, ZI, ZM, ZG, ZE, YF, Zz, Zy, Zw, Zt, Zr, Zo, Zv, Zn, Zi, Zp, Zl, Zd, Zk, Ze, Zj, Zf, Zg, Za, Yq, YB, Yv, ZW, Yx, YX, YZ, Vm, YW, Yj, YH, Vp, Vn, Zq, Zs, YM, YE, Yk, Yz, Yl, Yu, YA, Yt, Yh, YI, ZP, ZY, List.cons_append, List.nil_append, Bool.not_true, Bool.not_false, ZN, YS, YR, YQ])
  (with_reducible first | refine Vx ?_ | (refine VC ?_; intro J)); simp only [↓Ve, ↓Vf, ↓Vs, ↓Vl, ↓YU, ↓Vb, ↓Vu, ↓Ym, ↓Vk, ↓VI, ↓Vh, ↓YD, ↓Vj, ↓Yg, ↓Yy, ↓Ys, ↓Yo, ↓Yp, ↓Ye, Yc, ZA, ZS, Yb, Yr, ZF, Zx, ZD, ZT, ZX, ZO, Yd, YG, ZZ, YT, Yn, ZJ, YL, YK, Vc, Yw, ZU, ZR, YC, ZQ, ZV, ZH, YV, Vq, Vd, Vt, Vi, Vr, Va, Vo, Vg, YY, YJ, Yi, Zm, Zh, Zc, Zb, ZC, Zu, ZB, ZL, ZI, ZM, ZG, ZE, YF, Zz, Zy, Zw, Zt, Zr, Zo, Zv, Zn, Zi, Zp, Zl, Zd, Zk, Ze, Zj, Zf, Zg, Za, Yq, YB, Yv, ZW, Yx, YX, YZ, Vm, YW, Yj, YH, Vp, Vn, Zq, Zs, YM, YE, Yk, Yz, Yl, Yu, YA, Yt, Yh, YI, ZP, ZY, List.cons_append, List.nil_append, Bool.not_true, Bool.not_false, ZN, YS, YR, YQ]
  refine Wa (by decide) rfl ?_
  (try simp only [↓Ve, ↓Vf, ↓Vs, ↓Vl, ↓YU, ↓Vb, ↓Vu, ↓Ym, ↓Vk, ↓VI, ↓Vh, ↓YD, ↓Vj, ↓Yg, ↓Yy, ↓Ys, ↓Yo, ↓Yp, ↓Ye, Yc, ZA, ZS, Yb, Yr, ZF, Zx, ZD, ZT, ZX, ZO, Yd, YG, ZZ, YT, Yn, ZJ, YL, YK, Vc, Yw, ZU, ZR, YC, ZQ, ZV, ZH, YV, Vq, Vd, Vt, Vi, Vr, Va, Vo, Vg, YY, YJ, Yi, Zm, Zh, Zc, Zb, ZC, Zu, ZB, ZL, ZI, ZM, ZG, ZE, YF, Zz, Zy, Zw, Zt, Zr, Zo, Zv, Zn, Zi, Zp, Zl, Zd, Zk, Ze, Zj, Zf, Zg, Za, Yq, YB, Yv, ZW, Yx, YX, YZ, Vm, YW, Yj, YH, Vp, Vn, Zq, Zs, YM, YE, Yk, Yz, Yl, Yu, YA, Yt, Yh, YI, ZP, ZY, List.cons_append, List.nil_append, Bool.not_true, Bool.not_false, ZN, YS, YR, YQ, VR])
  refine spec_sums_of _ _ A S.length _ _ hk (by lia) fun H' hp => ?_
  (try simp only [↓Ve, ↓Vf, ↓Vs, ↓Vl, ↓YU, ↓Vb, ↓Vu, ↓Ym, ↓Vk, ↓VI, ↓Vh, ↓YD, ↓Vj, ↓Yg, ↓Yy, ↓Ys, ↓Yo, ↓Yp, ↓Ye, Yc, ZA, ZS, Yb, Yr, ZF, Zx, ZD, ZT, ZX, ZO, Yd, YG, ZZ, YT, Yn, ZJ, YL, YK, Vc, Yw, ZU, ZR, YC, ZQ, ZV, ZH, YV, Vq, Vd, Vt, Vi, Vr, Va, Vo, Vg, YY, YJ, Yi, Zm, Zh, Zc, Zb, ZC, Zu, ZB, ZL, ZI, ZM, ZG, ZE, YF, Zz, Zy, Zw, Zt, Zr, Zo, Zv, Zn, Zi, Zp, Zl, Zd, Zk, Ze, Zj, Zf, Zg, Za, Yq, YB, Yv, ZW, Yx, YX, YZ, Vm, YW, Yj, YH, Vp, Vn, Zq, Zs, YM, YE, Yk, Yz, Yl, Yu, YA, Yt, Yh, YI, ZP, ZY, List.cons_append, List.nil_append, Bool.not_true, Bool.not_false, ZN, YS, YR, YQ])
  have o1 : (H' ++ [zl (sumsL A S.length)])[H'.length]? = some (zl (sumsL A S.length)) := VP
  have p1 : H <+: H' ++ [zl (sumsL A S.length)] := pre_app hp
  generalize H' ++ [zl (sumsL A S.length)] = H1 at *
  (with_reducible first | refine Vx ?_ | (refine VC ?_; intro J)); simp only [↓Ve, ↓Vf, ↓Vs, ↓Vl, ↓YU, ↓Vb, ↓Vu, ↓Ym, ↓Vk, ↓VI, ↓Vh, ↓YD, ↓Vj, ↓Yg, ↓Yy, ↓Ys, ↓Yo, ↓Yp, ↓Ye, Yc, ZA, ZS, Yb, Yr, ZF, Zx, ZD, ZT, ZX, ZO, Yd, YG, ZZ, YT, Yn, ZJ, YL, YK, Vc, Yw, ZU, ZR, YC, ZQ, ZV, ZH, YV, Vq, Vd, Vt, Vi, Vr, Va, Vo, Vg, YY, YJ, Yi, Zm, Zh, Zc, Zb, ZC, Zu, ZB, ZL, ZI, ZM, ZG, ZE, YF, Zz, Zy, Zw, Zt, Zr, Zo, Zv, Zn, Zi, Zp, Zl, Zd, Zk, Ze, Zj, Zf, Zg, Za, Yq, YB, Yv, ZW, Yx, YX, YZ, Vm, YW, Yj, YH, Vp, Vn, Zq, Zs, YM, YE, Yk, Yz, Yl, Yu, YA, Yt, Yh, YI, ZP, ZY, List.cons_append, List.nil_append, Bool.not_true, Bool.not_false, ZN, YS, YR, YQ]
  refine Wa (by decide) rfl ?_
  (try simp only [↓Ve, ↓Vf, ↓Vs, ↓Vl, ↓YU, ↓Vb, ↓Vu, ↓Ym, ↓Vk, ↓VI, ↓Vh, ↓YD, ↓Vj, ↓Yg, ↓Yy, ↓Ys, ↓Yo, ↓Yp, ↓Ye, Yc, ZA, ZS, Yb, Yr, ZF, Zx, ZD, ZT, ZX, ZO, Yd, YG, ZZ, YT, Yn, ZJ, YL, YK, Vc, Yw, ZU, ZR, YC, ZQ, ZV, ZH, YV, Vq, Vd, Vt, Vi, Vr, Va, Vo, Vg, YY, YJ, Yi, Zm, Zh, Zc, Zb, ZC, Zu, ZB, ZL, ZI, ZM, ZG, ZE, YF, Zz, Zy, Zw, Zt, Zr, Zo, Zv, Zn, Zi, Zp, Zl, Zd, Zk, Ze, Zj, Zf, Zg, Za, Yq, YB, Yv, ZW, Yx, YX, YZ, Vm, YW, Yj, YH, Vp, Vn, Zq, Zs, YM, YE, Yk, Yz, Yl, Yu, YA, Yt, Yh, YI, ZP, ZY, List.cons_append, List.nil_append, Bool.not_true, Bool.not_false, ZN, YS, YR, YQ, VH (Vz p1 hk), VR])
  refine e_zcomp (fun x y => (x - y) % 251) (fun x y R hR => ?_) (VB _ _) ?_
  · (try simp only [↓Ve, ↓Vf, ↓Vs, ↓Vl, ↓YU, ↓Vb, ↓Vu, ↓Ym, ↓Vk, ↓VI, ↓Vh, ↓YD, ↓Vj, ↓Yg, ↓Yy, ↓Ys, ↓Yo, ↓Yp, ↓Ye, Yc, ZA, ZS, Yb, Yr, ZF, Zx, ZD, ZT, ZX, ZO, Yd, YG, ZZ, YT, Yn, ZJ, YL, YK, Vc, Yw, ZU, ZR, YC, ZQ, ZV, ZH, YV, Vq, Vd, Vt, Vi, Vr, Va, Vo, Vg, YY, YJ, Yi, Zm, Zh, Zc, Zb, ZC, Zu, ZB, ZL, ZI, ZM, ZG, ZE, YF, Zz, Zy, Zw, Zt, Zr, Zo, Zv, Zn, Zi, Zp, Zl, Zd, Zk, Ze, Zj, Zf, Zg, Za, Yq, YB, Yv, ZW, Yx, YX, YZ, Vm, YW, Yj, YH, Vp, Vn, Zq, Zs, YM, YE, Yk, Yz, Yl, Yu, YA, Yt, Yh, YI, ZP, ZY, List.cons_append, List.nil_append, Bool.not_true, Bool.not_false, ZN, YS, YR, YQ])
    exact ⟨by decide, hR⟩
  (try simp only [↓Ve, ↓Vf, ↓Vs, ↓Vl, ↓YU, ↓Vb, ↓Vu, ↓Ym, ↓Vk, ↓VI, ↓Vh, ↓YD, ↓Vj, ↓Yg, ↓Yy, ↓Ys, ↓Yo, ↓Yp, ↓Ye, Yc, ZA, ZS, Yb, Yr, ZF, Zx, ZD, ZT, ZX, ZO, Yd, YG, ZZ, YT, Yn, ZJ, YL, YK, Vc, Yw, ZU, ZR, YC, ZQ, ZV, ZH, YV, Vq, Vd, Vt, Vi, Vr, Va, Vo, Vg, YY, YJ, Yi, Zm, Zh, Zc, Zb, ZC, Zu, ZB, ZL, ZI, ZM, ZG, ZE, YF, Zz, Zy, Zw, Zt, Zr, Zo, Zv, Zn, Zi, Zp, Zl, Zd, Zk, Ze, Zj, Zf, Zg, Za, Yq, YB, Yv, ZW, Yx, YX, YZ, Vm, YW, Yj, YH, Vp, Vn, Zq, Zs, YM, YE, Yk, Yz, Yl, Yu, YA, Yt, Yh, YI, ZP, ZY, List.cons_append, List.nil_append, Bool.not_true, Bool.not_false, ZN, YS, YR, YQ])
  refine Wa (by decide) rfl ⟨S, rfl, H'.length, _, rfl, o1, (sumsL_len _ _).symm, ?_⟩
  rw [gapsL_zip]
  exact h _ _ (pre_app p1) p1.length_le VP

/-- free rests -/
noncomputable def freeL (c : Int) (many : Nat) : List Int := (List.range many).map fun k : Nat => (c + 7919 * (k : Int)) * 48271 % 1000003 % 251
theorem freeL_len (c : Int) (m : Nat) : (freeL c m).length = m := by simp [freeL]
theorem freeL_red (c : Int) (m : Nat) : Red (freeL c m) := fun a ha => by
  obtain ⟨t, _, rfl⟩ := List.mem_map.mp ha
  exact ⟨Int.emod_nonneg _ (by decide), Int.emod_lt_of_pos _ (by decide)⟩
end Mine

namespace Mine

/-- where the division with the lower ones stands -/
noncomputable def FI (N up : Nat) (S : PS) (A R M L : List Int) : Prop :=
  (Red A ∧ Trim A) ∧ (Red R ∧ Trim R) ∧ (Red M ∧ Trim M) ∧ (Red L ∧ Trim L) ∧ al N (ps R) (pm (ps L) S) ∧ al N (ps A) (pm (ps M) S) ∧
  (∃ e : F, e ≠ 0 ∧ pb (pm (ps A) (ps L)) (pm (ps R) (ps M)) = mo e N) ∧ A.length + L.length = N + 2 ∧ R.length < A.length ∧ M.length < L.length ∧ up + 1 < A.length

theorem len_of {R K : List Int} {Z : PS} {N : Nat} {e : F} (he : e ≠ 0) (hR : Red R ∧ Trim R) (hK : Red K ∧ Trim K) (nR : R ≠ []) (hZ : dg Z N) (h : pb (pm (ps R) (ps K)) Z = mo e N) : R.length + K.length = N + 2 := by
  have at' : ∀ t, pm (ps R) (ps K) t - Z t = mo e N t := fun t => congrFun h t
  have aN := at' N
  rw [hZ N (Nat.le_refl _), show mo e N N = e from if_pos rfl] at aN
  obtain ⟨m, hm⟩ : ∃ m, R.length = m + 1 := ⟨R.length - 1, by have := List.length_pos_iff.mpr nR; lia⟩
  have dR : dg (ps R) (m + 1) := hm ▸ ps_dg R
  obtain ⟨n, hn⟩ : ∃ n, K.length = n + 1 := by
    cases q : K.length with
    | succ n => exact ⟨n, rfl⟩
    | zero =>
      exfalso; apply he
      rw [← aN, show pm (ps R) (ps K) N = 0 from ml_low (n := 0) fun i _ => ps_dg K i (by lia)]; grind
  have dK : dg (ps K) (n + 1) := hn ▸ ps_dg K
  have top : pm (ps R) (ps K) (m + n) = ps R m * ps K n := ml_top dK dR
  have tn : ps R m * ps K n ≠ 0 := fun q => (f_mul q).elim (ps_top hR.1 hR.2 hm) (ps_top hK.1 hK.2 hn)
  rcases Nat.lt_trichotomy (m + n) N with c | c | c
  · exfalso; apply he
    rw [← aN, show pm (ps R) (ps K) N = 0 from ml_dg dK dR (by lia)]; grind
  · lia
  · exfalso; apply tn
    have := at' (m + n)
    rw [top, hZ _ (by lia), show mo e N (m + n) = 0 from if_neg (by lia)] at this
    rw [← this]; grind

theorem rg_13 {R : Type} [Lean.Grind.CommRing R] {a q r z : R} (h : a = q * r + z) : z = a - q * r := by grind
theorem rg_14 {R : Type} [Lean.Grind.CommRing R] {A L Rr M q rs ms X : R} (h : A * L - Rr * M = X) (h1 : A = q * Rr + rs) (h2 : ms = M - q * L) : Rr * ms - rs * L = -X := by grind
theorem rg_15 {R : Type} [Lean.Grind.CommRing R] (M S q L : R) : M * S - q * (L * S) = (M - q * L) * S := by grind
theorem fi_step {N up : Nat} {S : PS} {A R M L qs rs ms : List Int} (I : FI N up S A R M L) (hR : up + 1 < R.length) (hr : Red rs ∧ Trim rs) (hm : Red ms ∧ Trim ms) (hlt : rs.length < R.length)
    (hq : ps A = pa (pm (ps qs) (ps R)) (ps rs)) (hms : ps ms = pb (ps M) (pm (ps qs) (ps L))) : FI N up S R rs L ms := by
  obtain ⟨hA, hR', hM, hL, aR, aA, ⟨e, he, det⟩, hl, hRA, hML, hup⟩ := I
  have nR : R ≠ [] := fun q => by rw [q] at hR; simp at hR
  have e1 : ps rs = pb (ps A) (pm (ps qs) (ps R)) := @rg_13 PS psRing (ps A) (ps qs) (ps R) (ps rs) hq
  have e2 : pb (pm (ps R) (ps ms)) (pm (ps rs) (ps L)) = mo (-e) N := by
    refine (@rg_14 PS psRing (ps A) (ps L) (ps R) (ps M) (ps qs) (ps rs) (ps ms) _ det hq hms).trans ?_
    funext t
    show - (if t = N then e else 0) = if t = N then -e else 0
    split <;> grind
  have he' : -e ≠ 0 := fun q => he (by grind)
  have hl' := len_of he' hR' hm nR (dg_m (ps_dg rs) (ps_dg L) (by lia)) e2
  refine ⟨hR', hr, hL, hm, ?_, aR, ⟨-e, he', e2⟩, hl', hlt, by lia, hR⟩
  have e3 : pm (ps ms) S = pb (pm (ps M) S) (pm (ps qs) (pm (ps L) S)) := by
    rw [hms]; exact (@rg_15 PS psRing (ps M) S (ps qs) (ps L)).symm
  rw [e1, e3]
  intro t ht
  show ps A t - pm (ps qs) (ps R) t = pm (ps M) S t - pm (ps qs) (pm (ps L) S) t
  rw [aA t ht, al_m (al_refl N (ps qs)) aR t ht]

theorem fi_start {N up : Nat} {xs R : List Int} (hx : Red R ∧ Trim R) (hR : ∀ t, co R t = if t < N then co xs t else 0) (hl : R.length ≤ N) (hup : up < N) : FI N up (ps xs) (List.replicate N 0 ++ [1]) R [] [1] := by
  have c1 : ∀ t, co (List.replicate N 0 ++ [1]) t = if t = N then 1 else 0 := fun t => by
    rcases Nat.lt_trichotomy t N with c | c | c
    · rw [co_lt (by simp; lia), List.getElem_append_left (by simpa using c), if_neg (by lia)]; simp
    · subst c; rw [co_lt (by simp), List.getElem_append_right (by simp), if_pos rfl]; simp
    · rw [co_ge (by simp; lia), if_neg (by lia)]
  have pA : ps (List.replicate N 0 ++ [1]) = mo 1 N := funext fun t => by
    rw [ps, c1]
    show fz (if t = N then 1 else 0) = if t = N then 1 else 0
    split <;> rfl
  have p1 : ps [1] = pc 1 := funext fun t => by
    show fz (co [1] t) = if t = 0 then 1 else 0
    cases t with
    | zero => rfl
    | succ t => rw [co_ge (by simp), if_neg (by lia)]; rfl
  have one : ∀ f : PS, pm (pc 1) f = f := fun f => funext fun t => by rw [show pm (pc 1) f t = 1 * f t from ml_cs 1 t]; grind
  refine ⟨⟨fun a ha => ?_, by simp [Trim]⟩, hx, ⟨red_nil, by simp [Trim]⟩, ⟨fun a ha => ?_, by simp [Trim]⟩, fun t ht => ?_, fun t ht => ?_, ⟨1, by decide, funext fun t => ?_⟩, by simp, by simp; lia, by simp, by simp; lia⟩
  · rcases List.mem_append.mp ha with q | q
    · rw [List.mem_replicate] at q; lia
    · simp only [List.mem_singleton] at q; lia
  · simp only [List.mem_singleton] at ha; lia
  · rw [p1, one, ps, ps, hR, if_pos ht]
  · rw [pA, ps_nil]
    show (if t = N then 1 else 0) = ml (fun _ => 0) _ t
    rw [if_neg (by lia), ml_zero]
  · rw [pA, p1, ps_nil]
    show ml (mo 1 N) (pc 1) t - ml _ (fun _ => 0) t = _
    rw [ml_comm t (mo 1 N), show ml (pc 1) (mo 1 N) t = 1 * mo 1 N t from ml_cs 1 t, ml_comm t (ps R), ml_zero]; grind

/-- no factor in common -/
noncomputable def Cop (U V : PS) : Prop := ∀ g u v, Pol g → Pol u → Pol v → U = pm u g → V = pm v g → g 0 ≠ 0 ∧ ∀ t, 0 < t → g t = 0
theorem rg_16 {R : Type} [Lean.Grind.CommRing R] {r f c u g : R} (h : r * f = u * g) (h1 : f * c = 1) : r = (u * c) * g := by grind
theorem ps_single (f : Int) : ps [f] = pc (fz f) := funext fun t => by
  show fz (co [f] t) = if t = 0 then fz f else 0
  cases t with
  | zero => rfl
  | succ t => rw [co_ge (by simp), if_neg (by lia)]; rfl
theorem fi_end {N up : Nat} {S : PS} {A R M L us ls : List Int} {f : Int} (I : FI N up S A R M L) (hR : R.length ≤ up + 1) (h0 : fz (co L 0) * fz f = 1) (hu : Red us ∧ Trim us) (hl : Red ls ∧ Trim ls)
    (eu : ps us = pm (ps R) (ps [f])) (el : ps ls = pm (ps L) (ps [f])) : us.length ≤ up + 1 ∧ ls.length + up ≤ N ∧ co ls 0 = 1 ∧ al N (ps us) (pm (ps ls) S) ∧ Cop (ps us) (ps ls) := by
  obtain ⟨hA, hR', hM, hL, aR, aA, ⟨e, he, det⟩, hlen, hRA, hML, hup⟩ := I
  rw [ps_single] at eu el
  have d1 : dg (ps [f]) 1 := ps_dg [f]
  rw [ps_single] at d1
  have l1 : us.length ≤ R.length := ps_len hu.1 hu.2 (eu ▸ dg_m (ps_dg R) d1 (by lia))
  have l2 : ls.length ≤ L.length := ps_len hl.1 hl.2 (el ▸ dg_m (ps_dg L) d1 (by lia))
  refine ⟨by lia, by lia, ?_, ?_, ?_⟩
  · have : fz (co ls 0) = 1 := by rw [show fz (co ls 0) = pm (ps L) (pc (fz f)) 0 from congrFun el 0]; exact h0
    exact fz_inj (co_red hl.1 0) (by lia) (this.trans fz_one.symm)
  · rw [eu, el, show pm (pm (ps L) (pc (fz f))) S = pm (pm (ps L) S) (pc (fz f)) from @rg_4 PS psRing (ps L) (pc (fz f)) S]
    exact al_m aR (al_refl _ _)
  · intro g u v pg pu pv hu' hv'
    have fc : pm (pc (fz f)) (pc (fz (co L 0))) = pc (0 + 1) := funext fun t => by
      rw [show pm (pc (fz f)) (pc (fz (co L 0))) t = fz f * pc (fz (co L 0)) t from ml_cs _ t]
      show fz f * (if t = 0 then _ else 0) = if t = 0 then _ else 0
      split <;> grind
    have eR : ps R = pm (pm u (pc (fz (co L 0)))) g := @rg_16 PS psRing (ps R) (pc (fz f)) (pc (fz (co L 0))) u g (eu.symm.trans hu') fc
    have eL : ps L = pm (pm v (pc (fz (co L 0)))) g := @rg_16 PS psRing (ps L) (pc (fz f)) (pc (fz (co L 0))) v g (el.symm.trans hv') fc
    refine apart_of he det (pol_ps A) (pol_ps M) pg (pol_m pu (pol_c _)) (pol_m pv (pol_c _)) eR eL fun q => ?_
    rw [show fz (co L 0) = 0 from q] at h0
    exact absurd h0 (by grind)

end Mine

namespace Mine

end Mine

--STEP: ZN, YS, YR, YQ
open PySem
set_option linter.unusedSimpArgs false
set_option linter.unusedVariables false
namespace Mine

theorem co_append {xs : List Int} {a : Int} {t : Nat} (h : t < xs.length) : co (xs ++ [a]) t = co xs t := by
  rw [co_lt (by simp; lia), List.getElem_append_left h, ← co_lt h]
theorem co_last (xs : List Int) (a : Int) : co (xs ++ [a]) xs.length = a := by
  rw [co_lt (by simp), List.getElem_append_right (by lia)]; simp
theorem cv_congr {f g f' g' : Nat → Int} {t : Nat} (h1 : ∀ i, i ≤ t → f i = f' i) (h2 : ∀ i, i ≤ t → g i = g' i) : cv f g t = cv f' g' t := sm_congr fun i hi => by rw [h1 i (by lia), h2 (t - i) (by lia)]

/-- the recursion of the series -/
noncomputable def Ser (S C : List Int) : Prop := Red C ∧ C.length = S.length + 1 ∧ co C 0 = 1 ∧ ∀ q, q < S.length → ((q + 1 : Int) * co C (q + 1) + cv (co S) (co C) q) % 251 = 0

theorem spec_series (n k : Nat) (S : List Int) (H : Hp) (P : PV) (hk : H[k]? = some (zl S)) (rS : Red S) (lS : S.length ≤ 200) (h : ∀ k' C H', H <+: H' → H.length ≤ k' → H'[k']? = some (zl C) → Ser S C → P (.ref k') H') : run T (n + 3) 32 [.ref k] H P := by
  --EXPL
  refine run_succ (d := f_series) rfl rfl (by decide) ?_
  simp only [f_series, entry, List.map, List.replicate, Nat.reduceSub, List.cons_append, List.nil_append]
  (with_reducible first | refine Vx ?_ | (refine VC ?_; intro J)); simp -implicitDefEqProofs only [↓Ve, ↓Vf, ↓Vs, ↓Vl, ↓YU, ↓Vb, ↓Vu, ↓Ym, ↓Vk, ↓VI, ↓Vh, ↓YD, ↓Vj, ↓Yg, ↓Yy, ↓Ys, ↓Yo, ↓Yp, ↓Ye, Yc, ZA, ZS, Yb, Yr, ZF, Zx, ZD, ZT, ZX, ZO, Yd, YG, ZZ, YT, Yn, ZJ, YL, YK, Vc, Yw, ZU, ZR, YC, ZQ, ZV, ZH, YV, Vq, Vd, Vt, Vi, Vr, Va, Vo, Vg, YY, YJ, Yi, Zm, Zh, Zc, Zb, ZC, Zu, ZB, ZL, ZI, ZM, ZG, ZE, YF, Zz, Zy, Zw, Zt, Zr, Zo, Zv, Zn, Zi, Zp, Zl, Zd, Zk, Ze, Zj, Zf, Zg, Za, Yq, YB, Yv, ZW, Yx, YX, YZ, Vm, YW, Yj, YH, Vp, Vn, Zq, Zs, YM, YE, Yk, Yz, Yl, Yu, YA, Yt, Yh, YI, ZP, ZY, List.cons_append, List.nil_append, Bool.not_true, Bool.not_false, ZN, YS, YR, YQ]
  (try change wpSs _ _ _ _ _)
  refine s_cut (VB _ _) (fun m' H' => Ex4 fun C t2 t3 t4 => And4 (H <+: H') (H'[H.length]? = some (zl C)) (Ser S C) (m' = [some (.ref k), some (.ref H.length), t2, t3, t4])) ?_ ?_
  · (try (with_reducible refine post_letS ?_; intro J))
    (try simp -implicitDefEqProofs only [↓Ve, ↓Vf, ↓Vs, ↓Vl, ↓YU, ↓Vb, ↓Vu, ↓Ym, ↓Vk, ↓VI, ↓Vh, ↓YD, ↓Vj, ↓Yg, ↓Yy, ↓Ys, ↓Yo, ↓Yp, ↓Ye, Yc, ZA, ZS, Yb, Yr, ZF, Zx, ZD, ZT, ZX, ZO, Yd, YG, ZZ, YT, Yn, ZJ, YL, YK, Vc, Yw, ZU, ZR, YC, ZQ, ZV, ZH, YV, Vq, Vd, Vt, Vi, Vr, Va, Vo, Vg, YY, YJ, Yi, Zm, Zh, Zc, Zb, ZC, Zu, ZB, ZL, ZI, ZM, ZG, ZE, YF, Zz, Zy, Zw, Zt, Zr, Zo, Zv, Zn, Zi, Zp, Zl, Zd, Zk, Ze, Zj, Zf, Zg, Za, Yq, YB, Yv, ZW, Yx, YX, YZ, Vm, YW, Yj, YH, Vp, Vn, Zq, Zs, YM, YE, Yk, Yz, Yl, Yu, YA, Yt, Yh, YI, ZP, ZY, List.cons_append, List.nil_append, Bool.not_true, Bool.not_false, ZN, YS, YR, YQ, VH (get_old (G := [[V.int 1]]) hk), VR])
    generalize hM : (S.length : Int) + 1 = M
    refine each_range (VB _ _) (by decide) (by lia) (fun q m' H' => Ex4 fun C t2 t3 t4 => And7 (H <+: H') (H'[H.length]? = some (zl C)) (Red C) (C.length = q + 1) (co C 0 = 1) ((∀ p, p < q → ((p + 1 : Int) * co C (p + 1) + cv (co S) (co C) p) % 251 = 0)) (m' = [some (.ref k), some (.ref H.length), t2, t3, t4])) ?_ ?_ ?_
    · exact ⟨[1], none, none, none, List.prefix_append _ _, VP, fun a ha => by simp only [List.mem_singleton] at ha; lia, rfl, rfl, fun p hp => by lia, rfl⟩
    · rintro q m' H' hq ⟨C, t2, t3, t4, hp, hk', rC, lC, c0, hc, rfl⟩
      (try (with_reducible (first | refine Vy ?_ | refine Vw ?_); intro J))
      generalize hkk : (1 : Int) + (q : Int) = kk
      have hq' : q < S.length := by lia
      (try change wpSs _ _ _ _ _)
      rw [s_cons, ZA, Yd, Zu]
      simp -implicitDefEqProofs only [List.set_cons_succ, List.set_cons_zero]
      (try change wpSs _ _ _ _ _)
      refine s_cut (VB _ _) (fun m' H'' => H'' = H' ∧ ∃ t4, m' = [some (.ref k), some (.ref H.length), some (.int kk), some (.int (cv (co S) (co C) q)), t4]) ?_ ?_
      · (try (with_reducible refine post_letS ?_; intro J))
        (try simp -implicitDefEqProofs only [↓Ve, ↓Vf, ↓Vs, ↓Vl, ↓YU, ↓Vb, ↓Vu, ↓Ym, ↓Vk, ↓VI, ↓Vh, ↓YD, ↓Vj, ↓Yg, ↓Yy, ↓Ys, ↓Yo, ↓Yp, ↓Ye, Yc, ZA, ZS, Yb, Yr, ZF, Zx, ZD, ZT, ZX, ZO, Yd, YG, ZZ, YT, Yn, ZJ, YL, YK, Vc, Yw, ZU, ZR, YC, ZQ, ZV, ZH, YV, Vq, Vd, Vt, Vi, Vr, Va, Vo, Vg, YY, YJ, Yi, Zm, Zh, Zc, Zb, ZC, Zu, ZB, ZL, ZI, ZM, ZG, ZE, YF, Zz, Zy, Zw, Zt, Zr, Zo, Zv, Zn, Zi, Zp, Zl, Zd, Zk, Ze, Zj, Zf, Zg, Za, Yq, YB, Yv, ZW, Yx, YX, YZ, Vm, YW, Yj, YH, Vp, Vn, Zq, Zs, YM, YE, Yk, Yz, Yl, Yu, YA, Yt, Yh, YI, ZP, ZY, List.cons_append, List.nil_append, Bool.not_true, Bool.not_false, ZN, YS, YR, YQ])
        generalize hM2 : kk + 1 = M2
        refine each_range (VB _ _) (by decide) (by lia) (fun j m' H'' => H'' = H' ∧ ∃ t4, m' = [some (.ref k), some (.ref H.length), some (.int kk), some (.int (sm (fun i => co S i * co C (q - i)) j)), t4]) ⟨rfl, t4, rfl⟩ ?_ ?_
        · rintro j m' H'' hj ⟨rfl, t4, rfl⟩
          (try (with_reducible (first | refine Vy ?_ | refine Vw ?_); intro J))
          (with_reducible first | refine Vx ?_ | (refine VC ?_; intro J)); simp -implicitDefEqProofs only [↓Ve, ↓Vf, ↓Vs, ↓Vl, ↓YU, ↓Vb, ↓Vu, ↓Ym, ↓Vk, ↓VI, ↓Vh, ↓YD, ↓Vj, ↓Yg, ↓Yy, ↓Ys, ↓Yo, ↓Yp, ↓Ye, Yc, ZA, ZS, Yb, Yr, ZF, Zx, ZD, ZT, ZX, ZO, Yd, YG, ZZ, YT, Yn, ZJ, YL, YK, Vc, Yw, ZU, ZR, YC, ZQ, ZV, ZH, YV, Vq, Vd, Vt, Vi, Vr, Va, Vo, Vg, YY, YJ, Yi, Zm, Zh, Zc, Zb, ZC, Zu, ZB, ZL, ZI, ZM, ZG, ZE, YF, Zz, Zy, Zw, Zt, Zr, Zo, Zv, Zn, Zi, Zp, Zl, Zd, Zk, Ze, Zj, Zf, Zg, Za, Yq, YB, Yv, ZW, Yx, YX, YZ, Vm, YW, Yj, YH, Vp, Vn, Zq, Zs, YM, YE, Yk, Yz, Yl, Yu, YA, Yt, Yh, YI, ZP, ZY, List.cons_append, List.nil_append, Bool.not_true, Bool.not_false, ZN, YS, YR, YQ, VH (Vz hp hk)]
          refine item_zl (by lia) (by lia) ?_
          (try simp -implicitDefEqProofs only [↓Ve, ↓Vf, ↓Vs, ↓Vl, ↓YU, ↓Vb, ↓Vu, ↓Ym, ↓Vk, ↓VI, ↓Vh, ↓YD, ↓Vj, ↓Yg, ↓Yy, ↓Ys, ↓Yo, ↓Yp, ↓Ye, Yc, ZA, ZS, Yb, Yr, ZF, Zx, ZD, ZT, ZX, ZO, Yd, YG, ZZ, YT, Yn, ZJ, YL, YK, Vc, Yw, ZU, ZR, YC, ZQ, ZV, ZH, YV, Vq, Vd, Vt, Vi, Vr, Va, Vo, Vg, YY, YJ, Yi, Zm, Zh, Zc, Zb, ZC, Zu, ZB, ZL, ZI, ZM, ZG, ZE, YF, Zz, Zy, Zw, Zt, Zr, Zo, Zv, Zn, Zi, Zp, Zl, Zd, Zk, Ze, Zj, Zf, Zg, Za, Yq, YB, Yv, ZW, Yx, YX, YZ, Vm, YW, Yj, YH, Vp, Vn, Zq, Zs, YM, YE, Yk, Yz, Yl, Yu, YA, Yt, Yh, YI, ZP, ZY, List.cons_append, List.nil_append, Bool.not_true, Bool.not_false, ZN, YS, YR, YQ, VH hk'])
          refine item_zl (by lia) (by lia) ?_
          (try simp -implicitDefEqProofs only [↓Ve, ↓Vf, ↓Vs, ↓Vl, ↓YU, ↓Vb, ↓Vu, ↓Ym, ↓Vk, ↓VI, ↓Vh, ↓YD, ↓Vj, ↓Yg, ↓Yy, ↓Ys, ↓Yo, ↓Yp, ↓Ye, Yc, ZA, ZS, Yb, Yr, ZF, Zx, ZD, ZT, ZX, ZO, Yd, YG, ZZ, YT, Yn, ZJ, YL, YK, Vc, Yw, ZU, ZR, YC, ZQ, ZV, ZH, YV, Vq, Vd, Vt, Vi, Vr, Va, Vo, Vg, YY, YJ, Yi, Zm, Zh, Zc, Zb, ZC, Zu, ZB, ZL, ZI, ZM, ZG, ZE, YF, Zz, Zy, Zw, Zt, Zr, Zo, Zv, Zn, Zi, Zp, Zl, Zd, Zk, Ze, Zj, Zf, Zg, Za, Yq, YB, Yv, ZW, Yx, YX, YZ, Vm, YW, Yj, YH, Vp, Vn, Zq, Zs, YM, YE, Yk, Yz, Yl, Yu, YA, Yt, Yh, YI, ZP, ZY, List.cons_append, List.nil_append, Bool.not_true, Bool.not_false, ZN, YS, YR, YQ])
          rw [show (1 + (j : Int) - 1).toNat = j by lia, show (kk - (1 + (j : Int))).toNat = q - j by lia]
          exact ⟨.inl (red_small (co_red rS j)), (by trivial), _, rfl⟩
        · rintro m' H'' ⟨rfl, t4, rfl⟩
          (try (with_reducible (first | refine Vy ?_ | refine Vw ?_); intro J))
          rw [show (M2 - 1).toNat = q + 1 by lia]
          exact ⟨rfl, t4, rfl⟩
      rintro m' H'' ⟨rfl, t4, rfl⟩
      (try (with_reducible (first | refine Vy ?_ | refine Vw ?_); intro J))
      (with_reducible first | refine Vx ?_ | (refine VC ?_; intro J)); simp -implicitDefEqProofs only [↓Ve, ↓Vf, ↓Vs, ↓Vl, ↓YU, ↓Vb, ↓Vu, ↓Ym, ↓Vk, ↓VI, ↓Vh, ↓YD, ↓Vj, ↓Yg, ↓Yy, ↓Ys, ↓Yo, ↓Yp, ↓Ye, Yc, ZA, ZS, Yb, Yr, ZF, Zx, ZD, ZT, ZX, ZO, Yd, YG, ZZ, YT, Yn, ZJ, YL, YK, Vc, Yw, ZU, ZR, YC, ZQ, ZV, ZH, YV, Vq, Vd, Vt, Vi, Vr, Va, Vo, Vg, YY, YJ, Yi, Zm, Zh, Zc, Zb, ZC, Zu, ZB, ZL, ZI, ZM, ZG, ZE, YF, Zz, Zy, Zw, Zt, Zr, Zo, Zv, Zn, Zi, Zp, Zl, Zd, Zk, Ze, Zj, Zf, Zg, Za, Yq, YB, Yv, ZW, Yx, YX, YZ, Vm, YW, Yj, YH, Vp, Vn, Zq, Zs, YM, YE, Yk, Yz, Yl, Yu, YA, Yt, Yh, YI, ZP, ZY, List.cons_append, List.nil_append, Bool.not_true, Bool.not_false, ZN, YS, YR, YQ]
      refine spec_inverse _ _ _ _ ?_
      have hinv := inv_mul (a := kk) (fun e => by have := fz_eq_zero.mp e; lia)
      have rinv := inv_red kk
      generalize inv kk = v at hinv rinv
      (try simp -implicitDefEqProofs only [↓Ve, ↓Vf, ↓Vs, ↓Vl, ↓YU, ↓Vb, ↓Vu, ↓Ym, ↓Vk, ↓VI, ↓Vh, ↓YD, ↓Vj, ↓Yg, ↓Yy, ↓Ys, ↓Yo, ↓Yp, ↓Ye, Yc, ZA, ZS, Yb, Yr, ZF, Zx, ZD, ZT, ZX, ZO, Yd, YG, ZZ, YT, Yn, ZJ, YL, YK, Vc, Yw, ZU, ZR, YC, ZQ, ZV, ZH, YV, Vq, Vd, Vt, Vi, Vr, Va, Vo, Vg, YY, YJ, Yi, Zm, Zh, Zc, Zb, ZC, Zu, ZB, ZL, ZI, ZM, ZG, ZE, YF, Zz, Zy, Zw, Zt, Zr, Zo, Zv, Zn, Zi, Zp, Zl, Zd, Zk, Ze, Zj, Zf, Zg, Za, Yq, YB, Yv, ZW, Yx, YX, YZ, Vm, YW, Yj, YH, Vp, Vn, Zq, Zs, YM, YE, Yk, Yz, Yl, Yu, YA, Yt, Yh, YI, ZP, ZY, List.cons_append, List.nil_append, Bool.not_true, Bool.not_false, ZN, YS, YR, YQ])
      generalize hc' : -cv (co S) (co C) q * v % 251 = c
      have rc : 0 ≤ c ∧ c < 251 := by subst hc'; exact ⟨Int.emod_nonneg _ (by decide), Int.emod_lt_of_pos _ (by decide)⟩
      refine ⟨.inr (red_small rinv), by decide, withL_of hk' ⟨by rw [VR]; unfold room; lia, C ++ [c], _, _, _, pre_set hp (Nat.le_refl _), ?_, red_append rC rc.1 rc.2, by simp [lC], ?_, fun p hp => ?_, rfl⟩⟩
      · rw [set_get hk', zl_append]
      · rw [co_append (by lia), c0]
      · have e1 : cv (co S) (co (C ++ [c])) p = cv (co S) (co C) p := cv_congr (fun _ _ => rfl) fun i hi => co_append (by lia)
        rw [e1]
        rcases Nat.lt_or_ge p q with x | x
        · rw [co_append (by lia)]; exact hc p x
        · have : p = q := by lia
          subst this
          rw [show p + 1 = C.length by lia, co_last]
          rw [show ((p : Int) + 1) = kk by lia]
          apply fz_eq_zero.mp
          rw [fz_add, fz_mul, ← hc', fz_mod, fz_mul, fz_neg]
          grind
    · rintro m' H' ⟨C, t2, t3, t4, hp, hk', rC, lC, c0, hc, rfl⟩
      (try (with_reducible (first | refine Vy ?_ | refine Vw ?_); intro J))
      rw [show (M - 1).toNat = S.length by lia] at *
      exact ⟨C, t2, t3, t4, hp, hk', ⟨rC, lC, c0, hc⟩, rfl⟩
  rintro m' H' ⟨C, t2, t3, t4, hp, hk', hS, rfl⟩
  (try (with_reducible (first | refine Vy ?_ | refine Vw ?_); intro J))
  (try change wpSs _ _ _ _ _); simp -implicitDefEqProofs only [s_cons, ↓Ve, ↓Vf, ↓Vs, ↓Vl, ↓YU, ↓Vb, ↓Vu, ↓Ym, ↓Vk, ↓VI, ↓Vh, ↓YD, ↓Vj, ↓Yg, ↓Yy, ↓Ys, ↓Yo, ↓Yp, ↓Ye, Yc, ZA, ZS, Yb, Yr, ZF, Zx, ZD, ZT, ZX, ZO, Yd, YG, ZZ, YT, Yn, ZJ, YL, YK, Vc, Yw, ZU, ZR, YC, ZQ, ZV, ZH, YV, Vq, Vd, Vt, Vi, Vr, Va, Vo, Vg, YY, YJ, Yi, Zm, Zh, Zc, Zb, ZC, Zu, ZB, ZL, ZI, ZM, ZG, ZE, YF, Zz, Zy, Zw, Zt, Zr, Zo, Zv, Zn, Zi, Zp, Zl, Zd, Zk, Ze, Zj, Zf, Zg, Za, Yq, YB, Yv, ZW, Yx, YX, YZ, Vm, YW, Yj, YH, Vp, Vn, Zq, Zs, YM, YE, Yk, Yz, Yl, Yu, YA, Yt, Yh, YI, ZP, ZY, List.cons_append, List.nil_append, Bool.not_true, Bool.not_false, ZN, YS, YR, YQ]
  exact h _ C H' hp (Nat.le_refl _) hk' hS

/-- the series as the recursion of the fraction wants it -/
theorem ser_eu {S C : List Int} (h : Ser S C) : al (S.length + 1) (eu (ps C)) (pn (pm (ps (0 :: S)) (ps C))) := by
  obtain ⟨_, hl, c0, hc⟩ := h
  intro t ht
  show fz t * ps C t = - ml (ps (0 :: S)) (ps C) t
  cases t with
  | zero =>
    show fz 0 * _ = - (ps (0 :: S) 0 * _)
    rw [show ps (0 :: S) 0 = 0 from rfl, fz_zero]; grind
  | succ q =>
    rw [ml, show ps (0 :: S) 0 = 0 from rfl, show (fun i => ps (0 :: S) (i + 1)) = ps S from rfl]
    have := fz_eq_zero.mpr (hc q (by lia))
    rw [fz_add, fz_mul, fz_cv] at this
    rw [show fz ((q + 1 : Nat) : Int) = fz ((q : Int) + 1) from rfl]
    show fz ((q : Int) + 1) * fz (co C (q + 1)) = - (0 * _ + ml (fun i => fz (co S i)) (fun i => fz (co C i)) q)
    grind
theorem ser_zero {S C : List Int} (h : Ser S C) : ps C 0 = 1 := by rw [ps, h.2.2.1]; rfl

/-! products -/
end Mine

--STEP: ZN, YS, YR, YQ
open PySem
set_option linter.unusedSimpArgs false
set_option linter.unusedVariables false
namespace Mine

theorem YN {vs : List V} {H : Hp} {P : PV} : wpB .is_ (.tup vs) .none H P = (isNoneB .none = true ∧ P (.bool false) H) := rfl
theorem Vv {H : Hp} {P : PV} : wpB .is_ .none .none H P = (isNoneB .none = true ∧ P (.bool true) H) := rfl
theorem red_take {xs : List Int} (h : Red xs) (n : Nat) : Red (xs.take n) := fun a ha => h a (List.mem_of_mem_take ha)
theorem co_push {zs : List Int} {a : Int} {f : Nat → Int} (hc : ∀ t, t < zs.length → co zs t = f t) (ha : a = f zs.length) (t : Nat) (ht : t < (zs ++ [a]).length) : co (zs ++ [a]) t = f t := by
  rw [List.length_append, List.length_singleton] at ht
  rcases Nat.lt_or_ge t zs.length with c | c
  · rw [co_lt (by simp; lia), List.getElem_append_left c, ← co_lt c, hc t c]
  · have : t = zs.length := by lia
    subst this
    rw [co_lt (by simp), List.getElem_append_right (Nat.le_refl _)]
    simpa using ha
/-- an item, or 0 behind the end -/
theorem e_part {C : Calls} {i j : Nat} {m : Loc} {H : Hp} {P : PV} {k : Nat} {t : Nat} {xs : List Int} (hm : m[i]? = some (some (.ref k))) (ht : m[j]? = some (some (.int t))) (hk : H[k]? = some (zl xs)) (h : P (.int (co xs t)) H) :
    wpE C (.ite (.bin .lt (.var j) (.un .len (.var i))) (.bin .item (.var i) (.var j)) (.int 0)) m H P := by
  (try simp only [↓Ve, ↓Vf, ↓Vs, ↓Vl, ↓YU, ↓Vb, ↓Vu, ↓Ym, ↓Vk, ↓VI, ↓Vh, ↓YD, ↓Vj, ↓Yg, ↓Yy, ↓Ys, ↓Yo, ↓Yp, ↓Ye, Yc, ZA, ZS, Yb, Yr, ZF, Zx, ZD, ZT, ZX, ZO, Yd, YG, ZZ, YT, Yn, ZJ, YL, YK, Vc, Yw, ZU, ZR, YC, ZQ, ZV, ZH, YV, Vq, Vd, Vt, Vi, Vr, Va, Vo, Vg, YY, YJ, Yi, Zm, Zh, Zc, Zb, ZC, Zu, ZB, ZL, ZI, ZM, ZG, ZE, YF, Zz, Zy, Zw, Zt, Zr, Zo, Zv, Zn, Zi, Zp, Zl, Zd, Zk, Ze, Zj, Zf, Zg, Za, Yq, YB, Yv, ZW, Yx, YX, YZ, Vm, YW, Yj, YH, Vp, Vn, Zq, Zs, YM, YE, Yk, Yz, Yl, Yu, YA, Yt, Yh, YI, ZP, ZY, List.cons_append, List.nil_append, Bool.not_true, Bool.not_false, ZN, YS, YR, YQ, at_of hm, at_of ht, VH hk, VR])
  split
  · rename_i c
    refine Wa (by lia) (zl_get (xs := xs) (j := (t : Int).toNat) (by lia)) ?_
    rw [show xs[(t : Int).toNat]'(by lia) = co xs t by rw [co_lt (by lia)]; rfl]
    exact h
  · rename_i c
    rw [co_ge (by lia)] at h; exact h

theorem spec_less (n i j : Nat) (xs ys : List Int) (H : Hp) (P : PV) (hi : H[i]? = some (zl xs)) (hj : H[j]? = some (zl ys)) (lx : xs.length ≤ 400000) (ly : ys.length ≤ 400000)
    (h : ∀ k zs H', H <+: H' → H.length ≤ k → H'[k]? = some (zl zs) → Red zs ∧ Trim zs → zs.length ≤ max xs.length ys.length → ps zs = pb (ps xs) (ps ys) → P (.ref k) H') : run T (n + 2) 31 [.ref i, .ref j] H P := by
  refine run_succ (d := f_less) rfl rfl (by decide) ?_
  simp only [f_less, entry, List.map, List.replicate, Nat.reduceSub, List.cons_append, List.nil_append]
  (with_reducible first | refine Vx ?_ | (refine VC ?_; intro J)); simp only [↓Ve, ↓Vf, ↓Vs, ↓Vl, ↓YU, ↓Vb, ↓Vu, ↓Ym, ↓Vk, ↓VI, ↓Vh, ↓YD, ↓Vj, ↓Yg, ↓Yy, ↓Ys, ↓Yo, ↓Yp, ↓Ye, Yc, ZA, ZS, Yb, Yr, ZF, Zx, ZD, ZT, ZX, ZO, Yd, YG, ZZ, YT, Yn, ZJ, YL, YK, Vc, Yw, ZU, ZR, YC, ZQ, ZV, ZH, YV, Vq, Vd, Vt, Vi, Vr, Va, Vo, Vg, YY, YJ, Yi, Zm, Zh, Zc, Zb, ZC, Zu, ZB, ZL, ZI, ZM, ZG, ZE, YF, Zz, Zy, Zw, Zt, Zr, Zo, Zv, Zn, Zi, Zp, Zl, Zd, Zk, Ze, Zj, Zf, Zg, Za, Yq, YB, Yv, ZW, Yx, YX, YZ, Vm, YW, Yj, YH, Vp, Vn, Zq, Zs, YM, YE, Yk, Yz, Yl, Yu, YA, Yt, Yh, YI, ZP, ZY, List.cons_append, List.nil_append, Bool.not_true, Bool.not_false, ZN, YS, YR, YQ]
  (try change wpSs _ _ _ _ _)
  refine s_cut (VB _ _) (fun m' H' => Ex4 fun zs t3 t4 t5 => And5 (H <+: H') (H'[H.length]? = some (zl zs)) (zs.length = max xs.length ys.length) ((∀ t, t < zs.length → co zs t = (co xs t - co ys t) % 251)) (m' = [some (.ref i), some (.ref j), some (.ref H.length), t3, t4, t5])) ?_ ?_
  · (try (with_reducible refine post_letS ?_; intro J))
    (try simp only [↓Ve, ↓Vf, ↓Vs, ↓Vl, ↓YU, ↓Vb, ↓Vu, ↓Ym, ↓Vk, ↓VI, ↓Vh, ↓YD, ↓Vj, ↓Yg, ↓Yy, ↓Ys, ↓Yo, ↓Yp, ↓Ye, Yc, ZA, ZS, Yb, Yr, ZF, Zx, ZD, ZT, ZX, ZO, Yd, YG, ZZ, YT, Yn, ZJ, YL, YK, Vc, Yw, ZU, ZR, YC, ZQ, ZV, ZH, YV, Vq, Vd, Vt, Vi, Vr, Va, Vo, Vg, YY, YJ, Yi, Zm, Zh, Zc, Zb, ZC, Zu, ZB, ZL, ZI, ZM, ZG, ZE, YF, Zz, Zy, Zw, Zt, Zr, Zo, Zv, Zn, Zi, Zp, Zl, Zd, Zk, Ze, Zj, Zf, Zg, Za, Yq, YB, Yv, ZW, Yx, YX, YZ, Vm, YW, Yj, YH, Vp, Vn, Zq, Zs, YM, YE, Yk, Yz, Yl, Yu, YA, Yt, Yh, YI, ZP, ZY, List.cons_append, List.nil_append, Bool.not_true, Bool.not_false, ZN, YS, YR, YQ, VH (get_old (G := [[]]) hi), VH (get_old (G := [[]]) hj), VR])
    have em : (if (xs.length : Int) < ys.length then (ys.length : Int) else xs.length) = (max xs.length ys.length : Nat) := by split <;> lia
    rw [em]
    refine each_range (VB _ _) (by decide) (by lia) (fun q m' H' => Ex4 fun zs t3 t4 t5 => And5 (H <+: H') (H'[H.length]? = some (zl zs)) (zs.length = q) ((∀ t, t < zs.length → co zs t = (co xs t - co ys t) % 251)) (m' = [some (.ref i), some (.ref j), some (.ref H.length), t3, t4, t5])) ?_ ?_ ?_
    · exact ⟨[], none, none, none, List.prefix_append _ _, VP (vs := []), rfl, fun t ht => by simp at ht, rfl⟩
    · rintro q m' H' hq ⟨zs, t3, t4, t5, hp, hk, rfl, hc, rfl⟩
      (try (with_reducible (first | refine Vy ?_ | refine Vw ?_); intro J))
      rw [show (0 : Int) + (zs.length : Int) = ((zs.length : Nat) : Int) by lia]
      (try change wpSs _ _ _ _ _)
      rw [s_cons, ZA]
      refine e_part (k := i) (t := zs.length) rfl rfl (Vz hp hi) ?_
      (try simp only [↓Ve, ↓Vf, ↓Vs, ↓Vl, ↓YU, ↓Vb, ↓Vu, ↓Ym, ↓Vk, ↓VI, ↓Vh, ↓YD, ↓Vj, ↓Yg, ↓Yy, ↓Ys, ↓Yo, ↓Yp, ↓Ye, Yc, ZA, ZS, Yb, Yr, ZF, Zx, ZD, ZT, ZX, ZO, Yd, YG, ZZ, YT, Yn, ZJ, YL, YK, Vc, Yw, ZU, ZR, YC, ZQ, ZV, ZH, YV, Vq, Vd, Vt, Vi, Vr, Va, Vo, Vg, YY, YJ, Yi, Zm, Zh, Zc, Zb, ZC, Zu, ZB, ZL, ZI, ZM, ZG, ZE, YF, Zz, Zy, Zw, Zt, Zr, Zo, Zv, Zn, Zi, Zp, Zl, Zd, Zk, Ze, Zj, Zf, Zg, Za, Yq, YB, Yv, ZW, Yx, YX, YZ, Vm, YW, Yj, YH, Vp, Vn, Zq, Zs, YM, YE, Yk, Yz, Yl, Yu, YA, Yt, Yh, YI, ZP, ZY, List.cons_append, List.nil_append, Bool.not_true, Bool.not_false, ZN, YS, YR, YQ])
      (try change wpSs _ _ _ _ _)
      rw [s_cons, ZA]
      refine e_part (k := j) (t := zs.length) rfl rfl (Vz hp hj) ?_
      (try simp only [↓Ve, ↓Vf, ↓Vs, ↓Vl, ↓YU, ↓Vb, ↓Vu, ↓Ym, ↓Vk, ↓VI, ↓Vh, ↓YD, ↓Vj, ↓Yg, ↓Yy, ↓Ys, ↓Yo, ↓Yp, ↓Ye, Yc, ZA, ZS, Yb, Yr, ZF, Zx, ZD, ZT, ZX, ZO, Yd, YG, ZZ, YT, Yn, ZJ, YL, YK, Vc, Yw, ZU, ZR, YC, ZQ, ZV, ZH, YV, Vq, Vd, Vt, Vi, Vr, Va, Vo, Vg, YY, YJ, Yi, Zm, Zh, Zc, Zb, ZC, Zu, ZB, ZL, ZI, ZM, ZG, ZE, YF, Zz, Zy, Zw, Zt, Zr, Zo, Zv, Zn, Zi, Zp, Zl, Zd, Zk, Ze, Zj, Zf, Zg, Za, Yq, YB, Yv, ZW, Yx, YX, YZ, Vm, YW, Yj, YH, Vp, Vn, Zq, Zs, YM, YE, Yk, Yz, Yl, Yu, YA, Yt, Yh, YI, ZP, ZY, List.cons_append, List.nil_append, Bool.not_true, Bool.not_false, ZN, YS, YR, YQ])
      (with_reducible first | refine Vx ?_ | (refine VC ?_; intro J)); simp only [↓Ve, ↓Vf, ↓Vs, ↓Vl, ↓YU, ↓Vb, ↓Vu, ↓Ym, ↓Vk, ↓VI, ↓Vh, ↓YD, ↓Vj, ↓Yg, ↓Yy, ↓Ys, ↓Yo, ↓Yp, ↓Ye, Yc, ZA, ZS, Yb, Yr, ZF, Zx, ZD, ZT, ZX, ZO, Yd, YG, ZZ, YT, Yn, ZJ, YL, YK, Vc, Yw, ZU, ZR, YC, ZQ, ZV, ZH, YV, Vq, Vd, Vt, Vi, Vr, Va, Vo, Vg, YY, YJ, Yi, Zm, Zh, Zc, Zb, ZC, Zu, ZB, ZL, ZI, ZM, ZG, ZE, YF, Zz, Zy, Zw, Zt, Zr, Zo, Zv, Zn, Zi, Zp, Zl, Zd, Zk, Ze, Zj, Zf, Zg, Za, Yq, YB, Yv, ZW, Yx, YX, YZ, Vm, YW, Yj, YH, Vp, Vn, Zq, Zs, YM, YE, Yk, Yz, Yl, Yu, YA, Yt, Yh, YI, ZP, ZY, List.cons_append, List.nil_append, Bool.not_true, Bool.not_false, ZN, YS, YR, YQ]
      refine ⟨by decide, withL_of hk ⟨by rw [VR]; unfold room; lia, ?_⟩⟩
      rw [zl_append]
      exact ⟨_, _, _, _, pre_set hp (Nat.le_refl _), set_get hk, by simp, co_push hc rfl, rfl⟩
    · rintro m' H' ⟨zs, t3, t4, t5, hp, hk, hl, hc, rfl⟩
      (try (with_reducible (first | refine Vy ?_ | refine Vw ?_); intro J))
      exact ⟨zs, t3, t4, t5, hp, hk, by lia, hc, rfl⟩
  rintro m' H' ⟨zs, t3, t4, t5, hp, hk, hl, hc, rfl⟩
  (try (with_reducible (first | refine Vy ?_ | refine Vw ?_); intro J))
  (with_reducible first | refine Vx ?_ | (refine VC ?_; intro J)); simp only [↓Ve, ↓Vf, ↓Vs, ↓Vl, ↓YU, ↓Vb, ↓Vu, ↓Ym, ↓Vk, ↓VI, ↓Vh, ↓YD, ↓Vj, ↓Yg, ↓Yy, ↓Ys, ↓Yo, ↓Yp, ↓Ye, Yc, ZA, ZS, Yb, Yr, ZF, Zx, ZD, ZT, ZX, ZO, Yd, YG, ZZ, YT, Yn, ZJ, YL, YK, Vc, Yw, ZU, ZR, YC, ZQ, ZV, ZH, YV, Vq, Vd, Vt, Vi, Vr, Va, Vo, Vg, YY, YJ, Yi, Zm, Zh, Zc, Zb, ZC, Zu, ZB, ZL, ZI, ZM, ZG, ZE, YF, Zz, Zy, Zw, Zt, Zr, Zo, Zv, Zn, Zi, Zp, Zl, Zd, Zk, Ze, Zj, Zf, Zg, Za, Yq, YB, Yv, ZW, Yx, YX, YZ, Vm, YW, Yj, YH, Vp, Vn, Zq, Zs, YM, YE, Yk, Yz, Yl, Yu, YA, Yt, Yh, YI, ZP, ZY, List.cons_append, List.nil_append, Bool.not_true, Bool.not_false, ZN, YS, YR, YQ]
  refine spec_trimmed _ _ zs _ _ hk fun k' ws H2 p2 lk hw tw lw cw => ?_
  have hz : Red zs := red_of_co fun t ht => by
    rw [hc t ht]; exact ⟨Int.emod_nonneg _ (by decide), Int.emod_lt_of_pos _ (by decide)⟩
  have l1 := hp.length_le
  (try simp only [↓Ve, ↓Vf, ↓Vs, ↓Vl, ↓YU, ↓Vb, ↓Vu, ↓Ym, ↓Vk, ↓VI, ↓Vh, ↓YD, ↓Vj, ↓Yg, ↓Yy, ↓Ys, ↓Yo, ↓Yp, ↓Ye, Yc, ZA, ZS, Yb, Yr, ZF, Zx, ZD, ZT, ZX, ZO, Yd, YG, ZZ, YT, Yn, ZJ, YL, YK, Vc, Yw, ZU, ZR, YC, ZQ, ZV, ZH, YV, Vq, Vd, Vt, Vi, Vr, Va, Vo, Vg, YY, YJ, Yi, Zm, Zh, Zc, Zb, ZC, Zu, ZB, ZL, ZI, ZM, ZG, ZE, YF, Zz, Zy, Zw, Zt, Zr, Zo, Zv, Zn, Zi, Zp, Zl, Zd, Zk, Ze, Zj, Zf, Zg, Za, Yq, YB, Yv, ZW, Yx, YX, YZ, Vm, YW, Yj, YH, Vp, Vn, Zq, Zs, YM, YE, Yk, Yz, Yl, Yu, YA, Yt, Yh, YI, ZP, ZY, List.cons_append, List.nil_append, Bool.not_true, Bool.not_false, ZN, YS, YR, YQ])
  refine h k' ws H2 (hp.trans p2) (by lia) hw ⟨red_co hz cw, tw⟩ (by lia) ?_
  funext t
  show fz (co ws t) = fz (co xs t) - fz (co ys t)
  rw [cw]
  rcases Nat.lt_or_ge t zs.length with c | c
  · rw [hc t c, fz_mod, fz_sub]
  · rw [co_ge c, co_ge (xs := xs) (by lia), co_ge (xs := ys) (by lia), fz_zero]; grind
end Mine

--STEP: ZN, YS, YR, YQ
open PySem
set_option linter.unusedSimpArgs false
set_option linter.unusedVariables false
namespace Mine

theorem first_item {xs : List Int} (h : 0 < xs.length) {F : V → Prop} (q : F (.int (co xs 0))) : itemOf (zl xs) 0 F := by
  refine Wa (by decide) (zl_get (xs := xs) (j := (0 : Int).toNat) h) ?_
  rw [co_lt h] at q; exact q

theorem spec_fraction0 (n i up down : Nat) (xs : List Int) (H : Hp) (P : PV) (hi : H[i]? = some (zl xs)) (rx : Red xs) (hu : up ≤ 12) (hd : down ≤ 12) (hl : up + down + 1 ≤ xs.length) (lx : xs.length ≤ 400000)
    (hNo : ∀ H' A R M L, H <+: H' → FI (up + down + 1) up (ps xs) A R M L → R.length ≤ up + 1 → co L 0 = 0 → P .none H')
    (hF : ∀ k l us ls H' f A R M L, H <+: H' → H.length ≤ k → H.length ≤ l → k ≠ l → H'[k]? = some (zl us) → H'[l]? = some (zl ls) → Red us ∧ Trim us → Red ls ∧ Trim ls → FI (up + down + 1) up (ps xs) A R M L → R.length ≤ up + 1 → fz (co L 0) * fz f = 1 →
      ps us = pm (ps R) (ps [f]) → ps ls = pm (ps L) (ps [f]) → P (.tup [.ref k, .ref l]) H') : run T (n + 4) 33 [.ref i, .int up, .int down] H P := by
  --EXPL
  refine run_succ (d := f_fraction) rfl rfl (by decide) ?_
  simp only [f_fraction, entry, List.map, List.replicate, Nat.reduceSub, List.cons_append, List.nil_append]
  (with_reducible first | refine Vx ?_ | (refine VC ?_; intro J)); simp -implicitDefEqProofs only [↓Ve, ↓Vf, ↓Vs, ↓Vl, ↓YU, ↓Vb, ↓Vu, ↓Ym, ↓Vk, ↓VI, ↓Vh, ↓YD, ↓Vj, ↓Yg, ↓Yy, ↓Ys, ↓Yo, ↓Yp, ↓Ye, Yc, ZA, ZS, Yb, Yr, ZF, Zx, ZD, ZT, ZX, ZO, Yd, YG, ZZ, YT, Yn, ZJ, YL, YK, Vc, Yw, ZU, ZR, YC, ZQ, ZV, ZH, YV, Vq, Vd, Vt, Vi, Vr, Va, Vo, Vg, YY, YJ, Yi, Zm, Zh, Zc, Zb, ZC, Zu, ZB, ZL, ZI, ZM, ZG, ZE, YF, Zz, Zy, Zw, Zt, Zr, Zo, Zv, Zn, Zi, Zp, Zl, Zd, Zk, Ze, Zj, Zf, Zg, Za, Yq, YB, Yv, ZW, Yx, YX, YZ, Vm, YW, Yj, YH, Vp, Vn, Zq, Zs, YM, YE, Yk, Yz, Yl, Yu, YA, Yt, Yh, YI, ZP, ZY, List.cons_append, List.nil_append, Bool.not_true, Bool.not_false, ZN, YS, YR, YQ]
  generalize hNN : up + down + 1 = N at *
  rw [show (up : Int) + down + 1 = (N : Nat) by lia]
  (with_reducible first | refine Vx ?_ | (refine VC ?_; intro J)); simp -implicitDefEqProofs only [↓Ve, ↓Vf, ↓Vs, ↓Vl, ↓YU, ↓Vb, ↓Vu, ↓Ym, ↓Vk, ↓VI, ↓Vh, ↓YD, ↓Vj, ↓Yg, ↓Yy, ↓Ys, ↓Yo, ↓Yp, ↓Ye, Yc, ZA, ZS, Yb, Yr, ZF, Zx, ZD, ZT, ZX, ZO, Yd, YG, ZZ, YT, Yn, ZJ, YL, YK, Vc, Yw, ZU, ZR, YC, ZQ, ZV, ZH, YV, Vq, Vd, Vt, Vi, Vr, Va, Vo, Vg, YY, YJ, Yi, Zm, Zh, Zc, Zb, ZC, Zu, ZB, ZL, ZI, ZM, ZG, ZE, YF, Zz, Zy, Zw, Zt, Zr, Zo, Zv, Zn, Zi, Zp, Zl, Zd, Zk, Ze, Zj, Zf, Zg, Za, Yq, YB, Yv, ZW, Yx, YX, YZ, Vm, YW, Yj, YH, Vp, Vn, Zq, Zs, YM, YE, Yk, Yz, Yl, Yu, YA, Yt, Yh, YI, ZP, ZY, List.cons_append, List.nil_append, Bool.not_true, Bool.not_false, ZN, YS, YR, YQ]
  refine comp_range (VB _ _) (by decide) (by lia) (fun s acc H' => H = H' ∧ acc = zl (List.replicate s 0)) ⟨rfl, rfl⟩ ?_ ?_
  · rintro s acc H' hs ⟨rfl, rfl⟩
    (try (with_reducible (first | refine Vy ?_ | refine Vw ?_); intro J))
    (try simp -implicitDefEqProofs only [↓Ve, ↓Vf, ↓Vs, ↓Vl, ↓YU, ↓Vb, ↓Vu, ↓Ym, ↓Vk, ↓VI, ↓Vh, ↓YD, ↓Vj, ↓Yg, ↓Yy, ↓Ys, ↓Yo, ↓Yp, ↓Ye, Yc, ZA, ZS, Yb, Yr, ZF, Zx, ZD, ZT, ZX, ZO, Yd, YG, ZZ, YT, Yn, ZJ, YL, YK, Vc, Yw, ZU, ZR, YC, ZQ, ZV, ZH, YV, Vq, Vd, Vt, Vi, Vr, Va, Vo, Vg, YY, YJ, Yi, Zm, Zh, Zc, Zb, ZC, Zu, ZB, ZL, ZI, ZM, ZG, ZE, YF, Zz, Zy, Zw, Zt, Zr, Zo, Zv, Zn, Zi, Zp, Zl, Zd, Zk, Ze, Zj, Zf, Zg, Za, Yq, YB, Yv, ZW, Yx, YX, YZ, Vm, YW, Yj, YH, Vp, Vn, Zq, Zs, YM, YE, Yk, Yz, Yl, Yu, YA, Yt, Yh, YI, ZP, ZY, List.cons_append, List.nil_append, Bool.not_true, Bool.not_false, ZN, YS, YR, YQ])
    refine ⟨(by trivial), ?_⟩
    rw [zl_append, List.replicate_succ']
  rintro acc H' ⟨rfl, rfl⟩
  (try (with_reducible (first | refine Vy ?_ | refine Vw ?_); intro J))
  rw [show ((N : Int) - 0).toNat = N by lia]
  (try simp -implicitDefEqProofs only [↓Ve, ↓Vf, ↓Vs, ↓Vl, ↓YU, ↓Vb, ↓Vu, ↓Ym, ↓Vk, ↓VI, ↓Vh, ↓YD, ↓Vj, ↓Yg, ↓Yy, ↓Ys, ↓Yo, ↓Yp, ↓Ye, Yc, ZA, ZS, Yb, Yr, ZF, Zx, ZD, ZT, ZX, ZO, Yd, YG, ZZ, YT, Yn, ZJ, YL, YK, Vc, Yw, ZU, ZR, YC, ZQ, ZV, ZH, YV, Vq, Vd, Vt, Vi, Vr, Va, Vo, Vg, YY, YJ, Yi, Zm, Zh, Zc, Zb, ZC, Zu, ZB, ZL, ZI, ZM, ZG, ZE, YF, Zz, Zy, Zw, Zt, Zr, Zo, Zv, Zn, Zi, Zp, Zl, Zd, Zk, Ze, Zj, Zf, Zg, Za, Yq, YB, Yv, ZW, Yx, YX, YZ, Vm, YW, Yj, YH, Vp, Vn, Zq, Zs, YM, YE, Yk, Yz, Yl, Yu, YA, Yt, Yh, YI, ZP, ZY, List.cons_append, List.nil_append, Bool.not_true, Bool.not_false, ZN, YS, YR, YQ])
  rw [b_cat (get_old VP) (VP (vs := [V.int 1]))]
  refine ⟨by rw [VR]; unfold room; simp; lia, ?_⟩
  rw [zl_append]
  have g1 : (H ++ [zl (List.replicate N 0)] ++ [[V.int 1]] ++ [zl (List.replicate N 0 ++ [1])])[(H ++ [zl (List.replicate N 0)] ++ [[V.int 1]]).length]? = some (zl (List.replicate N 0 ++ [1])) := VP
  have p1 : H <+: H ++ [zl (List.replicate N 0)] ++ [[V.int 1]] ++ [zl (List.replicate N 0 ++ [1])] := pre_app (pre_app (List.prefix_append _ _))
  generalize H ++ [zl (List.replicate N 0)] ++ [[V.int 1]] ++ [zl (List.replicate N 0 ++ [1])] = H1 at *
  generalize (H ++ [zl (List.replicate N 0)] ++ [[V.int 1]]).length = k1 at *
  (with_reducible first | refine Vx ?_ | (refine VC ?_; intro J)); simp -implicitDefEqProofs only [↓Ve, ↓Vf, ↓Vs, ↓Vl, ↓YU, ↓Vb, ↓Vu, ↓Ym, ↓Vk, ↓VI, ↓Vh, ↓YD, ↓Vj, ↓Yg, ↓Yy, ↓Ys, ↓Yo, ↓Yp, ↓Ye, Yc, ZA, ZS, Yb, Yr, ZF, Zx, ZD, ZT, ZX, ZO, Yd, YG, ZZ, YT, Yn, ZJ, YL, YK, Vc, Yw, ZU, ZR, YC, ZQ, ZV, ZH, YV, Vq, Vd, Vt, Vi, Vr, Va, Vo, Vg, YY, YJ, Yi, Zm, Zh, Zc, Zb, ZC, Zu, ZB, ZL, ZI, ZM, ZG, ZE, YF, Zz, Zy, Zw, Zt, Zr, Zo, Zv, Zn, Zi, Zp, Zl, Zd, Zk, Ze, Zj, Zf, Zg, Za, Yq, YB, Yv, ZW, Yx, YX, YZ, Vm, YW, Yj, YH, Vp, Vn, Zq, Zs, YM, YE, Yk, Yz, Yl, Yu, YA, Yt, Yh, YI, ZP, ZY, List.cons_append, List.nil_append, Bool.not_true, Bool.not_false, ZN, YS, YR, YQ, VH (Vz p1 hi), picked_ni (show 0 ≤ (N : Int) by lia)]
  rw [Int.toNat_natCast]
  refine spec_trimmed _ _ (xs.take N) _ _ VP fun k2 R H2 p2 lk2 g2 tR lR cR => ?_
  have hR : FI N up (ps xs) (List.replicate N 0 ++ [1]) R [] [1] := by
    refine fi_start ⟨red_co (red_take rx N) cR, tR⟩ (fun t => ?_) (by rw [List.length_take] at lR; lia) (by lia)
    rw [cR]
    split
    · rename_i c; simp [co, List.getD_eq_getElem?_getD, c]
    · rename_i c; exact co_ge (by simp; lia)
  have p2' := p1.trans ((List.prefix_append _ _).trans p2)
  have g1' := Vz ((List.prefix_append _ _).trans p2) g1
  (try simp -implicitDefEqProofs only [↓Ve, ↓Vf, ↓Vs, ↓Vl, ↓YU, ↓Vb, ↓Vu, ↓Ym, ↓Vk, ↓VI, ↓Vh, ↓YD, ↓Vj, ↓Yg, ↓Yy, ↓Ys, ↓Yo, ↓Yp, ↓Ye, Yc, ZA, ZS, Yb, Yr, ZF, Zx, ZD, ZT, ZX, ZO, Yd, YG, ZZ, YT, Yn, ZJ, YL, YK, Vc, Yw, ZU, ZR, YC, ZQ, ZV, ZH, YV, Vq, Vd, Vt, Vi, Vr, Va, Vo, Vg, YY, YJ, Yi, Zm, Zh, Zc, Zb, ZC, Zu, ZB, ZL, ZI, ZM, ZG, ZE, YF, Zz, Zy, Zw, Zt, Zr, Zo, Zv, Zn, Zi, Zp, Zl, Zd, Zk, Ze, Zj, Zf, Zg, Za, Yq, YB, Yv, ZW, Yx, YX, YZ, Vm, YW, Yj, YH, Vp, Vn, Zq, Zs, YM, YE, Yk, Yz, Yl, Yu, YA, Yt, Yh, YI, ZP, ZY, List.cons_append, List.nil_append, Bool.not_true, Bool.not_false, ZN, YS, YR, YQ])
  (with_reducible first | refine Vx ?_ | (refine VC ?_; intro J)); simp -implicitDefEqProofs only [↓Ve, ↓Vf, ↓Vs, ↓Vl, ↓YU, ↓Vb, ↓Vu, ↓Ym, ↓Vk, ↓VI, ↓Vh, ↓YD, ↓Vj, ↓Yg, ↓Yy, ↓Ys, ↓Yo, ↓Yp, ↓Ye, Yc, ZA, ZS, Yb, Yr, ZF, Zx, ZD, ZT, ZX, ZO, Yd, YG, ZZ, YT, Yn, ZJ, YL, YK, Vc, Yw, ZU, ZR, YC, ZQ, ZV, ZH, YV, Vq, Vd, Vt, Vi, Vr, Va, Vo, Vg, YY, YJ, Yi, Zm, Zh, Zc, Zb, ZC, Zu, ZB, ZL, ZI, ZM, ZG, ZE, YF, Zz, Zy, Zw, Zt, Zr, Zo, Zv, Zn, Zi, Zp, Zl, Zd, Zk, Ze, Zj, Zf, Zg, Za, Yq, YB, Yv, ZW, Yx, YX, YZ, Vm, YW, Yj, YH, Vp, Vn, Zq, Zs, YM, YE, Yk, Yz, Yl, Yu, YA, Yt, Yh, YI, ZP, ZY, List.cons_append, List.nil_append, Bool.not_true, Bool.not_false, ZN, YS, YR, YQ]
  (with_reducible first | refine Vx ?_ | (refine VC ?_; intro J)); simp -implicitDefEqProofs only [↓Ve, ↓Vf, ↓Vs, ↓Vl, ↓YU, ↓Vb, ↓Vu, ↓Ym, ↓Vk, ↓VI, ↓Vh, ↓YD, ↓Vj, ↓Yg, ↓Yy, ↓Ys, ↓Yo, ↓Yp, ↓Ye, Yc, ZA, ZS, Yb, Yr, ZF, Zx, ZD, ZT, ZX, ZO, Yd, YG, ZZ, YT, Yn, ZJ, YL, YK, Vc, Yw, ZU, ZR, YC, ZQ, ZV, ZH, YV, Vq, Vd, Vt, Vi, Vr, Va, Vo, Vg, YY, YJ, Yi, Zm, Zh, Zc, Zb, ZC, Zu, ZB, ZL, ZI, ZM, ZG, ZE, YF, Zz, Zy, Zw, Zt, Zr, Zo, Zv, Zn, Zi, Zp, Zl, Zd, Zk, Ze, Zj, Zf, Zg, Za, Yq, YB, Yv, ZW, Yx, YX, YZ, Vm, YW, Yj, YH, Vp, Vn, Zq, Zs, YM, YE, Yk, Yz, Yl, Yu, YA, Yt, Yh, YI, ZP, ZY, List.cons_append, List.nil_append, Bool.not_true, Bool.not_false, ZN, YS, YR, YQ]
  have q1 := get_old (G := [[V.int 1]]) (get_old (G := [[]]) g1')
  have q2 := get_old (G := [[V.int 1]]) (get_old (G := [[]]) g2)
  have q3 : (H2 ++ [[]] ++ [[V.int 1]])[H2.length]? = some (zl []) := get_old VP
  have q4 : (H2 ++ [[]] ++ [[V.int 1]])[(H2 ++ [[]]).length]? = some (zl [1]) := VP
  have p3 : H <+: H2 ++ [[]] ++ [[V.int 1]] := pre_app (pre_app p2')
  generalize H2 ++ [[]] ++ [[V.int 1]] = H3 at *
  generalize H2.length = k3 at *
  generalize (H2 ++ [[]]).length = k4 at *
  (try change wpSs _ _ _ _ _)
  refine s_cut (VB _ _) (fun m' H' => Ex11 fun ka kr km kl A R M L t8 t9 t10 => And8 (H <+: H') (H'[ka]? = some (zl A)) (H'[kr]? = some (zl R)) (H'[km]? = some (zl M)) (H'[kl]? = some (zl L)) (FI N up (ps xs) A R M L) (R.length ≤ up + 1) (m' = [some (.ref i), some (.int up), some (.int down), some (.int N), some (.ref ka), some (.ref kr), some (.ref km), some (.ref kl), t8, t9, t10, none])) ?_ ?_
  · (try (with_reducible refine post_letS ?_; intro J))
    refine loop_of (VB _ _) (fun q m' H' => Ex11 fun ka kr km kl A R M L t8 t9 t10 => And8 (H <+: H') (H'[ka]? = some (zl A)) (H'[kr]? = some (zl R)) (H'[km]? = some (zl M)) (H'[kl]? = some (zl L)) (FI N up (ps xs) A R M L) (R.length = q) (m' = [some (.ref i), some (.int up), some (.int down), some (.int N), some (.ref ka), some (.ref kr), some (.ref km), some (.ref kl), t8, t9, t10, none])) R.length ⟨k1, k2, k3, k4, _, _, _, _, none, none, none, p3, q1, q2, q3, q4, hR, rfl, rfl⟩ ?_
    clear q1 q2 q3 q4 p3 hR g1' g2 p2' cR lR tR p2 g1 p1
    rintro q m' H' ⟨ka, kr, km, kl, A, R, M, L, t8, t9, t10, hp, ha, hr, hm, hl', I, rfl, rfl⟩
    (try (with_reducible (first | refine Vy ?_ | refine Vw ?_); intro J))
    have I' := I
    obtain ⟨hA, hR, hM, hL, -, -, -, len, -, lML, -⟩ := I'
    have lAR := I.2.2.2.2.2.2.2.2.1
    (try simp -implicitDefEqProofs only [↓Ve, ↓Vf, ↓Vs, ↓Vl, ↓YU, ↓Vb, ↓Vu, ↓Ym, ↓Vk, ↓VI, ↓Vh, ↓YD, ↓Vj, ↓Yg, ↓Yy, ↓Ys, ↓Yo, ↓Yp, ↓Ye, Yc, ZA, ZS, Yb, Yr, ZF, Zx, ZD, ZT, ZX, ZO, Yd, YG, ZZ, YT, Yn, ZJ, YL, YK, Vc, Yw, ZU, ZR, YC, ZQ, ZV, ZH, YV, Vq, Vd, Vt, Vi, Vr, Va, Vo, Vg, YY, YJ, Yi, Zm, Zh, Zc, Zb, ZC, Zu, ZB, ZL, ZI, ZM, ZG, ZE, YF, Zz, Zy, Zw, Zt, Zr, Zo, Zv, Zn, Zi, Zp, Zl, Zd, Zk, Ze, Zj, Zf, Zg, Za, Yq, YB, Yv, ZW, Yx, YX, YZ, Vm, YW, Yj, YH, Vp, Vn, Zq, Zs, YM, YE, Yk, Yz, Yl, Yu, YA, Yt, Yh, YI, ZP, ZY, List.cons_append, List.nil_append, Bool.not_true, Bool.not_false, ZN, YS, YR, YQ, VH hr, VR])
    split
    rotate_left
    · exact ⟨ka, kr, km, kl, A, R, M, L, t8, t9, t10, hp, ha, hr, hm, hl', I, by lia, rfl⟩
    rename_i c
    have nR : R ≠ [] := fun e => by rw [e, List.length_nil] at c; lia
    (with_reducible first | refine Vx ?_ | (refine VC ?_; intro J)); simp -implicitDefEqProofs only [↓Ve, ↓Vf, ↓Vs, ↓Vl, ↓YU, ↓Vb, ↓Vu, ↓Ym, ↓Vk, ↓VI, ↓Vh, ↓YD, ↓Vj, ↓Yg, ↓Yy, ↓Ys, ↓Yo, ↓Yp, ↓Ye, Yc, ZA, ZS, Yb, Yr, ZF, Zx, ZD, ZT, ZX, ZO, Yd, YG, ZZ, YT, Yn, ZJ, YL, YK, Vc, Yw, ZU, ZR, YC, ZQ, ZV, ZH, YV, Vq, Vd, Vt, Vi, Vr, Va, Vo, Vg, YY, YJ, Yi, Zm, Zh, Zc, Zb, ZC, Zu, ZB, ZL, ZI, ZM, ZG, ZE, YF, Zz, Zy, Zw, Zt, Zr, Zo, Zv, Zn, Zi, Zp, Zl, Zd, Zk, Ze, Zj, Zf, Zg, Za, Yq, YB, Yv, ZW, Yx, YX, YZ, Vm, YW, Yj, YH, Vp, Vn, Zq, Zs, YM, YE, Yk, Yz, Yl, Yu, YA, Yt, Yh, YI, ZP, ZY, List.cons_append, List.nil_append, Bool.not_true, Bool.not_false, ZN, YS, YR, YQ]
    refine spec_divided _ _ _ A R _ _ ha hr hA.1 hR.1 hA.2 hR.2 nR (by lia) (by lia) fun k l qs rs H4 p4 hk hl4 hne f4 r4 tq rq tr rr hlt hq1 hq2 _ heq => ?_
    have lq := hq1 (by lia)
    (try simp -implicitDefEqProofs only [↓Ve, ↓Vf, ↓Vs, ↓Vl, ↓YU, ↓Vb, ↓Vu, ↓Ym, ↓Vk, ↓VI, ↓Vh, ↓YD, ↓Vj, ↓Yg, ↓Yy, ↓Ys, ↓Yo, ↓Yp, ↓Ye, Yc, ZA, ZS, Yb, Yr, ZF, Zx, ZD, ZT, ZX, ZO, Yd, YG, ZZ, YT, Yn, ZJ, YL, YK, Vc, Yw, ZU, ZR, YC, ZQ, ZV, ZH, YV, Vq, Vd, Vt, Vi, Vr, Va, Vo, Vg, YY, YJ, Yi, Zm, Zh, Zc, Zb, ZC, Zu, ZB, ZL, ZI, ZM, ZG, ZE, YF, Zz, Zy, Zw, Zt, Zr, Zo, Zv, Zn, Zi, Zp, Zl, Zd, Zk, Ze, Zj, Zf, Zg, Za, Yq, YB, Yv, ZW, Yx, YX, YZ, Vm, YW, Yj, YH, Vp, Vn, Zq, Zs, YM, YE, Yk, Yz, Yl, Yu, YA, Yt, Yh, YI, ZP, ZY, List.cons_append, List.nil_append, Bool.not_true, Bool.not_false, ZN, YS, YR, YQ])
    (with_reducible first | refine Vx ?_ | (refine VC ?_; intro J)); simp -implicitDefEqProofs only [↓Ve, ↓Vf, ↓Vs, ↓Vl, ↓YU, ↓Vb, ↓Vu, ↓Ym, ↓Vk, ↓VI, ↓Vh, ↓YD, ↓Vj, ↓Yg, ↓Yy, ↓Ys, ↓Yo, ↓Yp, ↓Ye, Yc, ZA, ZS, Yb, Yr, ZF, Zx, ZD, ZT, ZX, ZO, Yd, YG, ZZ, YT, Yn, ZJ, YL, YK, Vc, Yw, ZU, ZR, YC, ZQ, ZV, ZH, YV, Vq, Vd, Vt, Vi, Vr, Va, Vo, Vg, YY, YJ, Yi, Zm, Zh, Zc, Zb, ZC, Zu, ZB, ZL, ZI, ZM, ZG, ZE, YF, Zz, Zy, Zw, Zt, Zr, Zo, Zv, Zn, Zi, Zp, Zl, Zd, Zk, Ze, Zj, Zf, Zg, Za, Yq, YB, Yv, ZW, Yx, YX, YZ, Vm, YW, Yj, YH, Vp, Vn, Zq, Zs, YM, YE, Yk, Yz, Yl, Yu, YA, Yt, Yh, YI, ZP, ZY, List.cons_append, List.nil_append, Bool.not_true, Bool.not_false, ZN, YS, YR, YQ]
    (with_reducible first | refine Vx ?_ | (refine VC ?_; intro J)); simp -implicitDefEqProofs only [↓Ve, ↓Vf, ↓Vs, ↓Vl, ↓YU, ↓Vb, ↓Vu, ↓Ym, ↓Vk, ↓VI, ↓Vh, ↓YD, ↓Vj, ↓Yg, ↓Yy, ↓Ys, ↓Yo, ↓Yp, ↓Ye, Yc, ZA, ZS, Yb, Yr, ZF, Zx, ZD, ZT, ZX, ZO, Yd, YG, ZZ, YT, Yn, ZJ, YL, YK, Vc, Yw, ZU, ZR, YC, ZQ, ZV, ZH, YV, Vq, Vd, Vt, Vi, Vr, Va, Vo, Vg, YY, YJ, Yi, Zm, Zh, Zc, Zb, ZC, Zu, ZB, ZL, ZI, ZM, ZG, ZE, YF, Zz, Zy, Zw, Zt, Zr, Zo, Zv, Zn, Zi, Zp, Zl, Zd, Zk, Ze, Zj, Zf, Zg, Za, Yq, YB, Yv, ZW, Yx, YX, YZ, Vm, YW, Yj, YH, Vp, Vn, Zq, Zs, YM, YE, Yk, Yz, Yl, Yu, YA, Yt, Yh, YI, ZP, ZY, List.cons_append, List.nil_append, Bool.not_true, Bool.not_false, ZN, YS, YR, YQ]
    (with_reducible first | refine Vx ?_ | (refine VC ?_; intro J)); simp -implicitDefEqProofs only [↓Ve, ↓Vf, ↓Vs, ↓Vl, ↓YU, ↓Vb, ↓Vu, ↓Ym, ↓Vk, ↓VI, ↓Vh, ↓YD, ↓Vj, ↓Yg, ↓Yy, ↓Ys, ↓Yo, ↓Yp, ↓Ye, Yc, ZA, ZS, Yb, Yr, ZF, Zx, ZD, ZT, ZX, ZO, Yd, YG, ZZ, YT, Yn, ZJ, YL, YK, Vc, Yw, ZU, ZR, YC, ZQ, ZV, ZH, YV, Vq, Vd, Vt, Vi, Vr, Va, Vo, Vg, YY, YJ, Yi, Zm, Zh, Zc, Zb, ZC, Zu, ZB, ZL, ZI, ZM, ZG, ZE, YF, Zz, Zy, Zw, Zt, Zr, Zo, Zv, Zn, Zi, Zp, Zl, Zd, Zk, Ze, Zj, Zf, Zg, Za, Yq, YB, Yv, ZW, Yx, YX, YZ, Vm, YW, Yj, YH, Vp, Vn, Zq, Zs, YM, YE, Yk, Yz, Yl, Yu, YA, Yt, Yh, YI, ZP, ZY, List.cons_append, List.nil_append, Bool.not_true, Bool.not_false, ZN, YS, YR, YQ]
    refine spec_times _ _ _ qs L _ _ f4 (Vz p4 hl') rq (by lia) (by lia) fun k5 zs H5 p5 lk5 f5 tz rz lz cz => ?_
    (try simp -implicitDefEqProofs only [↓Ve, ↓Vf, ↓Vs, ↓Vl, ↓YU, ↓Vb, ↓Vu, ↓Ym, ↓Vk, ↓VI, ↓Vh, ↓YD, ↓Vj, ↓Yg, ↓Yy, ↓Ys, ↓Yo, ↓Yp, ↓Ye, Yc, ZA, ZS, Yb, Yr, ZF, Zx, ZD, ZT, ZX, ZO, Yd, YG, ZZ, YT, Yn, ZJ, YL, YK, Vc, Yw, ZU, ZR, YC, ZQ, ZV, ZH, YV, Vq, Vd, Vt, Vi, Vr, Va, Vo, Vg, YY, YJ, Yi, Zm, Zh, Zc, Zb, ZC, Zu, ZB, ZL, ZI, ZM, ZG, ZE, YF, Zz, Zy, Zw, Zt, Zr, Zo, Zv, Zn, Zi, Zp, Zl, Zd, Zk, Ze, Zj, Zf, Zg, Za, Yq, YB, Yv, ZW, Yx, YX, YZ, Vm, YW, Yj, YH, Vp, Vn, Zq, Zs, YM, YE, Yk, Yz, Yl, Yu, YA, Yt, Yh, YI, ZP, ZY, List.cons_append, List.nil_append, Bool.not_true, Bool.not_false, ZN, YS, YR, YQ])
    refine spec_less _ _ _ M zs _ _ (Vz (p4.trans p5) hm) f5 (by lia) (by lia) fun k6 ms H6 p6 lk6 f6 hms lms ems => ?_
    rw [ps_times cz] at ems
    have pp := p4.trans (p5.trans p6)
    (try simp -implicitDefEqProofs only [↓Ve, ↓Vf, ↓Vs, ↓Vl, ↓YU, ↓Vb, ↓Vu, ↓Ym, ↓Vk, ↓VI, ↓Vh, ↓YD, ↓Vj, ↓Yg, ↓Yy, ↓Ys, ↓Yo, ↓Yp, ↓Ye, Yc, ZA, ZS, Yb, Yr, ZF, Zx, ZD, ZT, ZX, ZO, Yd, YG, ZZ, YT, Yn, ZJ, YL, YK, Vc, Yw, ZU, ZR, YC, ZQ, ZV, ZH, YV, Vq, Vd, Vt, Vi, Vr, Va, Vo, Vg, YY, YJ, Yi, Zm, Zh, Zc, Zb, ZC, Zu, ZB, ZL, ZI, ZM, ZG, ZE, YF, Zz, Zy, Zw, Zt, Zr, Zo, Zv, Zn, Zi, Zp, Zl, Zd, Zk, Ze, Zj, Zf, Zg, Za, Yq, YB, Yv, ZW, Yx, YX, YZ, Vm, YW, Yj, YH, Vp, Vn, Zq, Zs, YM, YE, Yk, Yz, Yl, Yu, YA, Yt, Yh, YI, ZP, ZY, List.cons_append, List.nil_append, Bool.not_true, Bool.not_false, ZN, YS, YR, YQ])
    (with_reducible first | refine Vx ?_ | (refine VC ?_; intro J)); simp -implicitDefEqProofs only [↓Ve, ↓Vf, ↓Vs, ↓Vl, ↓YU, ↓Vb, ↓Vu, ↓Ym, ↓Vk, ↓VI, ↓Vh, ↓YD, ↓Vj, ↓Yg, ↓Yy, ↓Ys, ↓Yo, ↓Yp, ↓Ye, Yc, ZA, ZS, Yb, Yr, ZF, Zx, ZD, ZT, ZX, ZO, Yd, YG, ZZ, YT, Yn, ZJ, YL, YK, Vc, Yw, ZU, ZR, YC, ZQ, ZV, ZH, YV, Vq, Vd, Vt, Vi, Vr, Va, Vo, Vg, YY, YJ, Yi, Zm, Zh, Zc, Zb, ZC, Zu, ZB, ZL, ZI, ZM, ZG, ZE, YF, Zz, Zy, Zw, Zt, Zr, Zo, Zv, Zn, Zi, Zp, Zl, Zd, Zk, Ze, Zj, Zf, Zg, Za, Yq, YB, Yv, ZW, Yx, YX, YZ, Vm, YW, Yj, YH, Vp, Vn, Zq, Zs, YM, YE, Yk, Yz, Yl, Yu, YA, Yt, Yh, YI, ZP, ZY, List.cons_append, List.nil_append, Bool.not_true, Bool.not_false, ZN, YS, YR, YQ]
    (with_reducible first | refine Vx ?_ | (refine VC ?_; intro J)); simp -implicitDefEqProofs only [↓Ve, ↓Vf, ↓Vs, ↓Vl, ↓YU, ↓Vb, ↓Vu, ↓Ym, ↓Vk, ↓VI, ↓Vh, ↓YD, ↓Vj, ↓Yg, ↓Yy, ↓Ys, ↓Yo, ↓Yp, ↓Ye, Yc, ZA, ZS, Yb, Yr, ZF, Zx, ZD, ZT, ZX, ZO, Yd, YG, ZZ, YT, Yn, ZJ, YL, YK, Vc, Yw, ZU, ZR, YC, ZQ, ZV, ZH, YV, Vq, Vd, Vt, Vi, Vr, Va, Vo, Vg, YY, YJ, Yi, Zm, Zh, Zc, Zb, ZC, Zu, ZB, ZL, ZI, ZM, ZG, ZE, YF, Zz, Zy, Zw, Zt, Zr, Zo, Zv, Zn, Zi, Zp, Zl, Zd, Zk, Ze, Zj, Zf, Zg, Za, Yq, YB, Yv, ZW, Yx, YX, YZ, Vm, YW, Yj, YH, Vp, Vn, Zq, Zs, YM, YE, Yk, Yz, Yl, Yu, YA, Yt, Yh, YI, ZP, ZY, List.cons_append, List.nil_append, Bool.not_true, Bool.not_false, ZN, YS, YR, YQ]
    exact ⟨rs.length, hlt, kr, l, kl, k6, R, rs, L, ms, _, _, _, hp.trans pp, Vz pp hr, Vz (p5.trans p6) r4, Vz pp hl', f6, fi_step I (by lia) ⟨rr, tr⟩ hms hlt heq ems, rfl, rfl⟩
  clear q1 q2 q3 q4 p3 hR g1' g2 p2' cR lR tR p2 g1 p1
  rintro m' H' ⟨ka, kr, km, kl, A, R, M, L, t8, t9, t10, hp, ha, hr, hm, hl', I, hRu, rfl⟩
  (try (with_reducible (first | refine Vy ?_ | refine Vw ?_); intro J))
  have I' := I
  obtain ⟨hA, hR, hM, hL, -, -, -, len, -, lML, lup⟩ := I'
  have lAR := I.2.2.2.2.2.2.2.2.1
  have l0 : 0 < L.length := by lia
  (with_reducible first | refine Vx ?_ | (refine VC ?_; intro J)); simp -implicitDefEqProofs only [↓Ve, ↓Vf, ↓Vs, ↓Vl, ↓YU, ↓Vb, ↓Vu, ↓Ym, ↓Vk, ↓VI, ↓Vh, ↓YD, ↓Vj, ↓Yg, ↓Yy, ↓Ys, ↓Yo, ↓Yp, ↓Ye, Yc, ZA, ZS, Yb, Yr, ZF, Zx, ZD, ZT, ZX, ZO, Yd, YG, ZZ, YT, Yn, ZJ, YL, YK, Vc, Yw, ZU, ZR, YC, ZQ, ZV, ZH, YV, Vq, Vd, Vt, Vi, Vr, Va, Vo, Vg, YY, YJ, Yi, Zm, Zh, Zc, Zb, ZC, Zu, ZB, ZL, ZI, ZM, ZG, ZE, YF, Zz, Zy, Zw, Zt, Zr, Zo, Zv, Zn, Zi, Zp, Zl, Zd, Zk, Ze, Zj, Zf, Zg, Za, Yq, YB, Yv, ZW, Yx, YX, YZ, Vm, YW, Yj, YH, Vp, Vn, Zq, Zs, YM, YE, Yk, Yz, Yl, Yu, YA, Yt, Yh, YI, ZP, ZY, List.cons_append, List.nil_append, Bool.not_true, Bool.not_false, ZN, YS, YR, YQ, VH hl', VR]
  rw [if_neg (by lia)]
  refine first_item l0 ?_
  (try simp -implicitDefEqProofs only [↓Ve, ↓Vf, ↓Vs, ↓Vl, ↓YU, ↓Vb, ↓Vu, ↓Ym, ↓Vk, ↓VI, ↓Vh, ↓YD, ↓Vj, ↓Yg, ↓Yy, ↓Ys, ↓Yo, ↓Yp, ↓Ye, Yc, ZA, ZS, Yb, Yr, ZF, Zx, ZD, ZT, ZX, ZO, Yd, YG, ZZ, YT, Yn, ZJ, YL, YK, Vc, Yw, ZU, ZR, YC, ZQ, ZV, ZH, YV, Vq, Vd, Vt, Vi, Vr, Va, Vo, Vg, YY, YJ, Yi, Zm, Zh, Zc, Zb, ZC, Zu, ZB, ZL, ZI, ZM, ZG, ZE, YF, Zz, Zy, Zw, Zt, Zr, Zo, Zv, Zn, Zi, Zp, Zl, Zd, Zk, Ze, Zj, Zf, Zg, Za, Yq, YB, Yv, ZW, Yx, YX, YZ, Vm, YW, Yj, YH, Vp, Vn, Zq, Zs, YM, YE, Yk, Yz, Yl, Yu, YA, Yt, Yh, YI, ZP, ZY, List.cons_append, List.nil_append, Bool.not_true, Bool.not_false, ZN, YS, YR, YQ])
  split
  · rename_i c0
    (with_reducible first | refine Vx ?_ | (refine VC ?_; intro J)); simp -implicitDefEqProofs only [↓Ve, ↓Vf, ↓Vs, ↓Vl, ↓YU, ↓Vb, ↓Vu, ↓Ym, ↓Vk, ↓VI, ↓Vh, ↓YD, ↓Vj, ↓Yg, ↓Yy, ↓Ys, ↓Yo, ↓Yp, ↓Ye, Yc, ZA, ZS, Yb, Yr, ZF, Zx, ZD, ZT, ZX, ZO, Yd, YG, ZZ, YT, Yn, ZJ, YL, YK, Vc, Yw, ZU, ZR, YC, ZQ, ZV, ZH, YV, Vq, Vd, Vt, Vi, Vr, Va, Vo, Vg, YY, YJ, Yi, Zm, Zh, Zc, Zb, ZC, Zu, ZB, ZL, ZI, ZM, ZG, ZE, YF, Zz, Zy, Zw, Zt, Zr, Zo, Zv, Zn, Zi, Zp, Zl, Zd, Zk, Ze, Zj, Zf, Zg, Za, Yq, YB, Yv, ZW, Yx, YX, YZ, Vm, YW, Yj, YH, Vp, Vn, Zq, Zs, YM, YE, Yk, Yz, Yl, Yu, YA, Yt, Yh, YI, ZP, ZY, List.cons_append, List.nil_append, Bool.not_true, Bool.not_false, ZN, YS, YR, YQ]
    exact hNo H' A R M L hp I hRu c0
  rename_i c0
  refine withL_of hl' ?_
  rw [VR, if_neg (by lia)]
  have f0 : fz (co L 0) ≠ 0 := fun q => c0 (fz_inj (co_red hL.1 0) (by lia) (q.trans fz_zero.symm))
  have hinv := inv_mul f0
  (with_reducible first | refine Vx ?_ | (refine VC ?_; intro J)); simp -implicitDefEqProofs only [↓Ve, ↓Vf, ↓Vs, ↓Vl, ↓YU, ↓Vb, ↓Vu, ↓Ym, ↓Vk, ↓VI, ↓Vh, ↓YD, ↓Vj, ↓Yg, ↓Yy, ↓Ys, ↓Yo, ↓Yp, ↓Ye, Yc, ZA, ZS, Yb, Yr, ZF, Zx, ZD, ZT, ZX, ZO, Yd, YG, ZZ, YT, Yn, ZJ, YL, YK, Vc, Yw, ZU, ZR, YC, ZQ, ZV, ZH, YV, Vq, Vd, Vt, Vi, Vr, Va, Vo, Vg, YY, YJ, Yi, Zm, Zh, Zc, Zb, ZC, Zu, ZB, ZL, ZI, ZM, ZG, ZE, YF, Zz, Zy, Zw, Zt, Zr, Zo, Zv, Zn, Zi, Zp, Zl, Zd, Zk, Ze, Zj, Zf, Zg, Za, Yq, YB, Yv, ZW, Yx, YX, YZ, Vm, YW, Yj, YH, Vp, Vn, Zq, Zs, YM, YE, Yk, Yz, Yl, Yu, YA, Yt, Yh, YI, ZP, ZY, List.cons_append, List.nil_append, Bool.not_true, Bool.not_false, ZN, YS, YR, YQ, VH hl']
  refine first_item l0 ?_
  refine spec_inverse _ _ _ _ ?_
  generalize inv (co L 0) = f at hinv
  (try simp -implicitDefEqProofs only [↓Ve, ↓Vf, ↓Vs, ↓Vl, ↓YU, ↓Vb, ↓Vu, ↓Ym, ↓Vk, ↓VI, ↓Vh, ↓YD, ↓Vj, ↓Yg, ↓Yy, ↓Ys, ↓Yo, ↓Yp, ↓Ye, Yc, ZA, ZS, Yb, Yr, ZF, Zx, ZD, ZT, ZX, ZO, Yd, YG, ZZ, YT, Yn, ZJ, YL, YK, Vc, Yw, ZU, ZR, YC, ZQ, ZV, ZH, YV, Vq, Vd, Vt, Vi, Vr, Va, Vo, Vg, YY, YJ, Yi, Zm, Zh, Zc, Zb, ZC, Zu, ZB, ZL, ZI, ZM, ZG, ZE, YF, Zz, Zy, Zw, Zt, Zr, Zo, Zv, Zn, Zi, Zp, Zl, Zd, Zk, Ze, Zj, Zf, Zg, Za, Yq, YB, Yv, ZW, Yx, YX, YZ, Vm, YW, Yj, YH, Vp, Vn, Zq, Zs, YM, YE, Yk, Yz, Yl, Yu, YA, Yt, Yh, YI, ZP, ZY, List.cons_append, List.nil_append, Bool.not_true, Bool.not_false, ZN, YS, YR, YQ])
  (with_reducible first | refine Vx ?_ | (refine VC ?_; intro J)); simp -implicitDefEqProofs only [↓Ve, ↓Vf, ↓Vs, ↓Vl, ↓YU, ↓Vb, ↓Vu, ↓Ym, ↓Vk, ↓VI, ↓Vh, ↓YD, ↓Vj, ↓Yg, ↓Yy, ↓Ys, ↓Yo, ↓Yp, ↓Ye, Yc, ZA, ZS, Yb, Yr, ZF, Zx, ZD, ZT, ZX, ZO, Yd, YG, ZZ, YT, Yn, ZJ, YL, YK, Vc, Yw, ZU, ZR, YC, ZQ, ZV, ZH, YV, Vq, Vd, Vt, Vi, Vr, Va, Vo, Vg, YY, YJ, Yi, Zm, Zh, Zc, Zb, ZC, Zu, ZB, ZL, ZI, ZM, ZG, ZE, YF, Zz, Zy, Zw, Zt, Zr, Zo, Zv, Zn, Zi, Zp, Zl, Zd, Zk, Ze, Zj, Zf, Zg, Za, Yq, YB, Yv, ZW, Yx, YX, YZ, Vm, YW, Yj, YH, Vp, Vn, Zq, Zs, YM, YE, Yk, Yz, Yl, Yu, YA, Yt, Yh, YI, ZP, ZY, List.cons_append, List.nil_append, Bool.not_true, Bool.not_false, ZN, YS, YR, YQ]
  refine spec_times _ _ _ R [f] _ _ (get_old hr) (VP (vs := [V.int f])) hR.1 (by lia) (by simp) fun k5 us H5 p5 lk5 f5 tu ru lu cu => ?_
  (try simp -implicitDefEqProofs only [↓Ve, ↓Vf, ↓Vs, ↓Vl, ↓YU, ↓Vb, ↓Vu, ↓Ym, ↓Vk, ↓VI, ↓Vh, ↓YD, ↓Vj, ↓Yg, ↓Yy, ↓Ys, ↓Yo, ↓Yp, ↓Ye, Yc, ZA, ZS, Yb, Yr, ZF, Zx, ZD, ZT, ZX, ZO, Yd, YG, ZZ, YT, Yn, ZJ, YL, YK, Vc, Yw, ZU, ZR, YC, ZQ, ZV, ZH, YV, Vq, Vd, Vt, Vi, Vr, Va, Vo, Vg, YY, YJ, Yi, Zm, Zh, Zc, Zb, ZC, Zu, ZB, ZL, ZI, ZM, ZG, ZE, YF, Zz, Zy, Zw, Zt, Zr, Zo, Zv, Zn, Zi, Zp, Zl, Zd, Zk, Ze, Zj, Zf, Zg, Za, Yq, YB, Yv, ZW, Yx, YX, YZ, Vm, YW, Yj, YH, Vp, Vn, Zq, Zs, YM, YE, Yk, Yz, Yl, Yu, YA, Yt, Yh, YI, ZP, ZY, List.cons_append, List.nil_append, Bool.not_true, Bool.not_false, ZN, YS, YR, YQ])
  refine spec_times _ _ _ L [f] _ _ (get_old (Vz p5 (get_old hl'))) (VP (vs := [V.int f])) hL.1 (by lia) (by simp) fun k6 ls H6 p6 lk6 f6 tl rl ll cl => ?_
  (try simp -implicitDefEqProofs only [↓Ve, ↓Vf, ↓Vs, ↓Vl, ↓YU, ↓Vb, ↓Vu, ↓Ym, ↓Vk, ↓VI, ↓Vh, ↓YD, ↓Vj, ↓Yg, ↓Yy, ↓Ys, ↓Yo, ↓Yp, ↓Ye, Yc, ZA, ZS, Yb, Yr, ZF, Zx, ZD, ZT, ZX, ZO, Yd, YG, ZZ, YT, Yn, ZJ, YL, YK, Vc, Yw, ZU, ZR, YC, ZQ, ZV, ZH, YV, Vq, Vd, Vt, Vi, Vr, Va, Vo, Vg, YY, YJ, Yi, Zm, Zh, Zc, Zb, ZC, Zu, ZB, ZL, ZI, ZM, ZG, ZE, YF, Zz, Zy, Zw, Zt, Zr, Zo, Zv, Zn, Zi, Zp, Zl, Zd, Zk, Ze, Zj, Zf, Zg, Za, Yq, YB, Yv, ZW, Yx, YX, YZ, Vm, YW, Yj, YH, Vp, Vn, Zq, Zs, YM, YE, Yk, Yz, Yl, Yu, YA, Yt, Yh, YI, ZP, ZY, List.cons_append, List.nil_append, Bool.not_true, Bool.not_false, ZN, YS, YR, YQ])
  have w1 := lt_of f5
  have w2 := hp.length_le
  simp only [List.length_append, List.length_singleton] at lk5 lk6
  exact hF k5 k6 us ls H6 f A R M L (hp.trans ((List.prefix_append _ _).trans (p5.trans ((List.prefix_append _ _).trans p6)))) (by lia) (by lia) (by lia) (Vz ((List.prefix_append _ _).trans p6) f5) f6 ⟨ru, tu⟩ ⟨rl, tl⟩ I hRu hinv (ps_times cu) (ps_times cl)

end Mine

--STEP: ZN, YS, YR, YQ
open PySem
set_option linter.unusedSimpArgs false
set_option linter.unusedVariables false
namespace Mine

/-! ## finds -/
noncomputable def behind (A L O : List Int) : List Int := (A.filter fun a => !decide (a ∈ O)) ++ L
/-- what makes two lists a find, beyond their order and size -/
noncomputable def Fits (A : List Int) (c : Int) (S L O : List Int) : Prop :=
  (∀ a ∈ L, a ∉ A) ∧ (∀ a ∈ O, a ∈ A) ∧ L.length + O.length ≤ S.length ∧ ((behind A L O).length : Int) = c ∧ sumsL (behind A L O) S.length = S
noncomputable def Find (A : List Int) (c : Int) (S L O : List Int) : Prop := (L.Pairwise (· < ·) ∧ Num L) ∧ (O.Pairwise (· < ·) ∧ Num O) ∧ Fits A c S L O

theorem rise_nodup {L : List Int} (h : L.Pairwise (· < ·)) : L.Nodup := h.imp fun q => by lia
theorem over_perm {A O : List Int} (dA : A.Nodup) (dO : O.Nodup) (hs : ∀ a ∈ O, a ∈ A) : (O ++ A.filter fun a => !decide (a ∈ O)).Perm A := by
  refine List.Perm.trans (List.Perm.append_right _ ?_) (List.filter_append_perm (fun a => decide (a ∈ O)) A)
  refine (List.perm_ext_iff_of_nodup dO (dA.filter _)).mpr fun a => ?_
  rw [List.mem_filter]
  exact ⟨fun h => ⟨hs a h, decide_eq_true h⟩, fun h => of_decide_eq_true h.2⟩
theorem pws_perm {A B : List Int} (h : A.Perm B) (k : Nat) : pws A k = pws B k := by
  induction h with
  | nil => rfl
  | cons x _ ih => simp only [pws, ih]
  | swap x y l => simp only [pws]; lia
  | trans _ _ h1 h2 => exact h1.trans h2
theorem find_len {A S L O : List Int} {c : Int} (dA : A.Nodup) (dO : O.Nodup) (h : Fits A c S L O) : (L.length : Int) - O.length = c - A.length := by
  obtain ⟨-, hs, -, hc, -⟩ := h
  have := (over_perm dA dO hs).length_eq
  rw [List.length_append] at this
  rw [behind, List.length_append] at hc
  lia
theorem find_gap {A S L O : List Int} {c : Int} (dA : A.Nodup) (dO : O.Nodup) (h : Fits A c S L O) (t : Nat) (ht : t < S.length + 1) : ps (0 :: gapsL A S) t = pw L t - pw O t := by
  obtain ⟨-, hs, -, -, hS⟩ := h
  cases t with
  | zero => rw [pw_zero, pw_zero]; show (0 : F) = 0 - 0; grind
  | succ t =>
    have e1 : fz (co (sumsL (behind A L O) S.length) t) = fz (co S t) := by rw [hS]
    rw [sumsL_co _ (by lia), fz_mod, behind, pws_append, fz_add] at e1
    have e2 := congrArg fz (pws_perm (over_perm dA dO hs) (t + 1))
    rw [pws_append, fz_add] at e2
    show fz (co (gapsL A S) t) = _
    rw [gapsL_co A S (by lia), fz_mod, fz_sub, ← fz_pws L (by lia), ← fz_pws O (by lia)]
    grind

/-- the fraction of a find -/
theorem find_frac {A S L O C B R M W : List Int} {c : Int} {up down : Nat} (dA : A.Nodup) (hC : Ser (gapsL A S) C) (h : Find A c S L O) (I : FI (up + down + 1) up (ps C) B R M W) (hR : R.length ≤ up + 1) (hu : L.length ≤ up) (hd : O.length ≤ down) (hs : up + down ≤ S.length) (hS : S.length ≤ 12) :
    ∃ k : F, k ≠ 0 ∧ (∀ t, ps W t = k * pr O t) ∧ ∀ t, ps R t = k * pr L t := by
  obtain ⟨⟨rL, nL⟩, ⟨rO, nO⟩, hf⟩ := h
  obtain ⟨hA, hR', hM, hL, aR, aA, ⟨e', he', det⟩, hlen, hRA, hML, hup⟩ := I
  obtain ⟨x, y, px, py, e⟩ := pr_apart (A := L) (B := O) fun a ha b hb q => by
    have h1 := nL a ha
    have h2 := nO b hb
    have eq := fz_inj (by lia) (by lia) q
    exact hf.1 a ha (eq ▸ hf.2.1 b hb)
  have key := newton_frac (A := L) (B := O) (N := (gapsL A S).length + 1) (by rw [gapsL_len]; lia) (ser_zero hC) (ser_eu hC) fun t ht => find_gap dA (rise_nodup rO) hf t (by rwa [gapsL_len] at ht)
  exact pade rfl he' (show (1 : F) ≠ 0 by decide) (pol_ps B) (pol_ps M) px py aR aA det (dg_le (ps_dg R) hR) (dg_le (ps_dg W) (by lia)) (fun t ht => key t (by rw [gapsL_len]; lia)) (dg_le (pr_dg L) (by lia)) (dg_le (pr_dg O) (by lia)) e
theorem frac_ps {R W us : List Int} {f : Int} {k : F} {Z : PS} (hk : ps W 0 = k) (hf : fz (co W 0) * fz f = 1) (hR : ∀ t, ps R t = k * Z t) (h : ps us = pm (ps R) (ps [f])) : ps us = Z := by
  rw [h, ps_single]
  funext t
  show ml (ps R) (cs (fz f)) t = Z t
  have hk' : fz (co W 0) = k := hk
  rw [ml_comm, ml_cs, hR, ← hk']
  grind

/-! ## numbers_of -/
noncomputable def Nums (us js : List Int) : Prop := (js.Pairwise (· < ·) ∧ Num js) ∧ js.Perm ((rootsOf us).map inv)
theorem u_sorted {H : Hp} {k : Nat} {xs : List Int} {P : PV} (hk : H[k]? = some (zl xs)) : wpU .sorted (.ref k) H P = (xs.length < 64 ∧ ∀ js : List Int, js.Perm xs → js.Pairwise (· ≤ ·) → P (.ref H.length) (H ++ [zl js])) := by
  simp only [wpU, refV, ref?, optV, hk, zl?_ints]
theorem rise_of {js xs : List Int} (hp : js.Perm xs) (hd : xs.Nodup) (hs : js.Pairwise (· ≤ ·)) : js.Pairwise (· < ·) := hs.imp₂ (fun a b (h1 : a ≤ b) (h2 : a ≠ b) => by lia) (hp.nodup_iff.mpr hd)
theorem nums_of {us js : List Int} (hp : js.Perm ((rootsOf us).map inv)) (hs : js.Pairwise (· ≤ ·)) : Nums us js := by
  refine ⟨⟨rise_of hp (nodup_map (fun a ha b hb e => inv_inj (mem_roots.mp ha).1 (mem_roots.mp hb).1 e) (roots_nodup us)) hs, fun a ha => ?_⟩, hp⟩
  obtain ⟨r, hr, rfl⟩ := List.mem_map.mp (hp.mem_iff.mp ha)
  exact inv_num (mem_roots.mp hr).1
theorem rise_eq {L L' : List Int} (h : L.Pairwise (· < ·)) (h' : L'.Pairwise (· < ·)) (hp : L.Perm L') : L = L' := List.Perm.eq_of_pairwise (le := (· < ·)) (fun a b _ _ h1 h2 => by lia) h h' hp
theorem nums_eq {us js L : List Int} (hu : Red us ∧ Trim us) (h : Nums us js) (rL : L.Pairwise (· < ·) ∧ Num L) (e : ps us = pr L) : L = js :=
  rise_eq rL.1 h.1.1 (List.Perm.symm (h.2.trans (pr_roots hu.1 hu.2 rL.2 (rise_nodup rL.1) e)))

theorem spec_numbers_of (n k : Nat) (us : List Int) (H : Hp) (P : PV) (hk : H[k]? = some (zl us)) (hu : Red us ∧ Trim us) (nu : us ≠ []) (lu : us.length ≤ 60)
    (hNo : ∀ H', H <+: H' → (∀ L, L.Pairwise (· < ·) ∧ Num L → ps us ≠ pr L) → P .none H') (hYes : ∀ k' js H', H <+: H' → H.length ≤ k' → H'[k']? = some (zl js) → Nums us js → P (.ref k') H') : run T (n + 3) 34 [.ref k] H P := by
  have hl := roots_le hu.1 hu.2 nu
  refine run_succ (d := f_numbers_of) rfl rfl (by decide) ?_
  simp only [f_numbers_of, entry, List.map, List.replicate, Nat.reduceSub, List.cons_append, List.nil_append]
  (with_reducible first | refine Vx ?_ | (refine VC ?_; intro J)); simp only [↓Ve, ↓Vf, ↓Vs, ↓Vl, ↓YU, ↓Vb, ↓Vu, ↓Ym, ↓Vk, ↓VI, ↓Vh, ↓YD, ↓Vj, ↓Yg, ↓Yy, ↓Ys, ↓Yo, ↓Yp, ↓Ye, Yc, ZA, ZS, Yb, Yr, ZF, Zx, ZD, ZT, ZX, ZO, Yd, YG, ZZ, YT, Yn, ZJ, YL, YK, Vc, Yw, ZU, ZR, YC, ZQ, ZV, ZH, YV, Vq, Vd, Vt, Vi, Vr, Va, Vo, Vg, YY, YJ, Yi, Zm, Zh, Zc, Zb, ZC, Zu, ZB, ZL, ZI, ZM, ZG, ZE, YF, Zz, Zy, Zw, Zt, Zr, Zo, Zv, Zn, Zi, Zp, Zl, Zd, Zk, Ze, Zj, Zf, Zg, Za, Yq, YB, Yv, ZW, Yx, YX, YZ, Vm, YW, Yj, YH, Vp, Vn, Zq, Zs, YM, YE, Yk, Yz, Yl, Yu, YA, Yt, Yh, YI, ZP, ZY, List.cons_append, List.nil_append, Bool.not_true, Bool.not_false, ZN, YS, YR, YQ]
  refine spec_roots _ _ us _ _ hk ?_
  (try simp only [↓Ve, ↓Vf, ↓Vs, ↓Vl, ↓YU, ↓Vb, ↓Vu, ↓Ym, ↓Vk, ↓VI, ↓Vh, ↓YD, ↓Vj, ↓Yg, ↓Yy, ↓Ys, ↓Yo, ↓Yp, ↓Ye, Yc, ZA, ZS, Yb, Yr, ZF, Zx, ZD, ZT, ZX, ZO, Yd, YG, ZZ, YT, Yn, ZJ, YL, YK, Vc, Yw, ZU, ZR, YC, ZQ, ZV, ZH, YV, Vq, Vd, Vt, Vi, Vr, Va, Vo, Vg, YY, YJ, Yi, Zm, Zh, Zc, Zb, ZC, Zu, ZB, ZL, ZI, ZM, ZG, ZE, YF, Zz, Zy, Zw, Zt, Zr, Zo, Zv, Zn, Zi, Zp, Zl, Zd, Zk, Ze, Zj, Zf, Zg, Za, Yq, YB, Yv, ZW, Yx, YX, YZ, Vm, YW, Yj, YH, Vp, Vn, Zq, Zs, YM, YE, Yk, Yz, Yl, Yu, YA, Yt, Yh, YI, ZP, ZY, List.cons_append, List.nil_append, Bool.not_true, Bool.not_false, ZN, YS, YR, YQ])
  refine comp_lmap (VB _ _) VP inv (fun a ha H' hp R hR => ?_) fun H' hp => ?_
  · (try simp only [↓Ve, ↓Vf, ↓Vs, ↓Vl, ↓YU, ↓Vb, ↓Vu, ↓Ym, ↓Vk, ↓VI, ↓Vh, ↓YD, ↓Vj, ↓Yg, ↓Yy, ↓Ys, ↓Yo, ↓Yp, ↓Ye, Yc, ZA, ZS, Yb, Yr, ZF, Zx, ZD, ZT, ZX, ZO, Yd, YG, ZZ, YT, Yn, ZJ, YL, YK, Vc, Yw, ZU, ZR, YC, ZQ, ZV, ZH, YV, Vq, Vd, Vt, Vi, Vr, Va, Vo, Vg, YY, YJ, Yi, Zm, Zh, Zc, Zb, ZC, Zu, ZB, ZL, ZI, ZM, ZG, ZE, YF, Zz, Zy, Zw, Zt, Zr, Zo, Zv, Zn, Zi, Zp, Zl, Zd, Zk, Ze, Zj, Zf, Zg, Za, Yq, YB, Yv, ZW, Yx, YX, YZ, Vm, YW, Yj, YH, Vp, Vn, Zq, Zs, YM, YE, Yk, Yz, Yl, Yu, YA, Yt, Yh, YI, ZP, ZY, List.cons_append, List.nil_append, Bool.not_true, Bool.not_false, ZN, YS, YR, YQ])
    refine spec_inverse _ _ _ _ ?_
    exact hR _ (List.prefix_refl _)
  rw [u_sorted VP]
  refine ⟨by rw [List.length_map]; lia, fun js hj hs => ?_⟩
  have hN := nums_of hj hs
  have hp' := (List.prefix_append H [zl (rootsOf us)]).trans hp
  have hl1 := hp'.length_le
  have hjl := hj.length_eq
  rw [List.length_map] at hjl
  (try simp only [↓Ve, ↓Vf, ↓Vs, ↓Vl, ↓YU, ↓Vb, ↓Vu, ↓Ym, ↓Vk, ↓VI, ↓Vh, ↓YD, ↓Vj, ↓Yg, ↓Yy, ↓Ys, ↓Yo, ↓Yp, ↓Ye, Yc, ZA, ZS, Yb, Yr, ZF, Zx, ZD, ZT, ZX, ZO, Yd, YG, ZZ, YT, Yn, ZJ, YL, YK, Vc, Yw, ZU, ZR, YC, ZQ, ZV, ZH, YV, Vq, Vd, Vt, Vi, Vr, Va, Vo, Vg, YY, YJ, Yi, Zm, Zh, Zc, Zb, ZC, Zu, ZB, ZL, ZI, ZM, ZG, ZE, YF, Zz, Zy, Zw, Zt, Zr, Zo, Zv, Zn, Zi, Zp, Zl, Zd, Zk, Ze, Zj, Zf, Zg, Za, Yq, YB, Yv, ZW, Yx, YX, YZ, Vm, YW, Yj, YH, Vp, Vn, Zq, Zs, YM, YE, Yk, Yz, Yl, Yu, YA, Yt, Yh, YI, ZP, ZY, List.cons_append, List.nil_append, Bool.not_true, Bool.not_false, ZN, YS, YR, YQ])
  have gj : (H' ++ [zl ((rootsOf us).map inv)] ++ [zl js])[(H' ++ [zl ((rootsOf us).map inv)]).length]? = some (zl js) := VP
  have pj : H <+: H' ++ [zl ((rootsOf us).map inv)] ++ [zl js] := pre_app (pre_app hp')
  have lj : H.length ≤ (H' ++ [zl ((rootsOf us).map inv)]).length := by rw [List.length_append]; lia
  generalize H' ++ [zl ((rootsOf us).map inv)] ++ [zl js] = H2 at *
  generalize (H' ++ [zl ((rootsOf us).map inv)]).length = k2 at *
  (with_reducible first | refine Vx ?_ | (refine VC ?_; intro J)); simp only [↓Ve, ↓Vf, ↓Vs, ↓Vl, ↓YU, ↓Vb, ↓Vu, ↓Ym, ↓Vk, ↓VI, ↓Vh, ↓YD, ↓Vj, ↓Yg, ↓Yy, ↓Ys, ↓Yo, ↓Yp, ↓Ye, Yc, ZA, ZS, Yb, Yr, ZF, Zx, ZD, ZT, ZX, ZO, Yd, YG, ZZ, YT, Yn, ZJ, YL, YK, Vc, Yw, ZU, ZR, YC, ZQ, ZV, ZH, YV, Vq, Vd, Vt, Vi, Vr, Va, Vo, Vg, YY, YJ, Yi, Zm, Zh, Zc, Zb, ZC, Zu, ZB, ZL, ZI, ZM, ZG, ZE, YF, Zz, Zy, Zw, Zt, Zr, Zo, Zv, Zn, Zi, Zp, Zl, Zd, Zk, Ze, Zj, Zf, Zg, Za, Yq, YB, Yv, ZW, Yx, YX, YZ, Vm, YW, Yj, YH, Vp, Vn, Zq, Zs, YM, YE, Yk, Yz, Yl, Yu, YA, Yt, Yh, YI, ZP, ZY, List.cons_append, List.nil_append, Bool.not_true, Bool.not_false, ZN, YS, YR, YQ, VH gj, VH (Vz pj hk), VR]
  split
  · (with_reducible first | refine Vx ?_ | (refine VC ?_; intro J)); simp only [↓Ve, ↓Vf, ↓Vs, ↓Vl, ↓YU, ↓Vb, ↓Vu, ↓Ym, ↓Vk, ↓VI, ↓Vh, ↓YD, ↓Vj, ↓Yg, ↓Yy, ↓Ys, ↓Yo, ↓Yp, ↓Ye, Yc, ZA, ZS, Yb, Yr, ZF, Zx, ZD, ZT, ZX, ZO, Yd, YG, ZZ, YT, Yn, ZJ, YL, YK, Vc, Yw, ZU, ZR, YC, ZQ, ZV, ZH, YV, Vq, Vd, Vt, Vi, Vr, Va, Vo, Vg, YY, YJ, Yi, Zm, Zh, Zc, Zb, ZC, Zu, ZB, ZL, ZI, ZM, ZG, ZE, YF, Zz, Zy, Zw, Zt, Zr, Zo, Zv, Zn, Zi, Zp, Zl, Zd, Zk, Ze, Zj, Zf, Zg, Za, Yq, YB, Yv, ZW, Yx, YX, YZ, Vm, YW, Yj, YH, Vp, Vn, Zq, Zs, YM, YE, Yk, Yz, Yl, Yu, YA, Yt, Yh, YI, ZP, ZY, List.cons_append, List.nil_append, Bool.not_true, Bool.not_false, ZN, YS, YR, YQ]
    exact hYes k2 js H2 pj lj gj hN
  · rename_i c
    (with_reducible first | refine Vx ?_ | (refine VC ?_; intro J)); simp only [↓Ve, ↓Vf, ↓Vs, ↓Vl, ↓YU, ↓Vb, ↓Vu, ↓Ym, ↓Vk, ↓VI, ↓Vh, ↓YD, ↓Vj, ↓Yg, ↓Yy, ↓Ys, ↓Yo, ↓Yp, ↓Ye, Yc, ZA, ZS, Yb, Yr, ZF, Zx, ZD, ZT, ZX, ZO, Yd, YG, ZZ, YT, Yn, ZJ, YL, YK, Vc, Yw, ZU, ZR, YC, ZQ, ZV, ZH, YV, Vq, Vd, Vt, Vi, Vr, Va, Vo, Vg, YY, YJ, Yi, Zm, Zh, Zc, Zb, ZC, Zu, ZB, ZL, ZI, ZM, ZG, ZE, YF, Zz, Zy, Zw, Zt, Zr, Zo, Zv, Zn, Zi, Zp, Zl, Zd, Zk, Ze, Zj, Zf, Zg, Za, Yq, YB, Yv, ZW, Yx, YX, YZ, Vm, YW, Yj, YH, Vp, Vn, Zq, Zs, YM, YE, Yk, Yz, Yl, Yu, YA, Yt, Yh, YI, ZP, ZY, List.cons_append, List.nil_append, Bool.not_true, Bool.not_false, ZN, YS, YR, YQ]
    refine hNo H2 pj fun L hL e => c ?_
    have e1 := nums_eq hu hN hL e
    have e2 := pr_len hu.1 hu.2 hL.2 e
    rw [e1] at e2
    lia

/-! ## is_find -/
theorem b_eq_tup {X Y : List Int} {H : Hp} {P : PV} : wpB .eq (.tup (zl X)) (.tup (zl Y)) H P = P (.bool (decide (X = Y))) H := by
  simp only [wpB, optV, deep, deepL_zl, Option.map_some]
  rw [show PyData.eqv (.tuple (X.map PyData.int)) (.tuple (Y.map PyData.int)) = PyData.eqvAll (X.map PyData.int) (Y.map PyData.int) by simp only [PyData.eqv], eqv_zs]
theorem none_pos {A : List Int} {p : Int → Bool} : (0 : Int) < (A.filter p).length ↔ ¬ ∀ a ∈ A, ¬ p a = true := by
  rw [← List.filter_eq_nil_iff, ← List.length_eq_zero_iff]; lia

theorem spec_is_find (n k i j : Nat) (A S L O : List Int) (c : Int) (H : Hp) (P : PV) (hk : H[k]? = some (zl A)) (hi : H[i]? = some (zl L)) (hj : H[j]? = some (zl O)) (lA : A.length ≤ 4000) (lL : L.length ≤ 100) (lS : S.length ≤ 100)
    (hNo : ∀ H', H <+: H' → ¬ Fits A c S L O → P (.bool false) H') (hYes : ∀ H', H <+: H' → Fits A c S L O → P (.bool true) H') : run T (n + 3) 35 [.ref k, .tup [.int c, .tup (zl S)], .ref i, .ref j] H P := by
  refine run_succ (d := f_is_find) rfl rfl (by decide) ?_
  simp only [f_is_find, entry, List.map, List.replicate, Nat.reduceSub, List.cons_append, List.nil_append]
  (with_reducible first | refine Vx ?_ | (refine VC ?_; intro J)); simp only [↓Ve, ↓Vf, ↓Vs, ↓Vl, ↓YU, ↓Vb, ↓Vu, ↓Ym, ↓Vk, ↓VI, ↓Vh, ↓YD, ↓Vj, ↓Yg, ↓Yy, ↓Ys, ↓Yo, ↓Yp, ↓Ye, Yc, ZA, ZS, Yb, Yr, ZF, Zx, ZD, ZT, ZX, ZO, Yd, YG, ZZ, YT, Yn, ZJ, YL, YK, Vc, Yw, ZU, ZR, YC, ZQ, ZV, ZH, YV, Vq, Vd, Vt, Vi, Vr, Va, Vo, Vg, YY, YJ, Yi, Zm, Zh, Zc, Zb, ZC, Zu, ZB, ZL, ZI, ZM, ZG, ZE, YF, Zz, Zy, Zw, Zt, Zr, Zo, Zv, Zn, Zi, Zp, Zl, Zd, Zk, Ze, Zj, Zf, Zg, Za, Yq, YB, Yv, ZW, Yx, YX, YZ, Vm, YW, Yj, YH, Vp, Vn, Zq, Zs, YM, YE, Yk, Yz, Yl, Yu, YA, Yt, Yh, YI, ZP, ZY, List.cons_append, List.nil_append, Bool.not_true, Bool.not_false, ZN, YS, YR, YQ]
  refine comp_lpick (VB _ _) hi rfl (fun a => decide (a ∈ A)) (fun a ha R hR => ?_) ?_
  · (try simp only [↓Ve, ↓Vf, ↓Vs, ↓Vl, ↓YU, ↓Vb, ↓Vu, ↓Ym, ↓Vk, ↓VI, ↓Vh, ↓YD, ↓Vj, ↓Yg, ↓Yy, ↓Ys, ↓Yo, ↓Yp, ↓Ye, Yc, ZA, ZS, Yb, Yr, ZF, Zx, ZD, ZT, ZX, ZO, Yd, YG, ZZ, YT, Yn, ZJ, YL, YK, Vc, Yw, ZU, ZR, YC, ZQ, ZV, ZH, YV, Vq, Vd, Vt, Vi, Vr, Va, Vo, Vg, YY, YJ, Yi, Zm, Zh, Zc, Zb, ZC, Zu, ZB, ZL, ZI, ZM, ZG, ZE, YF, Zz, Zy, Zw, Zt, Zr, Zo, Zv, Zn, Zi, Zp, Zl, Zd, Zk, Ze, Zj, Zf, Zg, Za, Yq, YB, Yv, ZW, Yx, YX, YZ, Vm, YW, Yj, YH, Vp, Vn, Zq, Zs, YM, YE, Yk, Yz, Yl, Yu, YA, Yt, Yh, YI, ZP, ZY, List.cons_append, List.nil_append, Bool.not_true, Bool.not_false, ZN, YS, YR, YQ, b_isin hk])
    exact hR
  (try simp only [↓Ve, ↓Vf, ↓Vs, ↓Vl, ↓YU, ↓Vb, ↓Vu, ↓Ym, ↓Vk, ↓VI, ↓Vh, ↓YD, ↓Vj, ↓Yg, ↓Yy, ↓Ys, ↓Yo, ↓Yp, ↓Ye, Yc, ZA, ZS, Yb, Yr, ZF, Zx, ZD, ZT, ZX, ZO, Yd, YG, ZZ, YT, Yn, ZJ, YL, YK, Vc, Yw, ZU, ZR, YC, ZQ, ZV, ZH, YV, Vq, Vd, Vt, Vi, Vr, Va, Vo, Vg, YY, YJ, Yi, Zm, Zh, Zc, Zb, ZC, Zu, ZB, ZL, ZI, ZM, ZG, ZE, YF, Zz, Zy, Zw, Zt, Zr, Zo, Zv, Zn, Zi, Zp, Zl, Zd, Zk, Ze, Zj, Zf, Zg, Za, Yq, YB, Yv, ZW, Yx, YX, YZ, Vm, YW, Yj, YH, Vp, Vn, Zq, Zs, YM, YE, Yk, Yz, Yl, Yu, YA, Yt, Yh, YI, ZP, ZY, List.cons_append, List.nil_append, Bool.not_true, Bool.not_false, ZN, YS, YR, YQ])
  refine withL_of VP ?_
  rw [VR]
  have p1 : H <+: H ++ [zl (L.filter fun a => decide (a ∈ A))] := List.prefix_append _ _
  split
  · rename_i c1
    (with_reducible first | refine Vx ?_ | (refine VC ?_; intro J)); simp only [↓Ve, ↓Vf, ↓Vs, ↓Vl, ↓YU, ↓Vb, ↓Vu, ↓Ym, ↓Vk, ↓VI, ↓Vh, ↓YD, ↓Vj, ↓Yg, ↓Yy, ↓Ys, ↓Yo, ↓Yp, ↓Ye, Yc, ZA, ZS, Yb, Yr, ZF, Zx, ZD, ZT, ZX, ZO, Yd, YG, ZZ, YT, Yn, ZJ, YL, YK, Vc, Yw, ZU, ZR, YC, ZQ, ZV, ZH, YV, Vq, Vd, Vt, Vi, Vr, Va, Vo, Vg, YY, YJ, Yi, Zm, Zh, Zc, Zb, ZC, Zu, ZB, ZL, ZI, ZM, ZG, ZE, YF, Zz, Zy, Zw, Zt, Zr, Zo, Zv, Zn, Zi, Zp, Zl, Zd, Zk, Ze, Zj, Zf, Zg, Za, Yq, YB, Yv, ZW, Yx, YX, YZ, Vm, YW, Yj, YH, Vp, Vn, Zq, Zs, YM, YE, Yk, Yz, Yl, Yu, YA, Yt, Yh, YI, ZP, ZY, List.cons_append, List.nil_append, Bool.not_true, Bool.not_false, ZN, YS, YR, YQ]
    exact hNo _ p1 fun h => none_pos.mp c1 fun a ha q => h.1 a ha (of_decide_eq_true q)
  rename_i c1
  have f1 : ∀ a ∈ L, a ∉ A := fun a ha q => c1 (none_pos.mpr fun h => h a ha (decide_eq_true q))
  generalize H ++ [zl (L.filter fun a => decide (a ∈ A))] = H1 at *
  have k1 := Vz p1 hk
  have i1 := Vz p1 hi
  have j1 := Vz p1 hj
  (with_reducible first | refine Vx ?_ | (refine VC ?_; intro J)); simp only [↓Ve, ↓Vf, ↓Vs, ↓Vl, ↓YU, ↓Vb, ↓Vu, ↓Ym, ↓Vk, ↓VI, ↓Vh, ↓YD, ↓Vj, ↓Yg, ↓Yy, ↓Ys, ↓Yo, ↓Yp, ↓Ye, Yc, ZA, ZS, Yb, Yr, ZF, Zx, ZD, ZT, ZX, ZO, Yd, YG, ZZ, YT, Yn, ZJ, YL, YK, Vc, Yw, ZU, ZR, YC, ZQ, ZV, ZH, YV, Vq, Vd, Vt, Vi, Vr, Va, Vo, Vg, YY, YJ, Yi, Zm, Zh, Zc, Zb, ZC, Zu, ZB, ZL, ZI, ZM, ZG, ZE, YF, Zz, Zy, Zw, Zt, Zr, Zo, Zv, Zn, Zi, Zp, Zl, Zd, Zk, Ze, Zj, Zf, Zg, Za, Yq, YB, Yv, ZW, Yx, YX, YZ, Vm, YW, Yj, YH, Vp, Vn, Zq, Zs, YM, YE, Yk, Yz, Yl, Yu, YA, Yt, Yh, YI, ZP, ZY, List.cons_append, List.nil_append, Bool.not_true, Bool.not_false, ZN, YS, YR, YQ]
  refine comp_lpick (VB _ _) j1 rfl (fun a => !decide (a ∈ A)) (fun a ha R hR => ?_) ?_
  · (try simp only [↓Ve, ↓Vf, ↓Vs, ↓Vl, ↓YU, ↓Vb, ↓Vu, ↓Ym, ↓Vk, ↓VI, ↓Vh, ↓YD, ↓Vj, ↓Yg, ↓Yy, ↓Ys, ↓Yo, ↓Yp, ↓Ye, Yc, ZA, ZS, Yb, Yr, ZF, Zx, ZD, ZT, ZX, ZO, Yd, YG, ZZ, YT, Yn, ZJ, YL, YK, Vc, Yw, ZU, ZR, YC, ZQ, ZV, ZH, YV, Vq, Vd, Vt, Vi, Vr, Va, Vo, Vg, YY, YJ, Yi, Zm, Zh, Zc, Zb, ZC, Zu, ZB, ZL, ZI, ZM, ZG, ZE, YF, Zz, Zy, Zw, Zt, Zr, Zo, Zv, Zn, Zi, Zp, Zl, Zd, Zk, Ze, Zj, Zf, Zg, Za, Yq, YB, Yv, ZW, Yx, YX, YZ, Vm, YW, Yj, YH, Vp, Vn, Zq, Zs, YM, YE, Yk, Yz, Yl, Yu, YA, Yt, Yh, YI, ZP, ZY, List.cons_append, List.nil_append, Bool.not_true, Bool.not_false, ZN, YS, YR, YQ, b_notin k1])
    exact hR
  (try simp only [↓Ve, ↓Vf, ↓Vs, ↓Vl, ↓YU, ↓Vb, ↓Vu, ↓Ym, ↓Vk, ↓VI, ↓Vh, ↓YD, ↓Vj, ↓Yg, ↓Yy, ↓Ys, ↓Yo, ↓Yp, ↓Ye, Yc, ZA, ZS, Yb, Yr, ZF, Zx, ZD, ZT, ZX, ZO, Yd, YG, ZZ, YT, Yn, ZJ, YL, YK, Vc, Yw, ZU, ZR, YC, ZQ, ZV, ZH, YV, Vq, Vd, Vt, Vi, Vr, Va, Vo, Vg, YY, YJ, Yi, Zm, Zh, Zc, Zb, ZC, Zu, ZB, ZL, ZI, ZM, ZG, ZE, YF, Zz, Zy, Zw, Zt, Zr, Zo, Zv, Zn, Zi, Zp, Zl, Zd, Zk, Ze, Zj, Zf, Zg, Za, Yq, YB, Yv, ZW, Yx, YX, YZ, Vm, YW, Yj, YH, Vp, Vn, Zq, Zs, YM, YE, Yk, Yz, Yl, Yu, YA, Yt, Yh, YI, ZP, ZY, List.cons_append, List.nil_append, Bool.not_true, Bool.not_false, ZN, YS, YR, YQ])
  refine withL_of VP ?_
  rw [VR]
  have p2 : H <+: H1 ++ [zl (O.filter fun a => !decide (a ∈ A))] := pre_app p1
  split
  · rename_i c2
    (with_reducible first | refine Vx ?_ | (refine VC ?_; intro J)); simp only [↓Ve, ↓Vf, ↓Vs, ↓Vl, ↓YU, ↓Vb, ↓Vu, ↓Ym, ↓Vk, ↓VI, ↓Vh, ↓YD, ↓Vj, ↓Yg, ↓Yy, ↓Ys, ↓Yo, ↓Yp, ↓Ye, Yc, ZA, ZS, Yb, Yr, ZF, Zx, ZD, ZT, ZX, ZO, Yd, YG, ZZ, YT, Yn, ZJ, YL, YK, Vc, Yw, ZU, ZR, YC, ZQ, ZV, ZH, YV, Vq, Vd, Vt, Vi, Vr, Va, Vo, Vg, YY, YJ, Yi, Zm, Zh, Zc, Zb, ZC, Zu, ZB, ZL, ZI, ZM, ZG, ZE, YF, Zz, Zy, Zw, Zt, Zr, Zo, Zv, Zn, Zi, Zp, Zl, Zd, Zk, Ze, Zj, Zf, Zg, Za, Yq, YB, Yv, ZW, Yx, YX, YZ, Vm, YW, Yj, YH, Vp, Vn, Zq, Zs, YM, YE, Yk, Yz, Yl, Yu, YA, Yt, Yh, YI, ZP, ZY, List.cons_append, List.nil_append, Bool.not_true, Bool.not_false, ZN, YS, YR, YQ]
    exact hNo _ p2 fun h => none_pos.mp c2 fun a ha q => by
      rw [decide_eq_true (h.2.1 a ha)] at q; exact Bool.noConfusion q
  rename_i c2
  have f2 : ∀ a ∈ O, a ∈ A := fun a ha => Classical.byContradiction fun q => c2 (none_pos.mpr fun h => h a ha (by rw [decide_eq_false q]; rfl))
  generalize H1 ++ [zl (O.filter fun a => !decide (a ∈ A))] = H2 at *
  have k2 := Vz p2 hk
  have i2 := Vz p2 hi
  have j2 := Vz p2 hj
  refine withL_of i2 (withL_of j2 ?_)
  refine Wa (by decide) rfl ?_
  (try simp only [↓Ve, ↓Vf, ↓Vs, ↓Vl, ↓YU, ↓Vb, ↓Vu, ↓Ym, ↓Vk, ↓VI, ↓Vh, ↓YD, ↓Vj, ↓Yg, ↓Yy, ↓Ys, ↓Yo, ↓Yp, ↓Ye, Yc, ZA, ZS, Yb, Yr, ZF, Zx, ZD, ZT, ZX, ZO, Yd, YG, ZZ, YT, Yn, ZJ, YL, YK, Vc, Yw, ZU, ZR, YC, ZQ, ZV, ZH, YV, Vq, Vd, Vt, Vi, Vr, Va, Vo, Vg, YY, YJ, Yi, Zm, Zh, Zc, Zb, ZC, Zu, ZB, ZL, ZI, ZM, ZG, ZE, YF, Zz, Zy, Zw, Zt, Zr, Zo, Zv, Zn, Zi, Zp, Zl, Zd, Zk, Ze, Zj, Zf, Zg, Za, Yq, YB, Yv, ZW, Yx, YX, YZ, Vm, YW, Yj, YH, Vp, Vn, Zq, Zs, YM, YE, Yk, Yz, Yl, Yu, YA, Yt, Yh, YI, ZP, ZY, List.cons_append, List.nil_append, Bool.not_true, Bool.not_false, ZN, YS, YR, YQ, VR])
  split
  · rename_i c3
    (with_reducible first | refine Vx ?_ | (refine VC ?_; intro J)); simp only [↓Ve, ↓Vf, ↓Vs, ↓Vl, ↓YU, ↓Vb, ↓Vu, ↓Ym, ↓Vk, ↓VI, ↓Vh, ↓YD, ↓Vj, ↓Yg, ↓Yy, ↓Ys, ↓Yo, ↓Yp, ↓Ye, Yc, ZA, ZS, Yb, Yr, ZF, Zx, ZD, ZT, ZX, ZO, Yd, YG, ZZ, YT, Yn, ZJ, YL, YK, Vc, Yw, ZU, ZR, YC, ZQ, ZV, ZH, YV, Vq, Vd, Vt, Vi, Vr, Va, Vo, Vg, YY, YJ, Yi, Zm, Zh, Zc, Zb, ZC, Zu, ZB, ZL, ZI, ZM, ZG, ZE, YF, Zz, Zy, Zw, Zt, Zr, Zo, Zv, Zn, Zi, Zp, Zl, Zd, Zk, Ze, Zj, Zf, Zg, Za, Yq, YB, Yv, ZW, Yx, YX, YZ, Vm, YW, Yj, YH, Vp, Vn, Zq, Zs, YM, YE, Yk, Yz, Yl, Yu, YA, Yt, Yh, YI, ZP, ZY, List.cons_append, List.nil_append, Bool.not_true, Bool.not_false, ZN, YS, YR, YQ]
    exact hNo _ p2 fun h => by have := h.2.2.1; lia
  rename_i c3
  (with_reducible first | refine Vx ?_ | (refine VC ?_; intro J)); simp only [↓Ve, ↓Vf, ↓Vs, ↓Vl, ↓YU, ↓Vb, ↓Vu, ↓Ym, ↓Vk, ↓VI, ↓Vh, ↓YD, ↓Vj, ↓Yg, ↓Yy, ↓Ys, ↓Yo, ↓Yp, ↓Ye, Yc, ZA, ZS, Yb, Yr, ZF, Zx, ZD, ZT, ZX, ZO, Yd, YG, ZZ, YT, Yn, ZJ, YL, YK, Vc, Yw, ZU, ZR, YC, ZQ, ZV, ZH, YV, Vq, Vd, Vt, Vi, Vr, Va, Vo, Vg, YY, YJ, Yi, Zm, Zh, Zc, Zb, ZC, Zu, ZB, ZL, ZI, ZM, ZG, ZE, YF, Zz, Zy, Zw, Zt, Zr, Zo, Zv, Zn, Zi, Zp, Zl, Zd, Zk, Ze, Zj, Zf, Zg, Za, Yq, YB, Yv, ZW, Yx, YX, YZ, Vm, YW, Yj, YH, Vp, Vn, Zq, Zs, YM, YE, Yk, Yz, Yl, Yu, YA, Yt, Yh, YI, ZP, ZY, List.cons_append, List.nil_append, Bool.not_true, Bool.not_false, ZN, YS, YR, YQ]
  refine comp_lpick (VB _ _) k2 rfl (fun a => !decide (a ∈ O)) (fun a ha R hR => ?_) ?_
  · (try simp only [↓Ve, ↓Vf, ↓Vs, ↓Vl, ↓YU, ↓Vb, ↓Vu, ↓Ym, ↓Vk, ↓VI, ↓Vh, ↓YD, ↓Vj, ↓Yg, ↓Yy, ↓Ys, ↓Yo, ↓Yp, ↓Ye, Yc, ZA, ZS, Yb, Yr, ZF, Zx, ZD, ZT, ZX, ZO, Yd, YG, ZZ, YT, Yn, ZJ, YL, YK, Vc, Yw, ZU, ZR, YC, ZQ, ZV, ZH, YV, Vq, Vd, Vt, Vi, Vr, Va, Vo, Vg, YY, YJ, Yi, Zm, Zh, Zc, Zb, ZC, Zu, ZB, ZL, ZI, ZM, ZG, ZE, YF, Zz, Zy, Zw, Zt, Zr, Zo, Zv, Zn, Zi, Zp, Zl, Zd, Zk, Ze, Zj, Zf, Zg, Za, Yq, YB, Yv, ZW, Yx, YX, YZ, Vm, YW, Yj, YH, Vp, Vn, Zq, Zs, YM, YE, Yk, Yz, Yl, Yu, YA, Yt, Yh, YI, ZP, ZY, List.cons_append, List.nil_append, Bool.not_true, Bool.not_false, ZN, YS, YR, YQ, b_notin j2])
    exact hR
  have lf := List.length_filter_le (fun a => !decide (a ∈ O)) A
  (try simp only [↓Ve, ↓Vf, ↓Vs, ↓Vl, ↓YU, ↓Vb, ↓Vu, ↓Ym, ↓Vk, ↓VI, ↓Vh, ↓YD, ↓Vj, ↓Yg, ↓Yy, ↓Ys, ↓Yo, ↓Yp, ↓Ye, Yc, ZA, ZS, Yb, Yr, ZF, Zx, ZD, ZT, ZX, ZO, Yd, YG, ZZ, YT, Yn, ZJ, YL, YK, Vc, Yw, ZU, ZR, YC, ZQ, ZV, ZH, YV, Vq, Vd, Vt, Vi, Vr, Va, Vo, Vg, YY, YJ, Yi, Zm, Zh, Zc, Zb, ZC, Zu, ZB, ZL, ZI, ZM, ZG, ZE, YF, Zz, Zy, Zw, Zt, Zr, Zo, Zv, Zn, Zi, Zp, Zl, Zd, Zk, Ze, Zj, Zf, Zg, Za, Yq, YB, Yv, ZW, Yx, YX, YZ, Vm, YW, Yj, YH, Vp, Vn, Zq, Zs, YM, YE, Yk, Yz, Yl, Yu, YA, Yt, Yh, YI, ZP, ZY, List.cons_append, List.nil_append, Bool.not_true, Bool.not_false, ZN, YS, YR, YQ])
  rw [b_cat VP (get_old i2), zl_cat]
  refine ⟨by rw [VR, VR]; unfold room; lia, ?_⟩
  (try simp only [↓Ve, ↓Vf, ↓Vs, ↓Vl, ↓YU, ↓Vb, ↓Vu, ↓Ym, ↓Vk, ↓VI, ↓Vh, ↓YD, ↓Vj, ↓Yg, ↓Yy, ↓Ys, ↓Yo, ↓Yp, ↓Ye, Yc, ZA, ZS, Yb, Yr, ZF, Zx, ZD, ZT, ZX, ZO, Yd, YG, ZZ, YT, Yn, ZJ, YL, YK, Vc, Yw, ZU, ZR, YC, ZQ, ZV, ZH, YV, Vq, Vd, Vt, Vi, Vr, Va, Vo, Vg, YY, YJ, Yi, Zm, Zh, Zc, Zb, ZC, Zu, ZB, ZL, ZI, ZM, ZG, ZE, YF, Zz, Zy, Zw, Zt, Zr, Zo, Zv, Zn, Zi, Zp, Zl, Zd, Zk, Ze, Zj, Zf, Zg, Za, Yq, YB, Yv, ZW, Yx, YX, YZ, Vm, YW, Yj, YH, Vp, Vn, Zq, Zs, YM, YE, Yk, Yz, Yl, Yu, YA, Yt, Yh, YI, ZP, ZY, List.cons_append, List.nil_append, Bool.not_true, Bool.not_false, ZN, YS, YR, YQ])
  have g3 : (H2 ++ [zl (A.filter fun a => !decide (a ∈ O))] ++ [zl (behind A L O)])[(H2 ++ [zl (A.filter fun a => !decide (a ∈ O))]).length]? = some (zl (behind A L O)) := VP
  have p3 : H <+: H2 ++ [zl (A.filter fun a => !decide (a ∈ O))] ++ [zl (behind A L O)] := pre_app (pre_app p2)
  rw [show (A.filter fun a => !decide (a ∈ O)) ++ L = behind A L O from rfl]
  generalize H2 ++ [zl (A.filter fun a => !decide (a ∈ O))] ++ [zl (behind A L O)] = H3 at *
  generalize (H2 ++ [zl (A.filter fun a => !decide (a ∈ O))]).length = k3 at *
  (with_reducible first | refine Vx ?_ | (refine VC ?_; intro J)); simp only [↓Ve, ↓Vf, ↓Vs, ↓Vl, ↓YU, ↓Vb, ↓Vu, ↓Ym, ↓Vk, ↓VI, ↓Vh, ↓YD, ↓Vj, ↓Yg, ↓Yy, ↓Ys, ↓Yo, ↓Yp, ↓Ye, Yc, ZA, ZS, Yb, Yr, ZF, Zx, ZD, ZT, ZX, ZO, Yd, YG, ZZ, YT, Yn, ZJ, YL, YK, Vc, Yw, ZU, ZR, YC, ZQ, ZV, ZH, YV, Vq, Vd, Vt, Vi, Vr, Va, Vo, Vg, YY, YJ, Yi, Zm, Zh, Zc, Zb, ZC, Zu, ZB, ZL, ZI, ZM, ZG, ZE, YF, Zz, Zy, Zw, Zt, Zr, Zo, Zv, Zn, Zi, Zp, Zl, Zd, Zk, Ze, Zj, Zf, Zg, Za, Yq, YB, Yv, ZW, Yx, YX, YZ, Vm, YW, Yj, YH, Vp, Vn, Zq, Zs, YM, YE, Yk, Yz, Yl, Yu, YA, Yt, Yh, YI, ZP, ZY, List.cons_append, List.nil_append, Bool.not_true, Bool.not_false, ZN, YS, YR, YQ, VH g3, VR]
  refine Wa (by decide) rfl ?_
  (try simp only [↓Ve, ↓Vf, ↓Vs, ↓Vl, ↓YU, ↓Vb, ↓Vu, ↓Ym, ↓Vk, ↓VI, ↓Vh, ↓YD, ↓Vj, ↓Yg, ↓Yy, ↓Ys, ↓Yo, ↓Yp, ↓Ye, Yc, ZA, ZS, Yb, Yr, ZF, Zx, ZD, ZT, ZX, ZO, Yd, YG, ZZ, YT, Yn, ZJ, YL, YK, Vc, Yw, ZU, ZR, YC, ZQ, ZV, ZH, YV, Vq, Vd, Vt, Vi, Vr, Va, Vo, Vg, YY, YJ, Yi, Zm, Zh, Zc, Zb, ZC, Zu, ZB, ZL, ZI, ZM, ZG, ZE, YF, Zz, Zy, Zw, Zt, Zr, Zo, Zv, Zn, Zi, Zp, Zl, Zd, Zk, Ze, Zj, Zf, Zg, Za, Yq, YB, Yv, ZW, Yx, YX, YZ, Vm, YW, Yj, YH, Vp, Vn, Zq, Zs, YM, YE, Yk, Yz, Yl, Yu, YA, Yt, Yh, YI, ZP, ZY, List.cons_append, List.nil_append, Bool.not_true, Bool.not_false, ZN, YS, YR, YQ])
  split
  rotate_left
  · rename_i c4
    rw [decide_eq_false c4]
    exact hNo _ p3 fun h => c4 h.2.2.2.1
  rename_i c4
  refine Wa (by decide) rfl ?_
  (try simp only [↓Ve, ↓Vf, ↓Vs, ↓Vl, ↓YU, ↓Vb, ↓Vu, ↓Ym, ↓Vk, ↓VI, ↓Vh, ↓YD, ↓Vj, ↓Yg, ↓Yy, ↓Ys, ↓Yo, ↓Yp, ↓Ye, Yc, ZA, ZS, Yb, Yr, ZF, Zx, ZD, ZT, ZX, ZO, Yd, YG, ZZ, YT, Yn, ZJ, YL, YK, Vc, Yw, ZU, ZR, YC, ZQ, ZV, ZH, YV, Vq, Vd, Vt, Vi, Vr, Va, Vo, Vg, YY, YJ, Yi, Zm, Zh, Zc, Zb, ZC, Zu, ZB, ZL, ZI, ZM, ZG, ZE, YF, Zz, Zy, Zw, Zt, Zr, Zo, Zv, Zn, Zi, Zp, Zl, Zd, Zk, Ze, Zj, Zf, Zg, Za, Yq, YB, Yv, ZW, Yx, YX, YZ, Vm, YW, Yj, YH, Vp, Vn, Zq, Zs, YM, YE, Yk, Yz, Yl, Yu, YA, Yt, Yh, YI, ZP, ZY, List.cons_append, List.nil_append, Bool.not_true, Bool.not_false, ZN, YS, YR, YQ, VR])
  refine spec_sums_of _ _ (behind A L O) S.length _ _ g3 (by lia) fun H4 p4 => ?_
  (try simp only [↓Ve, ↓Vf, ↓Vs, ↓Vl, ↓YU, ↓Vb, ↓Vu, ↓Ym, ↓Vk, ↓VI, ↓Vh, ↓YD, ↓Vj, ↓Yg, ↓Yy, ↓Ys, ↓Yo, ↓Yp, ↓Ye, Yc, ZA, ZS, Yb, Yr, ZF, Zx, ZD, ZT, ZX, ZO, Yd, YG, ZZ, YT, Yn, ZJ, YL, YK, Vc, Yw, ZU, ZR, YC, ZQ, ZV, ZH, YV, Vq, Vd, Vt, Vi, Vr, Va, Vo, Vg, YY, YJ, Yi, Zm, Zh, Zc, Zb, ZC, Zu, ZB, ZL, ZI, ZM, ZG, ZE, YF, Zz, Zy, Zw, Zt, Zr, Zo, Zv, Zn, Zi, Zp, Zl, Zd, Zk, Ze, Zj, Zf, Zg, Za, Yq, YB, Yv, ZW, Yx, YX, YZ, Vm, YW, Yj, YH, Vp, Vn, Zq, Zs, YM, YE, Yk, Yz, Yl, Yu, YA, Yt, Yh, YI, ZP, ZY, List.cons_append, List.nil_append, Bool.not_true, Bool.not_false, ZN, YS, YR, YQ])
  refine withL_of VP ?_
  refine Wa (by decide) rfl ?_
  rw [b_eq_tup]
  by_cases c5 : sumsL (behind A L O) S.length = S
  · rw [decide_eq_true c5]
    exact hYes _ (pre_app (p3.trans p4)) ⟨f1, f2, by lia, c4, c5⟩
  · rw [decide_eq_false c5]
    exact hNo _ (pre_app (p3.trans p4)) fun h => c5 h.2.2.2.2
end Mine

--STEP: ZN, YS, YR, YQ, YN, Vv, b_is_ref, u_abs
open PySem
set_option linter.unusedSimpArgs false
set_option linter.unusedVariables false
namespace Mine

theorem YO {k : Nat} {H : Hp} {P : PV} : wpB .is_ (.ref k) .none H P = (isNoneB .none = true ∧ P (.bool false) H) := rfl
theorem VA {a : Int} {H : Hp} {P : PV} : wpU .abs (.int a) H P = P (.int (if a < 0 then -a else a)) H := rfl
/-- what numbers_of told of a poly -/
noncomputable def Told (us : List Int) (l : Nat) (v : V) (H : Hp) : Prop := (v = .none ∧ ∀ L, L.Pairwise (· < ·) ∧ Num L → ps us ≠ pr L) ∨ ∃ k js, v = .ref k ∧ l ≤ k ∧ H[k]? = some (zl js) ∧ Nums us js

theorem spec_learnt (n k : Nat) (A S : List Int) (c : Int) (H : Hp) (P : PV) (hk : H[k]? = some (zl A)) (nA : Num A) (dA : A.Nodup) (lA : A.length ≤ 250) (h0 : 0 ≤ c) (h1 : c ≤ 250) (rS : Red S) (l1 : 1 ≤ S.length) (l2 : S.length ≤ 12)
    (hNo : ∀ H', H <+: H' → (∀ L O, ¬ Find A c S L O) → P .none H')
    (hYes : ∀ i j L O H', H <+: H' → H.length ≤ i → H.length ≤ j → i ≠ j → H'[i]? = some (zl L) → H'[j]? = some (zl O) → Find A c S L O → (∀ L' O', Find A c S L' O' → L' = L ∧ O' = O) → P (.tup [.ref i, .ref j]) H') : run T (n + 5) 36 [.ref k, .tup [.int c, .tup (zl S)]] H P := by
  refine run_succ (d := f_learnt) rfl rfl (by decide) ?_
  simp only [f_learnt, entry, List.map, List.replicate, Nat.reduceSub, List.cons_append, List.nil_append]
  (with_reducible first | refine Vx ?_ | (refine VC ?_; intro J)); simp only [↓Ve, ↓Vf, ↓Vs, ↓Vl, ↓YU, ↓Vb, ↓Vu, ↓Ym, ↓Vk, ↓VI, ↓Vh, ↓YD, ↓Vj, ↓Yg, ↓Yy, ↓Ys, ↓Yo, ↓Yp, ↓Ye, Yc, ZA, ZS, Yb, Yr, ZF, Zx, ZD, ZT, ZX, ZO, Yd, YG, ZZ, YT, Yn, ZJ, YL, YK, Vc, Yw, ZU, ZR, YC, ZQ, ZV, ZH, YV, Vq, Vd, Vt, Vi, Vr, Va, Vo, Vg, YY, YJ, Yi, Zm, Zh, Zc, Zb, ZC, Zu, ZB, ZL, ZI, ZM, ZG, ZE, YF, Zz, Zy, Zw, Zt, Zr, Zo, Zv, Zn, Zi, Zp, Zl, Zd, Zk, Ze, Zj, Zf, Zg, Za, Yq, YB, Yv, ZW, Yx, YX, YZ, Vm, YW, Yj, YH, Vp, Vn, Zq, Zs, YM, YE, Yk, Yz, Yl, Yu, YA, Yt, Yh, YI, ZP, ZY, List.cons_append, List.nil_append, Bool.not_true, Bool.not_false, ZN, YS, YR, YQ, YN, Vv, YO, VA]
  refine spec_need_row _ _ A _ _ hk nA dA (by lia) ?_
  (try simp only [↓Ve, ↓Vf, ↓Vs, ↓Vl, ↓YU, ↓Vb, ↓Vu, ↓Ym, ↓Vk, ↓VI, ↓Vh, ↓YD, ↓Vj, ↓Yg, ↓Yy, ↓Ys, ↓Yo, ↓Yp, ↓Ye, Yc, ZA, ZS, Yb, Yr, ZF, Zx, ZD, ZT, ZX, ZO, Yd, YG, ZZ, YT, Yn, ZJ, YL, YK, Vc, Yw, ZU, ZR, YC, ZQ, ZV, ZH, YV, Vq, Vd, Vt, Vi, Vr, Va, Vo, Vg, YY, YJ, Yi, Zm, Zh, Zc, Zb, ZC, Zu, ZB, ZL, ZI, ZM, ZG, ZE, YF, Zz, Zy, Zw, Zt, Zr, Zo, Zv, Zn, Zi, Zp, Zl, Zd, Zk, Ze, Zj, Zf, Zg, Za, Yq, YB, Yv, ZW, Yx, YX, YZ, Vm, YW, Yj, YH, Vp, Vn, Zq, Zs, YM, YE, Yk, Yz, Yl, Yu, YA, Yt, Yh, YI, ZP, ZY, List.cons_append, List.nil_append, Bool.not_true, Bool.not_false, ZN, YS, YR, YQ, YN, Vv, YO, VA])
  (with_reducible first | refine Vx ?_ | (refine VC ?_; intro J)); simp only [↓Ve, ↓Vf, ↓Vs, ↓Vl, ↓YU, ↓Vb, ↓Vu, ↓Ym, ↓Vk, ↓VI, ↓Vh, ↓YD, ↓Vj, ↓Yg, ↓Yy, ↓Ys, ↓Yo, ↓Yp, ↓Ye, Yc, ZA, ZS, Yb, Yr, ZF, Zx, ZD, ZT, ZX, ZO, Yd, YG, ZZ, YT, Yn, ZJ, YL, YK, Vc, Yw, ZU, ZR, YC, ZQ, ZV, ZH, YV, Vq, Vd, Vt, Vi, Vr, Va, Vo, Vg, YY, YJ, Yi, Zm, Zh, Zc, Zb, ZC, Zu, ZB, ZL, ZI, ZM, ZG, ZE, YF, Zz, Zy, Zw, Zt, Zr, Zo, Zv, Zn, Zi, Zp, Zl, Zd, Zk, Ze, Zj, Zf, Zg, Za, Yq, YB, Yv, ZW, Yx, YX, YZ, Vm, YW, Yj, YH, Vp, Vn, Zq, Zs, YM, YE, Yk, Yz, Yl, Yu, YA, Yt, Yh, YI, ZP, ZY, List.cons_append, List.nil_append, Bool.not_true, Bool.not_false, ZN, YS, YR, YQ, YN, Vv, YO, VA]
  refine spec_need_letter _ _ _ _ _ h0 h1 rS l1 l2 ?_
  (try simp only [↓Ve, ↓Vf, ↓Vs, ↓Vl, ↓YU, ↓Vb, ↓Vu, ↓Ym, ↓Vk, ↓VI, ↓Vh, ↓YD, ↓Vj, ↓Yg, ↓Yy, ↓Ys, ↓Yo, ↓Yp, ↓Ye, Yc, ZA, ZS, Yb, Yr, ZF, Zx, ZD, ZT, ZX, ZO, Yd, YG, ZZ, YT, Yn, ZJ, YL, YK, Vc, Yw, ZU, ZR, YC, ZQ, ZV, ZH, YV, Vq, Vd, Vt, Vi, Vr, Va, Vo, Vg, YY, YJ, Yi, Zm, Zh, Zc, Zb, ZC, Zu, ZB, ZL, ZI, ZM, ZG, ZE, YF, Zz, Zy, Zw, Zt, Zr, Zo, Zv, Zn, Zi, Zp, Zl, Zd, Zk, Ze, Zj, Zf, Zg, Za, Yq, YB, Yv, ZW, Yx, YX, YZ, Vm, YW, Yj, YH, Vp, Vn, Zq, Zs, YM, YE, Yk, Yz, Yl, Yu, YA, Yt, Yh, YI, ZP, ZY, List.cons_append, List.nil_append, Bool.not_true, Bool.not_false, ZN, YS, YR, YQ, YN, Vv, YO, VA])
  (with_reducible first | refine Vx ?_ | (refine VC ?_; intro J)); simp only [↓Ve, ↓Vf, ↓Vs, ↓Vl, ↓YU, ↓Vb, ↓Vu, ↓Ym, ↓Vk, ↓VI, ↓Vh, ↓YD, ↓Vj, ↓Yg, ↓Yy, ↓Ys, ↓Yo, ↓Yp, ↓Ye, Yc, ZA, ZS, Yb, Yr, ZF, Zx, ZD, ZT, ZX, ZO, Yd, YG, ZZ, YT, Yn, ZJ, YL, YK, Vc, Yw, ZU, ZR, YC, ZQ, ZV, ZH, YV, Vq, Vd, Vt, Vi, Vr, Va, Vo, Vg, YY, YJ, Yi, Zm, Zh, Zc, Zb, ZC, Zu, ZB, ZL, ZI, ZM, ZG, ZE, YF, Zz, Zy, Zw, Zt, Zr, Zo, Zv, Zn, Zi, Zp, Zl, Zd, Zk, Ze, Zj, Zf, Zg, Za, Yq, YB, Yv, ZW, Yx, YX, YZ, Vm, YW, Yj, YH, Vp, Vn, Zq, Zs, YM, YE, Yk, Yz, Yl, Yu, YA, Yt, Yh, YI, ZP, ZY, List.cons_append, List.nil_append, Bool.not_true, Bool.not_false, ZN, YS, YR, YQ, YN, Vv, YO, VA]
  refine spec_gaps _ _ A S c _ _ hk nA dA (by lia) h0 h1 rS l1 l2 fun k3 H1 p1 lk1 g1 => ?_
  (try simp only [↓Ve, ↓Vf, ↓Vs, ↓Vl, ↓YU, ↓Vb, ↓Vu, ↓Ym, ↓Vk, ↓VI, ↓Vh, ↓YD, ↓Vj, ↓Yg, ↓Yy, ↓Ys, ↓Yo, ↓Yp, ↓Ye, Yc, ZA, ZS, Yb, Yr, ZF, Zx, ZD, ZT, ZX, ZO, Yd, YG, ZZ, YT, Yn, ZJ, YL, YK, Vc, Yw, ZU, ZR, YC, ZQ, ZV, ZH, YV, Vq, Vd, Vt, Vi, Vr, Va, Vo, Vg, YY, YJ, Yi, Zm, Zh, Zc, Zb, ZC, Zu, ZB, ZL, ZI, ZM, ZG, ZE, YF, Zz, Zy, Zw, Zt, Zr, Zo, Zv, Zn, Zi, Zp, Zl, Zd, Zk, Ze, Zj, Zf, Zg, Za, Yq, YB, Yv, ZW, Yx, YX, YZ, Vm, YW, Yj, YH, Vp, Vn, Zq, Zs, YM, YE, Yk, Yz, Yl, Yu, YA, Yt, Yh, YI, ZP, ZY, List.cons_append, List.nil_append, Bool.not_true, Bool.not_false, ZN, YS, YR, YQ, YN, Vv, YO, VA])
  (with_reducible first | refine Vx ?_ | (refine VC ?_; intro J)); simp only [↓Ve, ↓Vf, ↓Vs, ↓Vl, ↓YU, ↓Vb, ↓Vu, ↓Ym, ↓Vk, ↓VI, ↓Vh, ↓YD, ↓Vj, ↓Yg, ↓Yy, ↓Ys, ↓Yo, ↓Yp, ↓Ye, Yc, ZA, ZS, Yb, Yr, ZF, Zx, ZD, ZT, ZX, ZO, Yd, YG, ZZ, YT, Yn, ZJ, YL, YK, Vc, Yw, ZU, ZR, YC, ZQ, ZV, ZH, YV, Vq, Vd, Vt, Vi, Vr, Va, Vo, Vg, YY, YJ, Yi, Zm, Zh, Zc, Zb, ZC, Zu, ZB, ZL, ZI, ZM, ZG, ZE, YF, Zz, Zy, Zw, Zt, Zr, Zo, Zv, Zn, Zi, Zp, Zl, Zd, Zk, Ze, Zj, Zf, Zg, Za, Yq, YB, Yv, ZW, Yx, YX, YZ, Vm, YW, Yj, YH, Vp, Vn, Zq, Zs, YM, YE, Yk, Yz, Yl, Yu, YA, Yt, Yh, YI, ZP, ZY, List.cons_append, List.nil_append, Bool.not_true, Bool.not_false, ZN, YS, YR, YQ, YN, Vv, YO, VA, VH g1, VR, gapsL_len]
  generalize hmore : c - (A.length : Int) = more
  have hlen : ∀ L O, Find A c S L O → (L.length : Int) - O.length = more ∧ L.length + O.length ≤ S.length := fun L O h => ⟨hmore ▸ find_len dA (rise_nodup h.2.1.1) h.2.2, h.2.2.2.2.1⟩
  (try change wpSs _ _ _ _ _)
  refine s_cut (VB _ _) (fun m' H' => H' = H1 ∧ ∃ (s : Nat), And3 ((s = S.length ∨ s + 1 = S.length)) (((s : Int) - more) % 2 = 0) (m' = [some (.ref k), some (.tup [.int c, .tup (zl S)]), some (.int more), some (.ref k3), some (.int s), none, none, none])) ?_ ?_
  · (try (with_reducible refine post_letS ?_; intro J))
    (try simp only [↓Ve, ↓Vf, ↓Vs, ↓Vl, ↓YU, ↓Vb, ↓Vu, ↓Ym, ↓Vk, ↓VI, ↓Vh, ↓YD, ↓Vj, ↓Yg, ↓Yy, ↓Ys, ↓Yo, ↓Yp, ↓Ye, Yc, ZA, ZS, Yb, Yr, ZF, Zx, ZD, ZT, ZX, ZO, Yd, YG, ZZ, YT, Yn, ZJ, YL, YK, Vc, Yw, ZU, ZR, YC, ZQ, ZV, ZH, YV, Vq, Vd, Vt, Vi, Vr, Va, Vo, Vg, YY, YJ, Yi, Zm, Zh, Zc, Zb, ZC, Zu, ZB, ZL, ZI, ZM, ZG, ZE, YF, Zz, Zy, Zw, Zt, Zr, Zo, Zv, Zn, Zi, Zp, Zl, Zd, Zk, Ze, Zj, Zf, Zg, Za, Yq, YB, Yv, ZW, Yx, YX, YZ, Vm, YW, Yj, YH, Vp, Vn, Zq, Zs, YM, YE, Yk, Yz, Yl, Yu, YA, Yt, Yh, YI, ZP, ZY, List.cons_append, List.nil_append, Bool.not_true, Bool.not_false, ZN, YS, YR, YQ, YN, Vv, YO, VA])
    refine ⟨by decide, ?_⟩
    split
    · rename_i c1
      (with_reducible first | refine Vx ?_ | (refine VC ?_; intro J)); simp only [↓Ve, ↓Vf, ↓Vs, ↓Vl, ↓YU, ↓Vb, ↓Vu, ↓Ym, ↓Vk, ↓VI, ↓Vh, ↓YD, ↓Vj, ↓Yg, ↓Yy, ↓Ys, ↓Yo, ↓Yp, ↓Ye, Yc, ZA, ZS, Yb, Yr, ZF, Zx, ZD, ZT, ZX, ZO, Yd, YG, ZZ, YT, Yn, ZJ, YL, YK, Vc, Yw, ZU, ZR, YC, ZQ, ZV, ZH, YV, Vq, Vd, Vt, Vi, Vr, Va, Vo, Vg, YY, YJ, Yi, Zm, Zh, Zc, Zb, ZC, Zu, ZB, ZL, ZI, ZM, ZG, ZE, YF, Zz, Zy, Zw, Zt, Zr, Zo, Zv, Zn, Zi, Zp, Zl, Zd, Zk, Ze, Zj, Zf, Zg, Za, Yq, YB, Yv, ZW, Yx, YX, YZ, Vm, YW, Yj, YH, Vp, Vn, Zq, Zs, YM, YE, Yk, Yz, Yl, Yu, YA, Yt, Yh, YI, ZP, ZY, List.cons_append, List.nil_append, Bool.not_true, Bool.not_false, ZN, YS, YR, YQ, YN, Vv, YO, VA]
      refine ⟨(by trivial), S.length - 1, .inr (by lia), by lia, ?_⟩
      rw [show (S.length : Int) - 1 = ((S.length - 1 : Nat) : Int) by lia]
    · exact ⟨(by trivial), S.length, .inl rfl, by lia, rfl⟩
  rintro m' H' ⟨rfl, s, hs, hpar, rfl⟩
  (try (with_reducible (first | refine Vy ?_ | refine Vw ?_); intro J))
  (with_reducible first | refine Vx ?_ | (refine VC ?_; intro J)); simp only [↓Ve, ↓Vf, ↓Vs, ↓Vl, ↓YU, ↓Vb, ↓Vu, ↓Ym, ↓Vk, ↓VI, ↓Vh, ↓YD, ↓Vj, ↓Yg, ↓Yy, ↓Ys, ↓Yo, ↓Yp, ↓Ye, Yc, ZA, ZS, Yb, Yr, ZF, Zx, ZD, ZT, ZX, ZO, Yd, YG, ZZ, YT, Yn, ZJ, YL, YK, Vc, Yw, ZU, ZR, YC, ZQ, ZV, ZH, YV, Vq, Vd, Vt, Vi, Vr, Va, Vo, Vg, YY, YJ, Yi, Zm, Zh, Zc, Zb, ZC, Zu, ZB, ZL, ZI, ZM, ZG, ZE, YF, Zz, Zy, Zw, Zt, Zr, Zo, Zv, Zn, Zi, Zp, Zl, Zd, Zk, Ze, Zj, Zf, Zg, Za, Yq, YB, Yv, ZW, Yx, YX, YZ, Vm, YW, Yj, YH, Vp, Vn, Zq, Zs, YM, YE, Yk, Yz, Yl, Yu, YA, Yt, Yh, YI, ZP, ZY, List.cons_append, List.nil_append, Bool.not_true, Bool.not_false, ZN, YS, YR, YQ, YN, Vv, YO, VA]
  obtain ⟨ab, hab, hab1, hab2, hab3⟩ : ∃ ab, (if more < 0 then -more else more) = ab ∧ more ≤ ab ∧ -more ≤ ab ∧ (ab = more ∨ ab = -more) := ⟨_, rfl, by split <;> lia, by split <;> lia, by split <;> lia⟩
  rw [hab]
  clear hab
  split
  · rename_i c1
    (with_reducible first | refine Vx ?_ | (refine VC ?_; intro J)); simp only [↓Ve, ↓Vf, ↓Vs, ↓Vl, ↓YU, ↓Vb, ↓Vu, ↓Ym, ↓Vk, ↓VI, ↓Vh, ↓YD, ↓Vj, ↓Yg, ↓Yy, ↓Ys, ↓Yo, ↓Yp, ↓Ye, Yc, ZA, ZS, Yb, Yr, ZF, Zx, ZD, ZT, ZX, ZO, Yd, YG, ZZ, YT, Yn, ZJ, YL, YK, Vc, Yw, ZU, ZR, YC, ZQ, ZV, ZH, YV, Vq, Vd, Vt, Vi, Vr, Va, Vo, Vg, YY, YJ, Yi, Zm, Zh, Zc, Zb, ZC, Zu, ZB, ZL, ZI, ZM, ZG, ZE, YF, Zz, Zy, Zw, Zt, Zr, Zo, Zv, Zn, Zi, Zp, Zl, Zd, Zk, Ze, Zj, Zf, Zg, Za, Yq, YB, Yv, ZW, Yx, YX, YZ, Vm, YW, Yj, YH, Vp, Vn, Zq, Zs, YM, YE, Yk, Yz, Yl, Yu, YA, Yt, Yh, YI, ZP, ZY, List.cons_append, List.nil_append, Bool.not_true, Bool.not_false, ZN, YS, YR, YQ, YN, Vv, YO, VA]
    refine hNo _ p1 fun L O h => ?_
    obtain ⟨q1, q2⟩ := hlen L O h
    lia
  rename_i c1
  have c2 : -(s : Int) ≤ more ∧ more ≤ s := by lia
  clear c1 hab1 hab2 hab3
  obtain ⟨up, hup⟩ : ∃ up : Nat, 2 * (up : Int) = s + more := ⟨(((s : Int) + more) / 2).toNat, by lia⟩
  obtain ⟨down, hdn⟩ : ∃ down : Nat, 2 * (down : Int) = s - more := ⟨(((s : Int) - more) / 2).toNat, by lia⟩
  have hfit : ∀ L O, Find A c S L O → L.length ≤ up ∧ O.length ≤ down := fun L O h => by
    obtain ⟨q1, q2⟩ := hlen L O h
    lia
  (with_reducible first | refine Vx ?_ | (refine VC ?_; intro J)); simp only [↓Ve, ↓Vf, ↓Vs, ↓Vl, ↓YU, ↓Vb, ↓Vu, ↓Ym, ↓Vk, ↓VI, ↓Vh, ↓YD, ↓Vj, ↓Yg, ↓Yy, ↓Ys, ↓Yo, ↓Yp, ↓Ye, Yc, ZA, ZS, Yb, Yr, ZF, Zx, ZD, ZT, ZX, ZO, Yd, YG, ZZ, YT, Yn, ZJ, YL, YK, Vc, Yw, ZU, ZR, YC, ZQ, ZV, ZH, YV, Vq, Vd, Vt, Vi, Vr, Va, Vo, Vg, YY, YJ, Yi, Zm, Zh, Zc, Zb, ZC, Zu, ZB, ZL, ZI, ZM, ZG, ZE, YF, Zz, Zy, Zw, Zt, Zr, Zo, Zv, Zn, Zi, Zp, Zl, Zd, Zk, Ze, Zj, Zf, Zg, Za, Yq, YB, Yv, ZW, Yx, YX, YZ, Vm, YW, Yj, YH, Vp, Vn, Zq, Zs, YM, YE, Yk, Yz, Yl, Yu, YA, Yt, Yh, YI, ZP, ZY, List.cons_append, List.nil_append, Bool.not_true, Bool.not_false, ZN, YS, YR, YQ, YN, Vv, YO, VA]
  refine spec_series _ _ (gapsL A S) _ _ g1 (gapsL_red _ _) (by rw [gapsL_len]; lia) fun k4 C H4 p4 l4 c4 hC => ?_
  have lC : C.length = S.length + 1 := by have := hC.2.1; rwa [gapsL_len] at this
  (try simp only [↓Ve, ↓Vf, ↓Vs, ↓Vl, ↓YU, ↓Vb, ↓Vu, ↓Ym, ↓Vk, ↓VI, ↓Vh, ↓YD, ↓Vj, ↓Yg, ↓Yy, ↓Ys, ↓Yo, ↓Yp, ↓Ye, Yc, ZA, ZS, Yb, Yr, ZF, Zx, ZD, ZT, ZX, ZO, Yd, YG, ZZ, YT, Yn, ZJ, YL, YK, Vc, Yw, ZU, ZR, YC, ZQ, ZV, ZH, YV, Vq, Vd, Vt, Vi, Vr, Va, Vo, Vg, YY, YJ, Yi, Zm, Zh, Zc, Zb, ZC, Zu, ZB, ZL, ZI, ZM, ZG, ZE, YF, Zz, Zy, Zw, Zt, Zr, Zo, Zv, Zn, Zi, Zp, Zl, Zd, Zk, Ze, Zj, Zf, Zg, Za, Yq, YB, Yv, ZW, Yx, YX, YZ, Vm, YW, Yj, YH, Vp, Vn, Zq, Zs, YM, YE, Yk, Yz, Yl, Yu, YA, Yt, Yh, YI, ZP, ZY, List.cons_append, List.nil_append, Bool.not_true, Bool.not_false, ZN, YS, YR, YQ, YN, Vv, YO, VA])
  refine ⟨by decide, by decide, by decide, by decide, ?_⟩
  rw [show ((s : Int) + more) / 2 = up by lia, show ((s : Int) - more) / 2 = down by lia]
  have hp4 := p1.trans p4
  refine spec_fraction0 _ _ up down C _ _ c4 hC.1 (by lia) (by lia) (by lia) (by lia) (fun H5 B R M W p5 I hR z0 => ?_) fun k5 l5 us ls H5 f B R M W p5 lk5 ll5 hne g5 g5' hus hls I hR hinv e1 e2 => ?_
  · (try simp only [↓Ve, ↓Vf, ↓Vs, ↓Vl, ↓YU, ↓Vb, ↓Vu, ↓Ym, ↓Vk, ↓VI, ↓Vh, ↓YD, ↓Vj, ↓Yg, ↓Yy, ↓Ys, ↓Yo, ↓Yp, ↓Ye, Yc, ZA, ZS, Yb, Yr, ZF, Zx, ZD, ZT, ZX, ZO, Yd, YG, ZZ, YT, Yn, ZJ, YL, YK, Vc, Yw, ZU, ZR, YC, ZQ, ZV, ZH, YV, Vq, Vd, Vt, Vi, Vr, Va, Vo, Vg, YY, YJ, Yi, Zm, Zh, Zc, Zb, ZC, Zu, ZB, ZL, ZI, ZM, ZG, ZE, YF, Zz, Zy, Zw, Zt, Zr, Zo, Zv, Zn, Zi, Zp, Zl, Zd, Zk, Ze, Zj, Zf, Zg, Za, Yq, YB, Yv, ZW, Yx, YX, YZ, Vm, YW, Yj, YH, Vp, Vn, Zq, Zs, YM, YE, Yk, Yz, Yl, Yu, YA, Yt, Yh, YI, ZP, ZY, List.cons_append, List.nil_append, Bool.not_true, Bool.not_false, ZN, YS, YR, YQ, YN, Vv, YO, VA])
    (with_reducible first | refine Vx ?_ | (refine VC ?_; intro J)); simp only [↓Ve, ↓Vf, ↓Vs, ↓Vl, ↓YU, ↓Vb, ↓Vu, ↓Ym, ↓Vk, ↓VI, ↓Vh, ↓YD, ↓Vj, ↓Yg, ↓Yy, ↓Ys, ↓Yo, ↓Yp, ↓Ye, Yc, ZA, ZS, Yb, Yr, ZF, Zx, ZD, ZT, ZX, ZO, Yd, YG, ZZ, YT, Yn, ZJ, YL, YK, Vc, Yw, ZU, ZR, YC, ZQ, ZV, ZH, YV, Vq, Vd, Vt, Vi, Vr, Va, Vo, Vg, YY, YJ, Yi, Zm, Zh, Zc, Zb, ZC, Zu, ZB, ZL, ZI, ZM, ZG, ZE, YF, Zz, Zy, Zw, Zt, Zr, Zo, Zv, Zn, Zi, Zp, Zl, Zd, Zk, Ze, Zj, Zf, Zg, Za, Yq, YB, Yv, ZW, Yx, YX, YZ, Vm, YW, Yj, YH, Vp, Vn, Zq, Zs, YM, YE, Yk, Yz, Yl, Yu, YA, Yt, Yh, YI, ZP, ZY, List.cons_append, List.nil_append, Bool.not_true, Bool.not_false, ZN, YS, YR, YQ, YN, Vv, YO, VA]
    refine ⟨rfl, ?_⟩
    (with_reducible first | refine Vx ?_ | (refine VC ?_; intro J)); simp only [↓Ve, ↓Vf, ↓Vs, ↓Vl, ↓YU, ↓Vb, ↓Vu, ↓Ym, ↓Vk, ↓VI, ↓Vh, ↓YD, ↓Vj, ↓Yg, ↓Yy, ↓Ys, ↓Yo, ↓Yp, ↓Ye, Yc, ZA, ZS, Yb, Yr, ZF, Zx, ZD, ZT, ZX, ZO, Yd, YG, ZZ, YT, Yn, ZJ, YL, YK, Vc, Yw, ZU, ZR, YC, ZQ, ZV, ZH, YV, Vq, Vd, Vt, Vi, Vr, Va, Vo, Vg, YY, YJ, Yi, Zm, Zh, Zc, Zb, ZC, Zu, ZB, ZL, ZI, ZM, ZG, ZE, YF, Zz, Zy, Zw, Zt, Zr, Zo, Zv, Zn, Zi, Zp, Zl, Zd, Zk, Ze, Zj, Zf, Zg, Za, Yq, YB, Yv, ZW, Yx, YX, YZ, Vm, YW, Yj, YH, Vp, Vn, Zq, Zs, YM, YE, Yk, Yz, Yl, Yu, YA, Yt, Yh, YI, ZP, ZY, List.cons_append, List.nil_append, Bool.not_true, Bool.not_false, ZN, YS, YR, YQ, YN, Vv, YO, VA]
    refine hNo _ (hp4.trans p5) fun L O h => ?_
    obtain ⟨q1, q2⟩ := hfit L O h
    obtain ⟨e, he, hW, -⟩ := find_frac dA hC h I hR q1 q2 (by lia) l2
    have := hW 0
    rw [pr_zero, show ps W 0 = fz (co W 0) from rfl, z0, fz_zero] at this
    exact he (by grind)
  have hpr : ∀ L O, Find A c S L O → ps us = pr L ∧ ps ls = pr O := fun L O h => by
    obtain ⟨q1, q2⟩ := hfit L O h
    obtain ⟨e, he, hW, hR'⟩ := find_frac dA hC h I hR q1 q2 (by lia) l2
    have hk0 : ps W 0 = e := by rw [hW 0, pr_zero]; grind
    exact ⟨frac_ps hk0 hinv hR' e1, frac_ps hk0 hinv hW e2⟩
  obtain ⟨lu, ll, cl, -, -⟩ := fi_end I hR hinv hus hls e1 e2
  have p5' := hp4.trans p5
  have w4 := hp4.length_le
  (try simp only [↓Ve, ↓Vf, ↓Vs, ↓Vl, ↓YU, ↓Vb, ↓Vu, ↓Ym, ↓Vk, ↓VI, ↓Vh, ↓YD, ↓Vj, ↓Yg, ↓Yy, ↓Ys, ↓Yo, ↓Yp, ↓Ye, Yc, ZA, ZS, Yb, Yr, ZF, Zx, ZD, ZT, ZX, ZO, Yd, YG, ZZ, YT, Yn, ZJ, YL, YK, Vc, Yw, ZU, ZR, YC, ZQ, ZV, ZH, YV, Vq, Vd, Vt, Vi, Vr, Va, Vo, Vg, YY, YJ, Yi, Zm, Zh, Zc, Zb, ZC, Zu, ZB, ZL, ZI, ZM, ZG, ZE, YF, Zz, Zy, Zw, Zt, Zr, Zo, Zv, Zn, Zi, Zp, Zl, Zd, Zk, Ze, Zj, Zf, Zg, Za, Yq, YB, Yv, ZW, Yx, YX, YZ, Vm, YW, Yj, YH, Vp, Vn, Zq, Zs, YM, YE, Yk, Yz, Yl, Yu, YA, Yt, Yh, YI, ZP, ZY, List.cons_append, List.nil_append, Bool.not_true, Bool.not_false, ZN, YS, YR, YQ, YN, Vv, YO, VA])
  (with_reducible first | refine Vx ?_ | (refine VC ?_; intro J)); simp only [↓Ve, ↓Vf, ↓Vs, ↓Vl, ↓YU, ↓Vb, ↓Vu, ↓Ym, ↓Vk, ↓VI, ↓Vh, ↓YD, ↓Vj, ↓Yg, ↓Yy, ↓Ys, ↓Yo, ↓Yp, ↓Ye, Yc, ZA, ZS, Yb, Yr, ZF, Zx, ZD, ZT, ZX, ZO, Yd, YG, ZZ, YT, Yn, ZJ, YL, YK, Vc, Yw, ZU, ZR, YC, ZQ, ZV, ZH, YV, Vq, Vd, Vt, Vi, Vr, Va, Vo, Vg, YY, YJ, Yi, Zm, Zh, Zc, Zb, ZC, Zu, ZB, ZL, ZI, ZM, ZG, ZE, YF, Zz, Zy, Zw, Zt, Zr, Zo, Zv, Zn, Zi, Zp, Zl, Zd, Zk, Ze, Zj, Zf, Zg, Za, Yq, YB, Yv, ZW, Yx, YX, YZ, Vm, YW, Yj, YH, Vp, Vn, Zq, Zs, YM, YE, Yk, Yz, Yl, Yu, YA, Yt, Yh, YI, ZP, ZY, List.cons_append, List.nil_append, Bool.not_true, Bool.not_false, ZN, YS, YR, YQ, YN, Vv, YO, VA]
  refine ⟨rfl, ?_⟩
  refine Wa (by decide) rfl ?_
  (try simp only [↓Ve, ↓Vf, ↓Vs, ↓Vl, ↓YU, ↓Vb, ↓Vu, ↓Ym, ↓Vk, ↓VI, ↓Vh, ↓YD, ↓Vj, ↓Yg, ↓Yy, ↓Ys, ↓Yo, ↓Yp, ↓Ye, Yc, ZA, ZS, Yb, Yr, ZF, Zx, ZD, ZT, ZX, ZO, Yd, YG, ZZ, YT, Yn, ZJ, YL, YK, Vc, Yw, ZU, ZR, YC, ZQ, ZV, ZH, YV, Vq, Vd, Vt, Vi, Vr, Va, Vo, Vg, YY, YJ, Yi, Zm, Zh, Zc, Zb, ZC, Zu, ZB, ZL, ZI, ZM, ZG, ZE, YF, Zz, Zy, Zw, Zt, Zr, Zo, Zv, Zn, Zi, Zp, Zl, Zd, Zk, Ze, Zj, Zf, Zg, Za, Yq, YB, Yv, ZW, Yx, YX, YZ, Vm, YW, Yj, YH, Vp, Vn, Zq, Zs, YM, YE, Yk, Yz, Yl, Yu, YA, Yt, Yh, YI, ZP, ZY, List.cons_append, List.nil_append, Bool.not_true, Bool.not_false, ZN, YS, YR, YQ, YN, Vv, YO, VA, VH g5, VR])
  split
  · rename_i z
    (with_reducible first | refine Vx ?_ | (refine VC ?_; intro J)); simp only [↓Ve, ↓Vf, ↓Vs, ↓Vl, ↓YU, ↓Vb, ↓Vu, ↓Ym, ↓Vk, ↓VI, ↓Vh, ↓YD, ↓Vj, ↓Yg, ↓Yy, ↓Ys, ↓Yo, ↓Yp, ↓Ye, Yc, ZA, ZS, Yb, Yr, ZF, Zx, ZD, ZT, ZX, ZO, Yd, YG, ZZ, YT, Yn, ZJ, YL, YK, Vc, Yw, ZU, ZR, YC, ZQ, ZV, ZH, YV, Vq, Vd, Vt, Vi, Vr, Va, Vo, Vg, YY, YJ, Yi, Zm, Zh, Zc, Zb, ZC, Zu, ZB, ZL, ZI, ZM, ZG, ZE, YF, Zz, Zy, Zw, Zt, Zr, Zo, Zv, Zn, Zi, Zp, Zl, Zd, Zk, Ze, Zj, Zf, Zg, Za, Yq, YB, Yv, ZW, Yx, YX, YZ, Vm, YW, Yj, YH, Vp, Vn, Zq, Zs, YM, YE, Yk, Yz, Yl, Yu, YA, Yt, Yh, YI, ZP, ZY, List.cons_append, List.nil_append, Bool.not_true, Bool.not_false, ZN, YS, YR, YQ, YN, Vv, YO, VA]
    refine hNo _ p5' fun L O h => ?_
    have := pr_len hus.1 hus.2 h.1.2 (hpr L O h).1
    lia
  rename_i z
  have nls : ls ≠ [] := fun q => by rw [q, co_ge (by simp)] at cl; exact absurd cl (by decide)
  (try change wpSs _ _ _ _ _)
  refine s_cut (VB _ _) (fun m' H' => ∃ v, And4 (H5 <+: H') (Told us H.length v H') ((∀ i, v = .ref i → i < H'.length)) (m' = [some (.ref k), some (.tup [.int c, .tup (zl S)]), some (.int more), some (.ref k3), some (.int s), some (.tup [.ref k5, .ref l5]), some v, none])) ?_ ?_
  · (try (with_reducible refine post_letS ?_; intro J))
    (try simp only [↓Ve, ↓Vf, ↓Vs, ↓Vl, ↓YU, ↓Vb, ↓Vu, ↓Ym, ↓Vk, ↓VI, ↓Vh, ↓YD, ↓Vj, ↓Yg, ↓Yy, ↓Ys, ↓Yo, ↓Yp, ↓Ye, Yc, ZA, ZS, Yb, Yr, ZF, Zx, ZD, ZT, ZX, ZO, Yd, YG, ZZ, YT, Yn, ZJ, YL, YK, Vc, Yw, ZU, ZR, YC, ZQ, ZV, ZH, YV, Vq, Vd, Vt, Vi, Vr, Va, Vo, Vg, YY, YJ, Yi, Zm, Zh, Zc, Zb, ZC, Zu, ZB, ZL, ZI, ZM, ZG, ZE, YF, Zz, Zy, Zw, Zt, Zr, Zo, Zv, Zn, Zi, Zp, Zl, Zd, Zk, Ze, Zj, Zf, Zg, Za, Yq, YB, Yv, ZW, Yx, YX, YZ, Vm, YW, Yj, YH, Vp, Vn, Zq, Zs, YM, YE, Yk, Yz, Yl, Yu, YA, Yt, Yh, YI, ZP, ZY, List.cons_append, List.nil_append, Bool.not_true, Bool.not_false, ZN, YS, YR, YQ, YN, Vv, YO, VA])
    refine Wa (by decide) rfl ?_
    refine spec_numbers_of _ _ us _ _ g5 hus (fun q => by rw [q] at z; simp at z) (by lia) (fun H6 p6 hn => ?_) fun i js H6 p6 li g6 hn => ?_
    · (try simp only [↓Ve, ↓Vf, ↓Vs, ↓Vl, ↓YU, ↓Vb, ↓Vu, ↓Ym, ↓Vk, ↓VI, ↓Vh, ↓YD, ↓Vj, ↓Yg, ↓Yy, ↓Ys, ↓Yo, ↓Yp, ↓Ye, Yc, ZA, ZS, Yb, Yr, ZF, Zx, ZD, ZT, ZX, ZO, Yd, YG, ZZ, YT, Yn, ZJ, YL, YK, Vc, Yw, ZU, ZR, YC, ZQ, ZV, ZH, YV, Vq, Vd, Vt, Vi, Vr, Va, Vo, Vg, YY, YJ, Yi, Zm, Zh, Zc, Zb, ZC, Zu, ZB, ZL, ZI, ZM, ZG, ZE, YF, Zz, Zy, Zw, Zt, Zr, Zo, Zv, Zn, Zi, Zp, Zl, Zd, Zk, Ze, Zj, Zf, Zg, Za, Yq, YB, Yv, ZW, Yx, YX, YZ, Vm, YW, Yj, YH, Vp, Vn, Zq, Zs, YM, YE, Yk, Yz, Yl, Yu, YA, Yt, Yh, YI, ZP, ZY, List.cons_append, List.nil_append, Bool.not_true, Bool.not_false, ZN, YS, YR, YQ, YN, Vv, YO, VA])
      exact ⟨_, p6, .inl ⟨rfl, hn⟩, (fun _ q => by cases q), rfl⟩
    · (try simp only [↓Ve, ↓Vf, ↓Vs, ↓Vl, ↓YU, ↓Vb, ↓Vu, ↓Ym, ↓Vk, ↓VI, ↓Vh, ↓YD, ↓Vj, ↓Yg, ↓Yy, ↓Ys, ↓Yo, ↓Yp, ↓Ye, Yc, ZA, ZS, Yb, Yr, ZF, Zx, ZD, ZT, ZX, ZO, Yd, YG, ZZ, YT, Yn, ZJ, YL, YK, Vc, Yw, ZU, ZR, YC, ZQ, ZV, ZH, YV, Vq, Vd, Vt, Vi, Vr, Va, Vo, Vg, YY, YJ, Yi, Zm, Zh, Zc, Zb, ZC, Zu, ZB, ZL, ZI, ZM, ZG, ZE, YF, Zz, Zy, Zw, Zt, Zr, Zo, Zv, Zn, Zi, Zp, Zl, Zd, Zk, Ze, Zj, Zf, Zg, Za, Yq, YB, Yv, ZW, Yx, YX, YZ, Vm, YW, Yj, YH, Vp, Vn, Zq, Zs, YM, YE, Yk, Yz, Yl, Yu, YA, Yt, Yh, YI, ZP, ZY, List.cons_append, List.nil_append, Bool.not_true, Bool.not_false, ZN, YS, YR, YQ, YN, Vv, YO, VA])
      have := p5'.length_le
      exact ⟨_, p6, .inr ⟨i, js, rfl, by lia, g6, hn⟩, (fun _ q => by cases q; exact lt_of g6), rfl⟩
  rintro m' H6 ⟨v, p6, hv, hvl, rfl⟩
  (try (with_reducible (first | refine Vy ?_ | refine Vw ?_); intro J))
  have w5 := p5'.length_le
  have w6 := p6.length_le
  (try change wpSs _ _ _ _ _)
  refine s_cut (VB _ _) (fun m' H' => ∃ w, And3 (H6 <+: H') (Told ls H6.length w H') (m' = [some (.ref k), some (.tup [.int c, .tup (zl S)]), some (.int more), some (.ref k3), some (.int s), some (.tup [.ref k5, .ref l5]), some v, some w])) ?_ ?_
  · (try (with_reducible refine post_letS ?_; intro J))
    (try simp only [↓Ve, ↓Vf, ↓Vs, ↓Vl, ↓YU, ↓Vb, ↓Vu, ↓Ym, ↓Vk, ↓VI, ↓Vh, ↓YD, ↓Vj, ↓Yg, ↓Yy, ↓Ys, ↓Yo, ↓Yp, ↓Ye, Yc, ZA, ZS, Yb, Yr, ZF, Zx, ZD, ZT, ZX, ZO, Yd, YG, ZZ, YT, Yn, ZJ, YL, YK, Vc, Yw, ZU, ZR, YC, ZQ, ZV, ZH, YV, Vq, Vd, Vt, Vi, Vr, Va, Vo, Vg, YY, YJ, Yi, Zm, Zh, Zc, Zb, ZC, Zu, ZB, ZL, ZI, ZM, ZG, ZE, YF, Zz, Zy, Zw, Zt, Zr, Zo, Zv, Zn, Zi, Zp, Zl, Zd, Zk, Ze, Zj, Zf, Zg, Za, Yq, YB, Yv, ZW, Yx, YX, YZ, Vm, YW, Yj, YH, Vp, Vn, Zq, Zs, YM, YE, Yk, Yz, Yl, Yu, YA, Yt, Yh, YI, ZP, ZY, List.cons_append, List.nil_append, Bool.not_true, Bool.not_false, ZN, YS, YR, YQ, YN, Vv, YO, VA])
    refine Wa (by decide) rfl ?_
    refine spec_numbers_of _ _ ls _ _ (Vz p6 g5') hls nls (by lia) (fun H7 p7 hn => ?_) fun i js H7 p7 li g7 hn => ?_
    · (try simp only [↓Ve, ↓Vf, ↓Vs, ↓Vl, ↓YU, ↓Vb, ↓Vu, ↓Ym, ↓Vk, ↓VI, ↓Vh, ↓YD, ↓Vj, ↓Yg, ↓Yy, ↓Ys, ↓Yo, ↓Yp, ↓Ye, Yc, ZA, ZS, Yb, Yr, ZF, Zx, ZD, ZT, ZX, ZO, Yd, YG, ZZ, YT, Yn, ZJ, YL, YK, Vc, Yw, ZU, ZR, YC, ZQ, ZV, ZH, YV, Vq, Vd, Vt, Vi, Vr, Va, Vo, Vg, YY, YJ, Yi, Zm, Zh, Zc, Zb, ZC, Zu, ZB, ZL, ZI, ZM, ZG, ZE, YF, Zz, Zy, Zw, Zt, Zr, Zo, Zv, Zn, Zi, Zp, Zl, Zd, Zk, Ze, Zj, Zf, Zg, Za, Yq, YB, Yv, ZW, Yx, YX, YZ, Vm, YW, Yj, YH, Vp, Vn, Zq, Zs, YM, YE, Yk, Yz, Yl, Yu, YA, Yt, Yh, YI, ZP, ZY, List.cons_append, List.nil_append, Bool.not_true, Bool.not_false, ZN, YS, YR, YQ, YN, Vv, YO, VA])
      exact ⟨_, p7, .inl ⟨rfl, hn⟩, rfl⟩
    · (try simp only [↓Ve, ↓Vf, ↓Vs, ↓Vl, ↓YU, ↓Vb, ↓Vu, ↓Ym, ↓Vk, ↓VI, ↓Vh, ↓YD, ↓Vj, ↓Yg, ↓Yy, ↓Ys, ↓Yo, ↓Yp, ↓Ye, Yc, ZA, ZS, Yb, Yr, ZF, Zx, ZD, ZT, ZX, ZO, Yd, YG, ZZ, YT, Yn, ZJ, YL, YK, Vc, Yw, ZU, ZR, YC, ZQ, ZV, ZH, YV, Vq, Vd, Vt, Vi, Vr, Va, Vo, Vg, YY, YJ, Yi, Zm, Zh, Zc, Zb, ZC, Zu, ZB, ZL, ZI, ZM, ZG, ZE, YF, Zz, Zy, Zw, Zt, Zr, Zo, Zv, Zn, Zi, Zp, Zl, Zd, Zk, Ze, Zj, Zf, Zg, Za, Yq, YB, Yv, ZW, Yx, YX, YZ, Vm, YW, Yj, YH, Vp, Vn, Zq, Zs, YM, YE, Yk, Yz, Yl, Yu, YA, Yt, Yh, YI, ZP, ZY, List.cons_append, List.nil_append, Bool.not_true, Bool.not_false, ZN, YS, YR, YQ, YN, Vv, YO, VA])
      exact ⟨_, p7, .inr ⟨i, js, rfl, li, g7, hn⟩, rfl⟩
  rintro m' H7 ⟨w, p7, hw, rfl⟩
  (try (with_reducible (first | refine Vy ?_ | refine Vw ?_); intro J))
  have p7' := p5'.trans (p6.trans p7)
  rcases hv with ⟨rfl, hn⟩ | ⟨i, L, rfl, li, gi, hL⟩
  · (with_reducible first | refine Vx ?_ | (refine VC ?_; intro J)); simp only [↓Ve, ↓Vf, ↓Vs, ↓Vl, ↓YU, ↓Vb, ↓Vu, ↓Ym, ↓Vk, ↓VI, ↓Vh, ↓YD, ↓Vj, ↓Yg, ↓Yy, ↓Ys, ↓Yo, ↓Yp, ↓Ye, Yc, ZA, ZS, Yb, Yr, ZF, Zx, ZD, ZT, ZX, ZO, Yd, YG, ZZ, YT, Yn, ZJ, YL, YK, Vc, Yw, ZU, ZR, YC, ZQ, ZV, ZH, YV, Vq, Vd, Vt, Vi, Vr, Va, Vo, Vg, YY, YJ, Yi, Zm, Zh, Zc, Zb, ZC, Zu, ZB, ZL, ZI, ZM, ZG, ZE, YF, Zz, Zy, Zw, Zt, Zr, Zo, Zv, Zn, Zi, Zp, Zl, Zd, Zk, Ze, Zj, Zf, Zg, Za, Yq, YB, Yv, ZW, Yx, YX, YZ, Vm, YW, Yj, YH, Vp, Vn, Zq, Zs, YM, YE, Yk, Yz, Yl, Yu, YA, Yt, Yh, YI, ZP, ZY, List.cons_append, List.nil_append, Bool.not_true, Bool.not_false, ZN, YS, YR, YQ, YN, Vv, YO, VA]
    refine ⟨rfl, ?_⟩
    (with_reducible first | refine Vx ?_ | (refine VC ?_; intro J)); simp only [↓Ve, ↓Vf, ↓Vs, ↓Vl, ↓YU, ↓Vb, ↓Vu, ↓Ym, ↓Vk, ↓VI, ↓Vh, ↓YD, ↓Vj, ↓Yg, ↓Yy, ↓Ys, ↓Yo, ↓Yp, ↓Ye, Yc, ZA, ZS, Yb, Yr, ZF, Zx, ZD, ZT, ZX, ZO, Yd, YG, ZZ, YT, Yn, ZJ, YL, YK, Vc, Yw, ZU, ZR, YC, ZQ, ZV, ZH, YV, Vq, Vd, Vt, Vi, Vr, Va, Vo, Vg, YY, YJ, Yi, Zm, Zh, Zc, Zb, ZC, Zu, ZB, ZL, ZI, ZM, ZG, ZE, YF, Zz, Zy, Zw, Zt, Zr, Zo, Zv, Zn, Zi, Zp, Zl, Zd, Zk, Ze, Zj, Zf, Zg, Za, Yq, YB, Yv, ZW, Yx, YX, YZ, Vm, YW, Yj, YH, Vp, Vn, Zq, Zs, YM, YE, Yk, Yz, Yl, Yu, YA, Yt, Yh, YI, ZP, ZY, List.cons_append, List.nil_append, Bool.not_true, Bool.not_false, ZN, YS, YR, YQ, YN, Vv, YO, VA]
    exact hNo _ p7' fun L O h => hn L h.1 (hpr L O h).1
  rcases hw with ⟨rfl, hn⟩ | ⟨j, O, rfl, lj, gj, hO⟩
  · (with_reducible first | refine Vx ?_ | (refine VC ?_; intro J)); simp only [↓Ve, ↓Vf, ↓Vs, ↓Vl, ↓YU, ↓Vb, ↓Vu, ↓Ym, ↓Vk, ↓VI, ↓Vh, ↓YD, ↓Vj, ↓Yg, ↓Yy, ↓Ys, ↓Yo, ↓Yp, ↓Ye, Yc, ZA, ZS, Yb, Yr, ZF, Zx, ZD, ZT, ZX, ZO, Yd, YG, ZZ, YT, Yn, ZJ, YL, YK, Vc, Yw, ZU, ZR, YC, ZQ, ZV, ZH, YV, Vq, Vd, Vt, Vi, Vr, Va, Vo, Vg, YY, YJ, Yi, Zm, Zh, Zc, Zb, ZC, Zu, ZB, ZL, ZI, ZM, ZG, ZE, YF, Zz, Zy, Zw, Zt, Zr, Zo, Zv, Zn, Zi, Zp, Zl, Zd, Zk, Ze, Zj, Zf, Zg, Za, Yq, YB, Yv, ZW, Yx, YX, YZ, Vm, YW, Yj, YH, Vp, Vn, Zq, Zs, YM, YE, Yk, Yz, Yl, Yu, YA, Yt, Yh, YI, ZP, ZY, List.cons_append, List.nil_append, Bool.not_true, Bool.not_false, ZN, YS, YR, YQ, YN, Vv, YO, VA]
    refine ⟨rfl, rfl, ?_⟩
    (with_reducible first | refine Vx ?_ | (refine VC ?_; intro J)); simp only [↓Ve, ↓Vf, ↓Vs, ↓Vl, ↓YU, ↓Vb, ↓Vu, ↓Ym, ↓Vk, ↓VI, ↓Vh, ↓YD, ↓Vj, ↓Yg, ↓Yy, ↓Ys, ↓Yo, ↓Yp, ↓Ye, Yc, ZA, ZS, Yb, Yr, ZF, Zx, ZD, ZT, ZX, ZO, Yd, YG, ZZ, YT, Yn, ZJ, YL, YK, Vc, Yw, ZU, ZR, YC, ZQ, ZV, ZH, YV, Vq, Vd, Vt, Vi, Vr, Va, Vo, Vg, YY, YJ, Yi, Zm, Zh, Zc, Zb, ZC, Zu, ZB, ZL, ZI, ZM, ZG, ZE, YF, Zz, Zy, Zw, Zt, Zr, Zo, Zv, Zn, Zi, Zp, Zl, Zd, Zk, Ze, Zj, Zf, Zg, Za, Yq, YB, Yv, ZW, Yx, YX, YZ, Vm, YW, Yj, YH, Vp, Vn, Zq, Zs, YM, YE, Yk, Yz, Yl, Yu, YA, Yt, Yh, YI, ZP, ZY, List.cons_append, List.nil_append, Bool.not_true, Bool.not_false, ZN, YS, YR, YQ, YN, Vv, YO, VA]
    exact hNo _ p7' fun L O h => hn O h.2.1 (hpr L O h).2
  have huni : ∀ L' O', Find A c S L' O' → L' = L ∧ O' = O := fun L' O' h => ⟨nums_eq hus hL h.1 (hpr L' O' h).1, nums_eq hls hO h.2.1 (hpr L' O' h).2⟩
  have q1 := hvl i rfl
  have gi7 := Vz p7 gi
  have lL : L.length ≤ 100 := by
    have e := hL.2.length_eq
    have := roots_le hus.1 hus.2 (fun q => by rw [q] at z; simp at z)
    rw [List.length_map] at e
    lia
  (with_reducible first | refine Vx ?_ | (refine VC ?_; intro J)); simp only [↓Ve, ↓Vf, ↓Vs, ↓Vl, ↓YU, ↓Vb, ↓Vu, ↓Ym, ↓Vk, ↓VI, ↓Vh, ↓YD, ↓Vj, ↓Yg, ↓Yy, ↓Ys, ↓Yo, ↓Yp, ↓Ye, Yc, ZA, ZS, Yb, Yr, ZF, Zx, ZD, ZT, ZX, ZO, Yd, YG, ZZ, YT, Yn, ZJ, YL, YK, Vc, Yw, ZU, ZR, YC, ZQ, ZV, ZH, YV, Vq, Vd, Vt, Vi, Vr, Va, Vo, Vg, YY, YJ, Yi, Zm, Zh, Zc, Zb, ZC, Zu, ZB, ZL, ZI, ZM, ZG, ZE, YF, Zz, Zy, Zw, Zt, Zr, Zo, Zv, Zn, Zi, Zp, Zl, Zd, Zk, Ze, Zj, Zf, Zg, Za, Yq, YB, Yv, ZW, Yx, YX, YZ, Vm, YW, Yj, YH, Vp, Vn, Zq, Zs, YM, YE, Yk, Yz, Yl, Yu, YA, Yt, Yh, YI, ZP, ZY, List.cons_append, List.nil_append, Bool.not_true, Bool.not_false, ZN, YS, YR, YQ, YN, Vv, YO, VA]
  refine ⟨rfl, rfl, ?_⟩
  refine spec_is_find _ _ _ _ A S L O c _ _ (Vz p7' hk) gi7 gj (by lia) lL (by lia) (fun H8 p8 hf => ?_) fun H8 p8 hf => ?_
  · (try simp only [↓Ve, ↓Vf, ↓Vs, ↓Vl, ↓YU, ↓Vb, ↓Vu, ↓Ym, ↓Vk, ↓VI, ↓Vh, ↓YD, ↓Vj, ↓Yg, ↓Yy, ↓Ys, ↓Yo, ↓Yp, ↓Ye, Yc, ZA, ZS, Yb, Yr, ZF, Zx, ZD, ZT, ZX, ZO, Yd, YG, ZZ, YT, Yn, ZJ, YL, YK, Vc, Yw, ZU, ZR, YC, ZQ, ZV, ZH, YV, Vq, Vd, Vt, Vi, Vr, Va, Vo, Vg, YY, YJ, Yi, Zm, Zh, Zc, Zb, ZC, Zu, ZB, ZL, ZI, ZM, ZG, ZE, YF, Zz, Zy, Zw, Zt, Zr, Zo, Zv, Zn, Zi, Zp, Zl, Zd, Zk, Ze, Zj, Zf, Zg, Za, Yq, YB, Yv, ZW, Yx, YX, YZ, Vm, YW, Yj, YH, Vp, Vn, Zq, Zs, YM, YE, Yk, Yz, Yl, Yu, YA, Yt, Yh, YI, ZP, ZY, List.cons_append, List.nil_append, Bool.not_true, Bool.not_false, ZN, YS, YR, YQ, YN, Vv, YO, VA])
    (with_reducible first | refine Vx ?_ | (refine VC ?_; intro J)); simp only [↓Ve, ↓Vf, ↓Vs, ↓Vl, ↓YU, ↓Vb, ↓Vu, ↓Ym, ↓Vk, ↓VI, ↓Vh, ↓YD, ↓Vj, ↓Yg, ↓Yy, ↓Ys, ↓Yo, ↓Yp, ↓Ye, Yc, ZA, ZS, Yb, Yr, ZF, Zx, ZD, ZT, ZX, ZO, Yd, YG, ZZ, YT, Yn, ZJ, YL, YK, Vc, Yw, ZU, ZR, YC, ZQ, ZV, ZH, YV, Vq, Vd, Vt, Vi, Vr, Va, Vo, Vg, YY, YJ, Yi, Zm, Zh, Zc, Zb, ZC, Zu, ZB, ZL, ZI, ZM, ZG, ZE, YF, Zz, Zy, Zw, Zt, Zr, Zo, Zv, Zn, Zi, Zp, Zl, Zd, Zk, Ze, Zj, Zf, Zg, Za, Yq, YB, Yv, ZW, Yx, YX, YZ, Vm, YW, Yj, YH, Vp, Vn, Zq, Zs, YM, YE, Yk, Yz, Yl, Yu, YA, Yt, Yh, YI, ZP, ZY, List.cons_append, List.nil_append, Bool.not_true, Bool.not_false, ZN, YS, YR, YQ, YN, Vv, YO, VA]
    refine hNo _ (p7'.trans p8) fun L' O' h => hf ?_
    obtain ⟨rfl, rfl⟩ := huni L' O' h
    exact h.2.2
  · (try simp only [↓Ve, ↓Vf, ↓Vs, ↓Vl, ↓YU, ↓Vb, ↓Vu, ↓Ym, ↓Vk, ↓VI, ↓Vh, ↓YD, ↓Vj, ↓Yg, ↓Yy, ↓Ys, ↓Yo, ↓Yp, ↓Ye, Yc, ZA, ZS, Yb, Yr, ZF, Zx, ZD, ZT, ZX, ZO, Yd, YG, ZZ, YT, Yn, ZJ, YL, YK, Vc, Yw, ZU, ZR, YC, ZQ, ZV, ZH, YV, Vq, Vd, Vt, Vi, Vr, Va, Vo, Vg, YY, YJ, Yi, Zm, Zh, Zc, Zb, ZC, Zu, ZB, ZL, ZI, ZM, ZG, ZE, YF, Zz, Zy, Zw, Zt, Zr, Zo, Zv, Zn, Zi, Zp, Zl, Zd, Zk, Ze, Zj, Zf, Zg, Za, Yq, YB, Yv, ZW, Yx, YX, YZ, Vm, YW, Yj, YH, Vp, Vn, Zq, Zs, YM, YE, Yk, Yz, Yl, Yu, YA, Yt, Yh, YI, ZP, ZY, List.cons_append, List.nil_append, Bool.not_true, Bool.not_false, ZN, YS, YR, YQ, YN, Vv, YO, VA])
    (with_reducible first | refine Vx ?_ | (refine VC ?_; intro J)); simp only [↓Ve, ↓Vf, ↓Vs, ↓Vl, ↓YU, ↓Vb, ↓Vu, ↓Ym, ↓Vk, ↓VI, ↓Vh, ↓YD, ↓Vj, ↓Yg, ↓Yy, ↓Ys, ↓Yo, ↓Yp, ↓Ye, Yc, ZA, ZS, Yb, Yr, ZF, Zx, ZD, ZT, ZX, ZO, Yd, YG, ZZ, YT, Yn, ZJ, YL, YK, Vc, Yw, ZU, ZR, YC, ZQ, ZV, ZH, YV, Vq, Vd, Vt, Vi, Vr, Va, Vo, Vg, YY, YJ, Yi, Zm, Zh, Zc, Zb, ZC, Zu, ZB, ZL, ZI, ZM, ZG, ZE, YF, Zz, Zy, Zw, Zt, Zr, Zo, Zv, Zn, Zi, Zp, Zl, Zd, Zk, Ze, Zj, Zf, Zg, Za, Yq, YB, Yv, ZW, Yx, YX, YZ, Vm, YW, Yj, YH, Vp, Vn, Zq, Zs, YM, YE, Yk, Yz, Yl, Yu, YA, Yt, Yh, YI, ZP, ZY, List.cons_append, List.nil_append, Bool.not_true, Bool.not_false, ZN, YS, YR, YQ, YN, Vv, YO, VA]
    exact hYes i j L O H8 (p7'.trans p8) li (by lia) (by lia) (Vz p8 gi7) (Vz p8 gj) ⟨hL.1, hO.1, hf⟩ huni
end Mine

--STEP: ZN, YS, YR, YQ, YN, Vv, YO, VA
open PySem
set_option linter.unusedSimpArgs false
set_option linter.unusedVariables false
namespace Mine

theorem mem_without {A B : List Int} {a : Int} : (a ∈ A.filter fun a => !decide (a ∈ B)) ↔ a ∈ A ∧ a ∉ B := by
  rw [List.mem_filter]; simp
/-- a row with changes -/
noncomputable def other (A Ch : List Int) : List Int := (A.filter fun a => !decide (a ∈ Ch)) ++ Ch.filter fun a => !decide (a ∈ A)
theorem num_len {A : List Int} (nA : Num A) (dA : A.Nodup) : A.length ≤ 250 := by
  have := sub_len (l := A) (l' := (List.range 250).map fun j : Nat => 1 + (j : Int)) dA fun a ha => by
    have := nA a ha
    exact List.mem_map.mpr ⟨(a - 1).toNat, List.mem_range.mpr (by lia), by lia⟩
  simpa using this
theorem other_row {A Ch : List Int} (nA : Num A) (dA : A.Nodup) (nC : Num Ch) (dC : Ch.Nodup) : Num (other A Ch) ∧ (other A Ch).Nodup := by
  constructor
  · intro a ha
    rcases List.mem_append.mp ha with q | q
    · exact nA a (mem_without.mp q).1
    · exact nC a (mem_without.mp q).1
  · rw [other, List.nodup_append]
    exact ⟨dA.filter _, dC.filter _, fun a ha b hb e => (mem_without.mp ha).2 (e ▸ (mem_without.mp hb).1)⟩
theorem spec_other (n k : Nat) (A : List Int) (c s : Int) (H : Hp) (P : PV) (hk : H[k]? = some (zl A)) (nA : Num A) (lA : A.length ≤ 250) (h0 : 0 ≤ s) (h1 : s ≤ 100)
    (h : ∀ k' Ch H', H <+: H' → H.length ≤ k' → H'[k']? = some (zl (other A Ch)) → Num Ch → Ch.Nodup → Ch.length ≤ s → P (.ref k') H') : run T (n + 1) 54 [.ref k, .int c, .int s] H P := by
  refine run_succ (d := f_law_other) rfl rfl (by decide) ?_
  simp only [f_law_other, entry, List.map, List.replicate, Nat.reduceSub, List.cons_append, List.nil_append]
  (with_reducible first | refine Vx ?_ | (refine VC ?_; intro J)); simp only [↓Ve, ↓Vf, ↓Vs, ↓Vl, ↓YU, ↓Vb, ↓Vu, ↓Ym, ↓Vk, ↓VI, ↓Vh, ↓YD, ↓Vj, ↓Yg, ↓Yy, ↓Ys, ↓Yo, ↓Yp, ↓Ye, Yc, ZA, ZS, Yb, Yr, ZF, Zx, ZD, ZT, ZX, ZO, Yd, YG, ZZ, YT, Yn, ZJ, YL, YK, Vc, Yw, ZU, ZR, YC, ZQ, ZV, ZH, YV, Vq, Vd, Vt, Vi, Vr, Va, Vo, Vg, YY, YJ, Yi, Zm, Zh, Zc, Zb, ZC, Zu, ZB, ZL, ZI, ZM, ZG, ZE, YF, Zz, Zy, Zw, Zt, Zr, Zo, Zv, Zn, Zi, Zp, Zl, Zd, Zk, Ze, Zj, Zf, Zg, Za, Yq, YB, Yv, ZW, Yx, YX, YZ, Vm, YW, Yj, YH, Vp, Vn, Zq, Zs, YM, YE, Yk, Yz, Yl, Yu, YA, Yt, Yh, YI, ZP, ZY, List.cons_append, List.nil_append, Bool.not_true, Bool.not_false, ZN, YS, YR, YQ, YN, Vv, YO, VA]
  refine ⟨by decide, withL_of VP ?_⟩
  refine item_mem (xs := [1, 3, 7, 9, 11, 13, 37, 121, 249, 97]) (Int.emod_nonneg _ (by decide)) (Int.emod_lt_of_pos _ (by decide)) fun st hst => ?_
  have hst' : 0 ≤ st ∧ st ≤ 300 := by
    simp only [List.mem_cons, List.not_mem_nil, or_false] at hst; omega --o
  have p1 : H <+: H ++ [[V.int 1, V.int 3, V.int 7, V.int 9, V.int 11, V.int 13, V.int 37, V.int 121, V.int 249, V.int 97]] := List.prefix_append _ _
  generalize H ++ [[V.int 1, V.int 3, V.int 7, V.int 9, V.int 11, V.int 13, V.int 37, V.int 121, V.int 249, V.int 97]] = H1 at p1 ⊢
  (with_reducible first | refine Vx ?_ | (refine VC ?_; intro J)); simp only [↓Ve, ↓Vf, ↓Vs, ↓Vl, ↓YU, ↓Vb, ↓Vu, ↓Ym, ↓Vk, ↓VI, ↓Vh, ↓YD, ↓Vj, ↓Yg, ↓Yy, ↓Ys, ↓Yo, ↓Yp, ↓Ye, Yc, ZA, ZS, Yb, Yr, ZF, Zx, ZD, ZT, ZX, ZO, Yd, YG, ZZ, YT, Yn, ZJ, YL, YK, Vc, Yw, ZU, ZR, YC, ZQ, ZV, ZH, YV, Vq, Vd, Vt, Vi, Vr, Va, Vo, Vg, YY, YJ, Yi, Zm, Zh, Zc, Zb, ZC, Zu, ZB, ZL, ZI, ZM, ZG, ZE, YF, Zz, Zy, Zw, Zt, Zr, Zo, Zv, Zn, Zi, Zp, Zl, Zd, Zk, Ze, Zj, Zf, Zg, Za, Yq, YB, Yv, ZW, Yx, YX, YZ, Vm, YW, Yj, YH, Vp, Vn, Zq, Zs, YM, YE, Yk, Yz, Yl, Yu, YA, Yt, Yh, YI, ZP, ZY, List.cons_append, List.nil_append, Bool.not_true, Bool.not_false, ZN, YS, YR, YQ, YN, Vv, YO, VA]
  refine ⟨by decide, by decide, ?_⟩
  generalize c / 20 = bg
  (with_reducible first | refine Vx ?_ | (refine VC ?_; intro J)); simp only [↓Ve, ↓Vf, ↓Vs, ↓Vl, ↓YU, ↓Vb, ↓Vu, ↓Ym, ↓Vk, ↓VI, ↓Vh, ↓YD, ↓Vj, ↓Yg, ↓Yy, ↓Ys, ↓Yo, ↓Yp, ↓Ye, Yc, ZA, ZS, Yb, Yr, ZF, Zx, ZD, ZT, ZX, ZO, Yd, YG, ZZ, YT, Yn, ZJ, YL, YK, Vc, Yw, ZU, ZR, YC, ZQ, ZV, ZH, YV, Vq, Vd, Vt, Vi, Vr, Va, Vo, Vg, YY, YJ, Yi, Zm, Zh, Zc, Zb, ZC, Zu, ZB, ZL, ZI, ZM, ZG, ZE, YF, Zz, Zy, Zw, Zt, Zr, Zo, Zv, Zn, Zi, Zp, Zl, Zd, Zk, Ze, Zj, Zf, Zg, Za, Yq, YB, Yv, ZW, Yx, YX, YZ, Vm, YW, Yj, YH, Vp, Vn, Zq, Zs, YM, YE, Yk, Yz, Yl, Yu, YA, Yt, Yh, YI, ZP, ZY, List.cons_append, List.nil_append, Bool.not_true, Bool.not_false, ZN, YS, YR, YQ, YN, Vv, YO, VA]
  (try change wpSs _ _ _ _ _)
  refine s_cut (VB _ _) (fun m' H' => Ex3 fun Ch t6 t7 => And6 (H <+: H') (H'[H1.length]? = some (zl Ch)) (Num Ch) (Ch.Nodup) (Ch.length ≤ s) (m' = [some (.ref k), some (.int c), some (.int s), some (.int st), some (.int bg), some (.ref H1.length), t6, t7])) ?_ ?_
  · (try (with_reducible refine post_letS ?_; intro J))
    (try simp only [↓Ve, ↓Vf, ↓Vs, ↓Vl, ↓YU, ↓Vb, ↓Vu, ↓Ym, ↓Vk, ↓VI, ↓Vh, ↓YD, ↓Vj, ↓Yg, ↓Yy, ↓Ys, ↓Yo, ↓Yp, ↓Ye, Yc, ZA, ZS, Yb, Yr, ZF, Zx, ZD, ZT, ZX, ZO, Yd, YG, ZZ, YT, Yn, ZJ, YL, YK, Vc, Yw, ZU, ZR, YC, ZQ, ZV, ZH, YV, Vq, Vd, Vt, Vi, Vr, Va, Vo, Vg, YY, YJ, Yi, Zm, Zh, Zc, Zb, ZC, Zu, ZB, ZL, ZI, ZM, ZG, ZE, YF, Zz, Zy, Zw, Zt, Zr, Zo, Zv, Zn, Zi, Zp, Zl, Zd, Zk, Ze, Zj, Zf, Zg, Za, Yq, YB, Yv, ZW, Yx, YX, YZ, Vm, YW, Yj, YH, Vp, Vn, Zq, Zs, YM, YE, Yk, Yz, Yl, Yu, YA, Yt, Yh, YI, ZP, ZY, List.cons_append, List.nil_append, Bool.not_true, Bool.not_false, ZN, YS, YR, YQ, YN, Vv, YO, VA])
    refine each_range (VB _ _) (by decide) (by lia) (fun q m' H' => Ex3 fun Ch t6 t7 => And6 (H <+: H') (H'[H1.length]? = some (zl Ch)) (Num Ch) (Ch.Nodup) (Ch.length ≤ q) (m' = [some (.ref k), some (.int c), some (.int s), some (.int st), some (.int bg), some (.ref H1.length), t6, t7])) ?_ ?_ ?_
    · exact ⟨[], none, none, pre_app p1, VP (vs := []), num_nil, List.nodup_nil, by simp, rfl⟩
    · rintro q m' H' hq ⟨Ch, t6, t7, hp, hc, hn, hd, hl, rfl⟩
      (try (with_reducible (first | refine Vy ?_ | refine Vw ?_); intro J))
      generalize hqq : (0 : Int) + (q : Int) = qq
      have hk' := Vz hp hk
      (try change wpSs _ _ _ _ _)
      refine s_cut (VB _ _) (fun m' H'' => H'' = H' ∧ ∃ a, And3 (1 ≤ a) (a ≤ 250) (m' = [some (.ref k), some (.int c), some (.int s), some (.int st), some (.int bg), some (.ref H1.length), some (.int qq), some (.int a)])) ?_ ?_
      · (try (with_reducible refine post_letS ?_; intro J))
        (try simp only [↓Ve, ↓Vf, ↓Vs, ↓Vl, ↓YU, ↓Vb, ↓Vu, ↓Ym, ↓Vk, ↓VI, ↓Vh, ↓YD, ↓Vj, ↓Yg, ↓Yy, ↓Ys, ↓Yo, ↓Yp, ↓Ye, Yc, ZA, ZS, Yb, Yr, ZF, Zx, ZD, ZT, ZX, ZO, Yd, YG, ZZ, YT, Yn, ZJ, YL, YK, Vc, Yw, ZU, ZR, YC, ZQ, ZV, ZH, YV, Vq, Vd, Vt, Vi, Vr, Va, Vo, Vg, YY, YJ, Yi, Zm, Zh, Zc, Zb, ZC, Zu, ZB, ZL, ZI, ZM, ZG, ZE, YF, Zz, Zy, Zw, Zt, Zr, Zo, Zv, Zn, Zi, Zp, Zl, Zd, Zk, Ze, Zj, Zf, Zg, Za, Yq, YB, Yv, ZW, Yx, YX, YZ, Vm, YW, Yj, YH, Vp, Vn, Zq, Zs, YM, YE, Yk, Yz, Yl, Yu, YA, Yt, Yh, YI, ZP, ZY, List.cons_append, List.nil_append, Bool.not_true, Bool.not_false, ZN, YS, YR, YQ, YN, Vv, YO, VA])
        exact ⟨.inl ⟨by lia, by lia⟩, by decide, (by trivial), _, by lia, by lia, rfl⟩
      rintro m2 H2 ⟨rfl, a, ha0, ha1, rfl⟩
      (try (with_reducible (first | refine Vy ?_ | refine Vw ?_); intro J))
      (try change wpSs _ _ _ _ _)
      refine s_cut (VB _ _) (fun m' H'' => H2 <+: H'' ∧ ∃ a, And3 (1 ≤ a) (a ≤ 250) (m' = [some (.ref k), some (.int c), some (.int s), some (.int st), some (.int bg), some (.ref H1.length), some (.int qq), some (.int a)])) ?_ ?_
      · (try (with_reducible refine post_letS ?_; intro J))
        (try simp only [↓Ve, ↓Vf, ↓Vs, ↓Vl, ↓YU, ↓Vb, ↓Vu, ↓Ym, ↓Vk, ↓VI, ↓Vh, ↓YD, ↓Vj, ↓Yg, ↓Yy, ↓Ys, ↓Yo, ↓Yp, ↓Ye, Yc, ZA, ZS, Yb, Yr, ZF, Zx, ZD, ZT, ZX, ZO, Yd, YG, ZZ, YT, Yn, ZJ, YL, YK, Vc, Yw, ZU, ZR, YC, ZQ, ZV, ZH, YV, Vq, Vd, Vt, Vi, Vr, Va, Vo, Vg, YY, YJ, Yi, Zm, Zh, Zc, Zb, ZC, Zu, ZB, ZL, ZI, ZM, ZG, ZE, YF, Zz, Zy, Zw, Zt, Zr, Zo, Zv, Zn, Zi, Zp, Zl, Zd, Zk, Ze, Zj, Zf, Zg, Za, Yq, YB, Yv, ZW, Yx, YX, YZ, Vm, YW, Yj, YH, Vp, Vn, Zq, Zs, YM, YE, Yk, Yz, Yl, Yu, YA, Yt, Yh, YI, ZP, ZY, List.cons_append, List.nil_append, Bool.not_true, Bool.not_false, ZN, YS, YR, YQ, YN, Vv, YO, VA])
        refine ⟨by decide, by decide, by decide, ?_⟩
        split
        rotate_left
        · exact ⟨List.prefix_refl _, a, ha0, ha1, rfl⟩
        refine ⟨by decide, ?_⟩
        split
        rotate_left
        · exact ⟨List.prefix_refl _, a, ha0, ha1, rfl⟩
        rw [show ([[]] : Hp) = [zl []] from rfl, b_ne_list (get_old hk') (VP (vs := zl []))]
        (try simp only [↓Ve, ↓Vf, ↓Vs, ↓Vl, ↓YU, ↓Vb, ↓Vu, ↓Ym, ↓Vk, ↓VI, ↓Vh, ↓YD, ↓Vj, ↓Yg, ↓Yy, ↓Ys, ↓Yo, ↓Yp, ↓Ye, Yc, ZA, ZS, Yb, Yr, ZF, Zx, ZD, ZT, ZX, ZO, Yd, YG, ZZ, YT, Yn, ZJ, YL, YK, Vc, Yw, ZU, ZR, YC, ZQ, ZV, ZH, YV, Vq, Vd, Vt, Vi, Vr, Va, Vo, Vg, YY, YJ, Yi, Zm, Zh, Zc, Zb, ZC, Zu, ZB, ZL, ZI, ZM, ZG, ZE, YF, Zz, Zy, Zw, Zt, Zr, Zo, Zv, Zn, Zi, Zp, Zl, Zd, Zk, Ze, Zj, Zf, Zg, Za, Yq, YB, Yv, ZW, Yx, YX, YZ, Vm, YW, Yj, YH, Vp, Vn, Zq, Zs, YM, YE, Yk, Yz, Yl, Yu, YA, Yt, Yh, YI, ZP, ZY, List.cons_append, List.nil_append, Bool.not_true, Bool.not_false, ZN, YS, YR, YQ, YN, Vv, YO, VA])
        split
        · exact ⟨List.prefix_append _ _, a, ha0, ha1, rfl⟩
        rename_i c1
        have lA1 := List.length_pos_iff.mpr c1
        (with_reducible first | refine Vx ?_ | (refine VC ?_; intro J)); simp only [↓Ve, ↓Vf, ↓Vs, ↓Vl, ↓YU, ↓Vb, ↓Vu, ↓Ym, ↓Vk, ↓VI, ↓Vh, ↓YD, ↓Vj, ↓Yg, ↓Yy, ↓Ys, ↓Yo, ↓Yp, ↓Ye, Yc, ZA, ZS, Yb, Yr, ZF, Zx, ZD, ZT, ZX, ZO, Yd, YG, ZZ, YT, Yn, ZJ, YL, YK, Vc, Yw, ZU, ZR, YC, ZQ, ZV, ZH, YV, Vq, Vd, Vt, Vi, Vr, Va, Vo, Vg, YY, YJ, Yi, Zm, Zh, Zc, Zb, ZC, Zu, ZB, ZL, ZI, ZM, ZG, ZE, YF, Zz, Zy, Zw, Zt, Zr, Zo, Zv, Zn, Zi, Zp, Zl, Zd, Zk, Ze, Zj, Zf, Zg, Za, Yq, YB, Yv, ZW, Yx, YX, YZ, Vm, YW, Yj, YH, Vp, Vn, Zq, Zs, YM, YE, Yk, Yz, Yl, Yu, YA, Yt, Yh, YI, ZP, ZY, List.cons_append, List.nil_append, Bool.not_true, Bool.not_false, ZN, YS, YR, YQ, YN, Vv, YO, VA]
        refine withL_of (get_old hk') ?_
        rw [VR]
        refine ⟨by lia, withL_of (get_old hk') ?_⟩
        refine item_mem (Int.emod_nonneg _ (by lia)) (Int.emod_lt_of_pos _ (by lia)) fun b hb => ?_
        have := nA b hb
        exact ⟨List.prefix_append _ _, b, by lia, by lia, rfl⟩
      rintro m3 H3 ⟨p3, d, hd0, hd1, rfl⟩
      (try (with_reducible (first | refine Vy ?_ | refine Vw ?_); intro J))
      have hc3 := Vz p3 hc
      have hp3 := hp.trans p3
      (with_reducible first | refine Vx ?_ | (refine VC ?_; intro J)); simp only [↓Ve, ↓Vf, ↓Vs, ↓Vl, ↓YU, ↓Vb, ↓Vu, ↓Ym, ↓Vk, ↓VI, ↓Vh, ↓YD, ↓Vj, ↓Yg, ↓Yy, ↓Ys, ↓Yo, ↓Yp, ↓Ye, Yc, ZA, ZS, Yb, Yr, ZF, Zx, ZD, ZT, ZX, ZO, Yd, YG, ZZ, YT, Yn, ZJ, YL, YK, Vc, Yw, ZU, ZR, YC, ZQ, ZV, ZH, YV, Vq, Vd, Vt, Vi, Vr, Va, Vo, Vg, YY, YJ, Yi, Zm, Zh, Zc, Zb, ZC, Zu, ZB, ZL, ZI, ZM, ZG, ZE, YF, Zz, Zy, Zw, Zt, Zr, Zo, Zv, Zn, Zi, Zp, Zl, Zd, Zk, Ze, Zj, Zf, Zg, Za, Yq, YB, Yv, ZW, Yx, YX, YZ, Vm, YW, Yj, YH, Vp, Vn, Zq, Zs, YM, YE, Yk, Yz, Yl, Yu, YA, Yt, Yh, YI, ZP, ZY, List.cons_append, List.nil_append, Bool.not_true, Bool.not_false, ZN, YS, YR, YQ, YN, Vv, YO, VA, b_notin hc3]
      split
      · rename_i hin
        exact ⟨Ch, _, _, hp3, hc3, hn, hd, by lia, rfl⟩
      · rename_i hin
        (with_reducible first | refine Vx ?_ | (refine VC ?_; intro J)); simp only [↓Ve, ↓Vf, ↓Vs, ↓Vl, ↓YU, ↓Vb, ↓Vu, ↓Ym, ↓Vk, ↓VI, ↓Vh, ↓YD, ↓Vj, ↓Yg, ↓Yy, ↓Ys, ↓Yo, ↓Yp, ↓Ye, Yc, ZA, ZS, Yb, Yr, ZF, Zx, ZD, ZT, ZX, ZO, Yd, YG, ZZ, YT, Yn, ZJ, YL, YK, Vc, Yw, ZU, ZR, YC, ZQ, ZV, ZH, YV, Vq, Vd, Vt, Vi, Vr, Va, Vo, Vg, YY, YJ, Yi, Zm, Zh, Zc, Zb, ZC, Zu, ZB, ZL, ZI, ZM, ZG, ZE, YF, Zz, Zy, Zw, Zt, Zr, Zo, Zv, Zn, Zi, Zp, Zl, Zd, Zk, Ze, Zj, Zf, Zg, Za, Yq, YB, Yv, ZW, Yx, YX, YZ, Vm, YW, Yj, YH, Vp, Vn, Zq, Zs, YM, YE, Yk, Yz, Yl, Yu, YA, Yt, Yh, YI, ZP, ZY, List.cons_append, List.nil_append, Bool.not_true, Bool.not_false, ZN, YS, YR, YQ, YN, Vv, YO, VA, VH hc3]
        refine ⟨by rw [VR]; unfold room; lia, Ch ++ [d], _, _, pre_set hp3 ?_, ?_, ?_, ?_, by simp; lia, rfl⟩
        · have := p1.length_le; lia
        · rw [set_get hc3, zl_append]
        · intro x hx
          rcases List.mem_append.mp hx with y | y
          · exact hn x y
          · simp only [List.mem_singleton] at y; subst y; exact ⟨hd0, hd1⟩
        · rw [List.nodup_append]
          refine ⟨hd, by simp, fun x hx y hy e => ?_⟩
          simp only [List.mem_singleton] at hy
          subst hy; subst e; exact hin hx
    · rintro m' H' ⟨Ch, t6, t7, hp, hc, hn, hd, hl, rfl⟩
      (try (with_reducible (first | refine Vy ?_ | refine Vw ?_); intro J))
      exact ⟨Ch, t6, t7, hp, hc, hn, hd, by lia, rfl⟩
  rintro m' H' ⟨Ch, t6, t7, hp, hc, hn, hd, hl, rfl⟩
  (try (with_reducible (first | refine Vy ?_ | refine Vw ?_); intro J))
  have hk' := Vz hp hk
  (with_reducible first | refine Vx ?_ | (refine VC ?_; intro J)); simp only [↓Ve, ↓Vf, ↓Vs, ↓Vl, ↓YU, ↓Vb, ↓Vu, ↓Ym, ↓Vk, ↓VI, ↓Vh, ↓YD, ↓Vj, ↓Yg, ↓Yy, ↓Ys, ↓Yo, ↓Yp, ↓Ye, Yc, ZA, ZS, Yb, Yr, ZF, Zx, ZD, ZT, ZX, ZO, Yd, YG, ZZ, YT, Yn, ZJ, YL, YK, Vc, Yw, ZU, ZR, YC, ZQ, ZV, ZH, YV, Vq, Vd, Vt, Vi, Vr, Va, Vo, Vg, YY, YJ, Yi, Zm, Zh, Zc, Zb, ZC, Zu, ZB, ZL, ZI, ZM, ZG, ZE, YF, Zz, Zy, Zw, Zt, Zr, Zo, Zv, Zn, Zi, Zp, Zl, Zd, Zk, Ze, Zj, Zf, Zg, Za, Yq, YB, Yv, ZW, Yx, YX, YZ, Vm, YW, Yj, YH, Vp, Vn, Zq, Zs, YM, YE, Yk, Yz, Yl, Yu, YA, Yt, Yh, YI, ZP, ZY, List.cons_append, List.nil_append, Bool.not_true, Bool.not_false, ZN, YS, YR, YQ, YN, Vv, YO, VA]
  refine comp_lpick (VB _ _) hk' rfl (fun a => !decide (a ∈ Ch)) (fun a ha R hR => ?_) ?_
  · (try simp only [↓Ve, ↓Vf, ↓Vs, ↓Vl, ↓YU, ↓Vb, ↓Vu, ↓Ym, ↓Vk, ↓VI, ↓Vh, ↓YD, ↓Vj, ↓Yg, ↓Yy, ↓Ys, ↓Yo, ↓Yp, ↓Ye, Yc, ZA, ZS, Yb, Yr, ZF, Zx, ZD, ZT, ZX, ZO, Yd, YG, ZZ, YT, Yn, ZJ, YL, YK, Vc, Yw, ZU, ZR, YC, ZQ, ZV, ZH, YV, Vq, Vd, Vt, Vi, Vr, Va, Vo, Vg, YY, YJ, Yi, Zm, Zh, Zc, Zb, ZC, Zu, ZB, ZL, ZI, ZM, ZG, ZE, YF, Zz, Zy, Zw, Zt, Zr, Zo, Zv, Zn, Zi, Zp, Zl, Zd, Zk, Ze, Zj, Zf, Zg, Za, Yq, YB, Yv, ZW, Yx, YX, YZ, Vm, YW, Yj, YH, Vp, Vn, Zq, Zs, YM, YE, Yk, Yz, Yl, Yu, YA, Yt, Yh, YI, ZP, ZY, List.cons_append, List.nil_append, Bool.not_true, Bool.not_false, ZN, YS, YR, YQ, YN, Vv, YO, VA, b_notin hc])
    exact hR
  refine comp_lpick (VB _ _) (get_old hc) rfl (fun a => !decide (a ∈ A)) (fun a ha R hR => ?_) ?_
  · (try simp only [↓Ve, ↓Vf, ↓Vs, ↓Vl, ↓YU, ↓Vb, ↓Vu, ↓Ym, ↓Vk, ↓VI, ↓Vh, ↓YD, ↓Vj, ↓Yg, ↓Yy, ↓Ys, ↓Yo, ↓Yp, ↓Ye, Yc, ZA, ZS, Yb, Yr, ZF, Zx, ZD, ZT, ZX, ZO, Yd, YG, ZZ, YT, Yn, ZJ, YL, YK, Vc, Yw, ZU, ZR, YC, ZQ, ZV, ZH, YV, Vq, Vd, Vt, Vi, Vr, Va, Vo, Vg, YY, YJ, Yi, Zm, Zh, Zc, Zb, ZC, Zu, ZB, ZL, ZI, ZM, ZG, ZE, YF, Zz, Zy, Zw, Zt, Zr, Zo, Zv, Zn, Zi, Zp, Zl, Zd, Zk, Ze, Zj, Zf, Zg, Za, Yq, YB, Yv, ZW, Yx, YX, YZ, Vm, YW, Yj, YH, Vp, Vn, Zq, Zs, YM, YE, Yk, Yz, Yl, Yu, YA, Yt, Yh, YI, ZP, ZY, List.cons_append, List.nil_append, Bool.not_true, Bool.not_false, ZN, YS, YR, YQ, YN, Vv, YO, VA, b_notin (get_old (G := [zl (A.filter fun a => !decide (a ∈ Ch))]) hk')])
    exact hR
  rw [b_cat (get_old VP) VP, zl_cat]
  have l1 := List.length_filter_le (fun a => !decide (a ∈ Ch)) A
  have l2 := List.length_filter_le (fun a => !decide (a ∈ A)) Ch
  refine ⟨by rw [VR, VR]; unfold room; lia, ?_⟩
  (try simp only [↓Ve, ↓Vf, ↓Vs, ↓Vl, ↓YU, ↓Vb, ↓Vu, ↓Ym, ↓Vk, ↓VI, ↓Vh, ↓YD, ↓Vj, ↓Yg, ↓Yy, ↓Ys, ↓Yo, ↓Yp, ↓Ye, Yc, ZA, ZS, Yb, Yr, ZF, Zx, ZD, ZT, ZX, ZO, Yd, YG, ZZ, YT, Yn, ZJ, YL, YK, Vc, Yw, ZU, ZR, YC, ZQ, ZV, ZH, YV, Vq, Vd, Vt, Vi, Vr, Va, Vo, Vg, YY, YJ, Yi, Zm, Zh, Zc, Zb, ZC, Zu, ZB, ZL, ZI, ZM, ZG, ZE, YF, Zz, Zy, Zw, Zt, Zr, Zo, Zv, Zn, Zi, Zp, Zl, Zd, Zk, Ze, Zj, Zf, Zg, Za, Yq, YB, Yv, ZW, Yx, YX, YZ, Vm, YW, Yj, YH, Vp, Vn, Zq, Zs, YM, YE, Yk, Yz, Yl, Yu, YA, Yt, Yh, YI, ZP, ZY, List.cons_append, List.nil_append, Bool.not_true, Bool.not_false, ZN, YS, YR, YQ, YN, Vv, YO, VA])
  refine h _ Ch _ (pre_app (pre_app (pre_app hp))) ?_ VP hn hd hl
  have := hp.length_le
  simp only [List.length_append]; lia
end Mine

--STEP: ZN, YS, YR, YQ, YN, Vv, YO, VA
open PySem
set_option linter.unusedSimpArgs false
set_option linter.unusedVariables false
namespace Mine

/-! ## finds by hand -/
theorem fits_of {A S L O : List Int} {c : Int} (dA : A.Nodup) (dO : O.Nodup) (h1 : ∀ a ∈ L, a ∉ A) (h2 : ∀ a ∈ O, a ∈ A) (h3 : L.length + O.length ≤ S.length) (h4 : (L.length : Int) - O.length = c - A.length) (rS : Red S)
    (hg : ∀ t, t < S.length → (co S t - pws A (t + 1)) % 251 = (pws L (t + 1) - pws O (t + 1)) % 251) : Fits A c S L O := by
  have hp := over_perm dA dO h2
  refine ⟨h1, h2, h3, ?_, list_co (sumsL_len _ _) fun t ht => ?_⟩
  · have := hp.length_eq
    rw [List.length_append] at this
    rw [behind, List.length_append]
    lia
  · rw [sumsL_len] at ht
    rw [sumsL_co _ ht, behind, pws_append]
    have e := pws_perm hp (t + 1)
    rw [pws_append] at e
    have := hg t ht
    have := co_red rS t
    lia
theorem pws_one (a : Int) (t : Nat) : pws [a] t = a ^ t := by simp [pws]

theorem spec_gap (n k : Nat) (A S : List Int) (c : Int) (H : Hp) (P : PV) (hk : H[k]? = some (zl A)) (nA : Num A) (lS : S.length ≤ 12) (h : ∀ k' H', H <+: H' → H'[k']? = some (zl (gapsL A S)) → P (.ref k') H') : run T (n + 2) 57 [.ref k, .tup [.int c, .tup (zl S)]] H P := by
  refine run_succ (d := f_law_gap) rfl rfl (by decide) ?_
  simp only [f_law_gap, entry, List.map, List.replicate, Nat.reduceSub, List.cons_append, List.nil_append]
  (with_reducible first | refine Vx ?_ | (refine VC ?_; intro J)); simp only [↓Ve, ↓Vf, ↓Vs, ↓Vl, ↓YU, ↓Vb, ↓Vu, ↓Ym, ↓Vk, ↓VI, ↓Vh, ↓YD, ↓Vj, ↓Yg, ↓Yy, ↓Ys, ↓Yo, ↓Yp, ↓Ye, Yc, ZA, ZS, Yb, Yr, ZF, Zx, ZD, ZT, ZX, ZO, Yd, YG, ZZ, YT, Yn, ZJ, YL, YK, Vc, Yw, ZU, ZR, YC, ZQ, ZV, ZH, YV, Vq, Vd, Vt, Vi, Vr, Va, Vo, Vg, YY, YJ, Yi, Zm, Zh, Zc, Zb, ZC, Zu, ZB, ZL, ZI, ZM, ZG, ZE, YF, Zz, Zy, Zw, Zt, Zr, Zo, Zv, Zn, Zi, Zp, Zl, Zd, Zk, Ze, Zj, Zf, Zg, Za, Yq, YB, Yv, ZW, Yx, YX, YZ, Vm, YW, Yj, YH, Vp, Vn, Zq, Zs, YM, YE, Yk, Yz, Yl, Yu, YA, Yt, Yh, YI, ZP, ZY, List.cons_append, List.nil_append, Bool.not_true, Bool.not_false, ZN, YS, YR, YQ, YN, Vv, YO, VA]
  refine Wa (by decide) rfl ?_
  (try simp only [↓Ve, ↓Vf, ↓Vs, ↓Vl, ↓YU, ↓Vb, ↓Vu, ↓Ym, ↓Vk, ↓VI, ↓Vh, ↓YD, ↓Vj, ↓Yg, ↓Yy, ↓Ys, ↓Yo, ↓Yp, ↓Ye, Yc, ZA, ZS, Yb, Yr, ZF, Zx, ZD, ZT, ZX, ZO, Yd, YG, ZZ, YT, Yn, ZJ, YL, YK, Vc, Yw, ZU, ZR, YC, ZQ, ZV, ZH, YV, Vq, Vd, Vt, Vi, Vr, Va, Vo, Vg, YY, YJ, Yi, Zm, Zh, Zc, Zb, ZC, Zu, ZB, ZL, ZI, ZM, ZG, ZE, YF, Zz, Zy, Zw, Zt, Zr, Zo, Zv, Zn, Zi, Zp, Zl, Zd, Zk, Ze, Zj, Zf, Zg, Za, Yq, YB, Yv, ZW, Yx, YX, YZ, Vm, YW, Yj, YH, Vp, Vn, Zq, Zs, YM, YE, Yk, Yz, Yl, Yu, YA, Yt, Yh, YI, ZP, ZY, List.cons_append, List.nil_append, Bool.not_true, Bool.not_false, ZN, YS, YR, YQ, YN, Vv, YO, VA, VR])
  refine spec_law_sums _ _ A S.length _ _ hk nA (by lia) fun k2 H2 p2 l2 s2 => ?_
  (try simp only [↓Ve, ↓Vf, ↓Vs, ↓Vl, ↓YU, ↓Vb, ↓Vu, ↓Ym, ↓Vk, ↓VI, ↓Vh, ↓YD, ↓Vj, ↓Yg, ↓Yy, ↓Ys, ↓Yo, ↓Yp, ↓Ye, Yc, ZA, ZS, Yb, Yr, ZF, Zx, ZD, ZT, ZX, ZO, Yd, YG, ZZ, YT, Yn, ZJ, YL, YK, Vc, Yw, ZU, ZR, YC, ZQ, ZV, ZH, YV, Vq, Vd, Vt, Vi, Vr, Va, Vo, Vg, YY, YJ, Yi, Zm, Zh, Zc, Zb, ZC, Zu, ZB, ZL, ZI, ZM, ZG, ZE, YF, Zz, Zy, Zw, Zt, Zr, Zo, Zv, Zn, Zi, Zp, Zl, Zd, Zk, Ze, Zj, Zf, Zg, Za, Yq, YB, Yv, ZW, Yx, YX, YZ, Vm, YW, Yj, YH, Vp, Vn, Zq, Zs, YM, YE, Yk, Yz, Yl, Yu, YA, Yt, Yh, YI, ZP, ZY, List.cons_append, List.nil_append, Bool.not_true, Bool.not_false, ZN, YS, YR, YQ, YN, Vv, YO, VA])
  (with_reducible first | refine Vx ?_ | (refine VC ?_; intro J)); simp only [↓Ve, ↓Vf, ↓Vs, ↓Vl, ↓YU, ↓Vb, ↓Vu, ↓Ym, ↓Vk, ↓VI, ↓Vh, ↓YD, ↓Vj, ↓Yg, ↓Yy, ↓Ys, ↓Yo, ↓Yp, ↓Ye, Yc, ZA, ZS, Yb, Yr, ZF, Zx, ZD, ZT, ZX, ZO, Yd, YG, ZZ, YT, Yn, ZJ, YL, YK, Vc, Yw, ZU, ZR, YC, ZQ, ZV, ZH, YV, Vq, Vd, Vt, Vi, Vr, Va, Vo, Vg, YY, YJ, Yi, Zm, Zh, Zc, Zb, ZC, Zu, ZB, ZL, ZI, ZM, ZG, ZE, YF, Zz, Zy, Zw, Zt, Zr, Zo, Zv, Zn, Zi, Zp, Zl, Zd, Zk, Ze, Zj, Zf, Zg, Za, Yq, YB, Yv, ZW, Yx, YX, YZ, Vm, YW, Yj, YH, Vp, Vn, Zq, Zs, YM, YE, Yk, Yz, Yl, Yu, YA, Yt, Yh, YI, ZP, ZY, List.cons_append, List.nil_append, Bool.not_true, Bool.not_false, ZN, YS, YR, YQ, YN, Vv, YO, VA, VH s2, VR, sumsL_len]
  refine comp_rmap (VB _ _) (by decide) (by lia) (fun t => (co S t - pws A (t + 1)) % 251) (fun j hj H' hp R hR => ?_) fun H' hp => ?_
  · (try simp only [↓Ve, ↓Vf, ↓Vs, ↓Vl, ↓YU, ↓Vb, ↓Vu, ↓Ym, ↓Vk, ↓VI, ↓Vh, ↓YD, ↓Vj, ↓Yg, ↓Yy, ↓Ys, ↓Yo, ↓Yp, ↓Ye, Yc, ZA, ZS, Yb, Yr, ZF, Zx, ZD, ZT, ZX, ZO, Yd, YG, ZZ, YT, Yn, ZJ, YL, YK, Vc, Yw, ZU, ZR, YC, ZQ, ZV, ZH, YV, Vq, Vd, Vt, Vi, Vr, Va, Vo, Vg, YY, YJ, Yi, Zm, Zh, Zc, Zb, ZC, Zu, ZB, ZL, ZI, ZM, ZG, ZE, YF, Zz, Zy, Zw, Zt, Zr, Zo, Zv, Zn, Zi, Zp, Zl, Zd, Zk, Ze, Zj, Zf, Zg, Za, Yq, YB, Yv, ZW, Yx, YX, YZ, Vm, YW, Yj, YH, Vp, Vn, Zq, Zs, YM, YE, Yk, Yz, Yl, Yu, YA, Yt, Yh, YI, ZP, ZY, List.cons_append, List.nil_append, Bool.not_true, Bool.not_false, ZN, YS, YR, YQ, YN, Vv, YO, VA])
    refine Wa (by decide) rfl ?_
    (try simp only [↓Ve, ↓Vf, ↓Vs, ↓Vl, ↓YU, ↓Vb, ↓Vu, ↓Ym, ↓Vk, ↓VI, ↓Vh, ↓YD, ↓Vj, ↓Yg, ↓Yy, ↓Ys, ↓Yo, ↓Yp, ↓Ye, Yc, ZA, ZS, Yb, Yr, ZF, Zx, ZD, ZT, ZX, ZO, Yd, YG, ZZ, YT, Yn, ZJ, YL, YK, Vc, Yw, ZU, ZR, YC, ZQ, ZV, ZH, YV, Vq, Vd, Vt, Vi, Vr, Va, Vo, Vg, YY, YJ, Yi, Zm, Zh, Zc, Zb, ZC, Zu, ZB, ZL, ZI, ZM, ZG, ZE, YF, Zz, Zy, Zw, Zt, Zr, Zo, Zv, Zn, Zi, Zp, Zl, Zd, Zk, Ze, Zj, Zf, Zg, Za, Yq, YB, Yv, ZW, Yx, YX, YZ, Vm, YW, Yj, YH, Vp, Vn, Zq, Zs, YM, YE, Yk, Yz, Yl, Yu, YA, Yt, Yh, YI, ZP, ZY, List.cons_append, List.nil_append, Bool.not_true, Bool.not_false, ZN, YS, YR, YQ, YN, Vv, YO, VA])
    refine item_zl (by lia) (by lia) ?_
    refine withL_of (Vz hp s2) (item_zl (by lia) (by rw [sumsL_len]; lia) ?_)
    (try simp only [↓Ve, ↓Vf, ↓Vs, ↓Vl, ↓YU, ↓Vb, ↓Vu, ↓Ym, ↓Vk, ↓VI, ↓Vh, ↓YD, ↓Vj, ↓Yg, ↓Yy, ↓Ys, ↓Yo, ↓Yp, ↓Ye, Yc, ZA, ZS, Yb, Yr, ZF, Zx, ZD, ZT, ZX, ZO, Yd, YG, ZZ, YT, Yn, ZJ, YL, YK, Vc, Yw, ZU, ZR, YC, ZQ, ZV, ZH, YV, Vq, Vd, Vt, Vi, Vr, Va, Vo, Vg, YY, YJ, Yi, Zm, Zh, Zc, Zb, ZC, Zu, ZB, ZL, ZI, ZM, ZG, ZE, YF, Zz, Zy, Zw, Zt, Zr, Zo, Zv, Zn, Zi, Zp, Zl, Zd, Zk, Ze, Zj, Zf, Zg, Za, Yq, YB, Yv, ZW, Yx, YX, YZ, Vm, YW, Yj, YH, Vp, Vn, Zq, Zs, YM, YE, Yk, Yz, Yl, Yu, YA, Yt, Yh, YI, ZP, ZY, List.cons_append, List.nil_append, Bool.not_true, Bool.not_false, ZN, YS, YR, YQ, YN, Vv, YO, VA])
    refine ⟨by decide, ?_⟩
    rw [show ((0 : Int) + (j : Int)).toNat = j by lia, sumsL_co _ (by lia), show (co S j - pws A (j + 1) % 251) % 251 = (co S j - pws A (j + 1)) % 251 by lia]
    exact hR _ (List.prefix_refl _)
  · rw [show ((S.length : Int) - 0).toNat = S.length by lia]
    exact h _ _ (pre_app (p2.trans hp)) VP

theorem nil_find {A S : List Int} {c : Int} (dA : A.Nodup) (hc : c = A.length) (rS : Red S) (hg : ∀ t, t < S.length → co (gapsL A S) t = 0) : Find A c S [] [] :=
  ⟨⟨List.Pairwise.nil, num_nil⟩, ⟨List.Pairwise.nil, num_nil⟩, fits_of dA List.nodup_nil (fun a ha => by cases ha) (fun a ha => by cases ha) (by simp) (by simp; lia) rS fun t ht => by rw [← gapsL_co A S ht, hg t ht]; rfl⟩
theorem one_num {a : Int} (h : 1 ≤ a ∧ a ≤ 250) : [a].Pairwise (· < ·) ∧ Num [a] := ⟨List.pairwise_singleton _ _, fun b hb => by simp only [List.mem_singleton] at hb; lia⟩

theorem spec_one_does (n k : Nat) (A S : List Int) (c : Int) (H : Hp) (P : PV) (hk : H[k]? = some (zl A)) (nA : Num A) (dA : A.Nodup) (rS : Red S) (lS : S.length = 1) (hN : ∀ L O, ¬ Find A c S L O) (h : ∀ H', H <+: H' → P (.bool false) H') : run T (n + 3) 58 [.ref k, .tup [.int c, .tup (zl S)]] H P := by
  refine run_succ (d := f_law_one_does) rfl rfl (by decide) ?_
  simp only [f_law_one_does, entry, List.map, List.replicate, Nat.reduceSub, List.cons_append, List.nil_append]
  (with_reducible first | refine Vx ?_ | (refine VC ?_; intro J)); simp only [↓Ve, ↓Vf, ↓Vs, ↓Vl, ↓YU, ↓Vb, ↓Vu, ↓Ym, ↓Vk, ↓VI, ↓Vh, ↓YD, ↓Vj, ↓Yg, ↓Yy, ↓Ys, ↓Yo, ↓Yp, ↓Ye, Yc, ZA, ZS, Yb, Yr, ZF, Zx, ZD, ZT, ZX, ZO, Yd, YG, ZZ, YT, Yn, ZJ, YL, YK, Vc, Yw, ZU, ZR, YC, ZQ, ZV, ZH, YV, Vq, Vd, Vt, Vi, Vr, Va, Vo, Vg, YY, YJ, Yi, Zm, Zh, Zc, Zb, ZC, Zu, ZB, ZL, ZI, ZM, ZG, ZE, YF, Zz, Zy, Zw, Zt, Zr, Zo, Zv, Zn, Zi, Zp, Zl, Zd, Zk, Ze, Zj, Zf, Zg, Za, Yq, YB, Yv, ZW, Yx, YX, YZ, Vm, YW, Yj, YH, Vp, Vn, Zq, Zs, YM, YE, Yk, Yz, Yl, Yu, YA, Yt, Yh, YI, ZP, ZY, List.cons_append, List.nil_append, Bool.not_true, Bool.not_false, ZN, YS, YR, YQ, YN, Vv, YO, VA]
  refine spec_gap _ _ A S c _ _ hk nA (by lia) fun k1 H1 p1 g1 => ?_
  have hk1 := Vz p1 hk
  (try simp only [↓Ve, ↓Vf, ↓Vs, ↓Vl, ↓YU, ↓Vb, ↓Vu, ↓Ym, ↓Vk, ↓VI, ↓Vh, ↓YD, ↓Vj, ↓Yg, ↓Yy, ↓Ys, ↓Yo, ↓Yp, ↓Ye, Yc, ZA, ZS, Yb, Yr, ZF, Zx, ZD, ZT, ZX, ZO, Yd, YG, ZZ, YT, Yn, ZJ, YL, YK, Vc, Yw, ZU, ZR, YC, ZQ, ZV, ZH, YV, Vq, Vd, Vt, Vi, Vr, Va, Vo, Vg, YY, YJ, Yi, Zm, Zh, Zc, Zb, ZC, Zu, ZB, ZL, ZI, ZM, ZG, ZE, YF, Zz, Zy, Zw, Zt, Zr, Zo, Zv, Zn, Zi, Zp, Zl, Zd, Zk, Ze, Zj, Zf, Zg, Za, Yq, YB, Yv, ZW, Yx, YX, YZ, Vm, YW, Yj, YH, Vp, Vn, Zq, Zs, YM, YE, Yk, Yz, Yl, Yu, YA, Yt, Yh, YI, ZP, ZY, List.cons_append, List.nil_append, Bool.not_true, Bool.not_false, ZN, YS, YR, YQ, YN, Vv, YO, VA, VH g1])
  refine item_zl (by decide) (by rw [gapsL_len]; lia) ?_
  have e0 : co (gapsL A S) (0 : Int).toNat = (co S 0 - pws A (0 + 1)) % 251 := gapsL_co A S (by lia)
  generalize hg : co (gapsL A S) (0 : Int).toNat = g at *
  (try simp only [↓Ve, ↓Vf, ↓Vs, ↓Vl, ↓YU, ↓Vb, ↓Vu, ↓Ym, ↓Vk, ↓VI, ↓Vh, ↓YD, ↓Vj, ↓Yg, ↓Yy, ↓Ys, ↓Yo, ↓Yp, ↓Ye, Yc, ZA, ZS, Yb, Yr, ZF, Zx, ZD, ZT, ZX, ZO, Yd, YG, ZZ, YT, Yn, ZJ, YL, YK, Vc, Yw, ZU, ZR, YC, ZQ, ZV, ZH, YV, Vq, Vd, Vt, Vi, Vr, Va, Vo, Vg, YY, YJ, Yi, Zm, Zh, Zc, Zb, ZC, Zu, ZB, ZL, ZI, ZM, ZG, ZE, YF, Zz, Zy, Zw, Zt, Zr, Zo, Zv, Zn, Zi, Zp, Zl, Zd, Zk, Ze, Zj, Zf, Zg, Za, Yq, YB, Yv, ZW, Yx, YX, YZ, Vm, YW, Yj, YH, Vp, Vn, Zq, Zs, YM, YE, Yk, Yz, Yl, Yu, YA, Yt, Yh, YI, ZP, ZY, List.cons_append, List.nil_append, Bool.not_true, Bool.not_false, ZN, YS, YR, YQ, YN, Vv, YO, VA])
  (with_reducible first | refine Vx ?_ | (refine VC ?_; intro J)); simp only [↓Ve, ↓Vf, ↓Vs, ↓Vl, ↓YU, ↓Vb, ↓Vu, ↓Ym, ↓Vk, ↓VI, ↓Vh, ↓YD, ↓Vj, ↓Yg, ↓Yy, ↓Ys, ↓Yo, ↓Yp, ↓Ye, Yc, ZA, ZS, Yb, Yr, ZF, Zx, ZD, ZT, ZX, ZO, Yd, YG, ZZ, YT, Yn, ZJ, YL, YK, Vc, Yw, ZU, ZR, YC, ZQ, ZV, ZH, YV, Vq, Vd, Vt, Vi, Vr, Va, Vo, Vg, YY, YJ, Yi, Zm, Zh, Zc, Zb, ZC, Zu, ZB, ZL, ZI, ZM, ZG, ZE, YF, Zz, Zy, Zw, Zt, Zr, Zo, Zv, Zn, Zi, Zp, Zl, Zd, Zk, Ze, Zj, Zf, Zg, Za, Yq, YB, Yv, ZW, Yx, YX, YZ, Vm, YW, Yj, YH, Vp, Vn, Zq, Zs, YM, YE, Yk, Yz, Yl, Yu, YA, Yt, Yh, YI, ZP, ZY, List.cons_append, List.nil_append, Bool.not_true, Bool.not_false, ZN, YS, YR, YQ, YN, Vv, YO, VA, VH hk1, VR]
  refine Wa (by decide) rfl ?_
  (try simp only [↓Ve, ↓Vf, ↓Vs, ↓Vl, ↓YU, ↓Vb, ↓Vu, ↓Ym, ↓Vk, ↓VI, ↓Vh, ↓YD, ↓Vj, ↓Yg, ↓Yy, ↓Ys, ↓Yo, ↓Yp, ↓Ye, Yc, ZA, ZS, Yb, Yr, ZF, Zx, ZD, ZT, ZX, ZO, Yd, YG, ZZ, YT, Yn, ZJ, YL, YK, Vc, Yw, ZU, ZR, YC, ZQ, ZV, ZH, YV, Vq, Vd, Vt, Vi, Vr, Va, Vo, Vg, YY, YJ, Yi, Zm, Zh, Zc, Zb, ZC, Zu, ZB, ZL, ZI, ZM, ZG, ZE, YF, Zz, Zy, Zw, Zt, Zr, Zo, Zv, Zn, Zi, Zp, Zl, Zd, Zk, Ze, Zj, Zf, Zg, Za, Yq, YB, Yv, ZW, Yx, YX, YZ, Vm, YW, Yj, YH, Vp, Vn, Zq, Zs, YM, YE, Yk, Yz, Yl, Yu, YA, Yt, Yh, YI, ZP, ZY, List.cons_append, List.nil_append, Bool.not_true, Bool.not_false, ZN, YS, YR, YQ, YN, Vv, YO, VA])
  (with_reducible first | refine Vx ?_ | (refine VC ?_; intro J)); simp only [↓Ve, ↓Vf, ↓Vs, ↓Vl, ↓YU, ↓Vb, ↓Vu, ↓Ym, ↓Vk, ↓VI, ↓Vh, ↓YD, ↓Vj, ↓Yg, ↓Yy, ↓Ys, ↓Yo, ↓Yp, ↓Ye, Yc, ZA, ZS, Yb, Yr, ZF, Zx, ZD, ZT, ZX, ZO, Yd, YG, ZZ, YT, Yn, ZJ, YL, YK, Vc, Yw, ZU, ZR, YC, ZQ, ZV, ZH, YV, Vq, Vd, Vt, Vi, Vr, Va, Vo, Vg, YY, YJ, Yi, Zm, Zh, Zc, Zb, ZC, Zu, ZB, ZL, ZI, ZM, ZG, ZE, YF, Zz, Zy, Zw, Zt, Zr, Zo, Zv, Zn, Zi, Zp, Zl, Zd, Zk, Ze, Zj, Zf, Zg, Za, Yq, YB, Yv, ZW, Yx, YX, YZ, Vm, YW, Yj, YH, Vp, Vn, Zq, Zs, YM, YE, Yk, Yz, Yl, Yu, YA, Yt, Yh, YI, ZP, ZY, List.cons_append, List.nil_append, Bool.not_true, Bool.not_false, ZN, YS, YR, YQ, YN, Vv, YO, VA]
  split
  · rename_i c0
    (with_reducible first | refine Vx ?_ | (refine VC ?_; intro J)); simp only [↓Ve, ↓Vf, ↓Vs, ↓Vl, ↓YU, ↓Vb, ↓Vu, ↓Ym, ↓Vk, ↓VI, ↓Vh, ↓YD, ↓Vj, ↓Yg, ↓Yy, ↓Ys, ↓Yo, ↓Yp, ↓Ye, Yc, ZA, ZS, Yb, Yr, ZF, Zx, ZD, ZT, ZX, ZO, Yd, YG, ZZ, YT, Yn, ZJ, YL, YK, Vc, Yw, ZU, ZR, YC, ZQ, ZV, ZH, YV, Vq, Vd, Vt, Vi, Vr, Va, Vo, Vg, YY, YJ, Yi, Zm, Zh, Zc, Zb, ZC, Zu, ZB, ZL, ZI, ZM, ZG, ZE, YF, Zz, Zy, Zw, Zt, Zr, Zo, Zv, Zn, Zi, Zp, Zl, Zd, Zk, Ze, Zj, Zf, Zg, Za, Yq, YB, Yv, ZW, Yx, YX, YZ, Vm, YW, Yj, YH, Vp, Vn, Zq, Zs, YM, YE, Yk, Yz, Yl, Yu, YA, Yt, Yh, YI, ZP, ZY, List.cons_append, List.nil_append, Bool.not_true, Bool.not_false, ZN, YS, YR, YQ, YN, Vv, YO, VA]
    rw [decide_eq_false fun q => hN [] [] (nil_find dA (by lia) rS fun t ht => by rw [show t = (0 : Int).toNat by show t = 0; lia, hg, q])]
    exact h _ p1
  rename_i c0
  (with_reducible first | refine Vx ?_ | (refine VC ?_; intro J)); simp only [↓Ve, ↓Vf, ↓Vs, ↓Vl, ↓YU, ↓Vb, ↓Vu, ↓Ym, ↓Vk, ↓VI, ↓Vh, ↓YD, ↓Vj, ↓Yg, ↓Yy, ↓Ys, ↓Yo, ↓Yp, ↓Ye, Yc, ZA, ZS, Yb, Yr, ZF, Zx, ZD, ZT, ZX, ZO, Yd, YG, ZZ, YT, Yn, ZJ, YL, YK, Vc, Yw, ZU, ZR, YC, ZQ, ZV, ZH, YV, Vq, Vd, Vt, Vi, Vr, Va, Vo, Vg, YY, YJ, Yi, Zm, Zh, Zc, Zb, ZC, Zu, ZB, ZL, ZI, ZM, ZG, ZE, YF, Zz, Zy, Zw, Zt, Zr, Zo, Zv, Zn, Zi, Zp, Zl, Zd, Zk, Ze, Zj, Zf, Zg, Za, Yq, YB, Yv, ZW, Yx, YX, YZ, Vm, YW, Yj, YH, Vp, Vn, Zq, Zs, YM, YE, Yk, Yz, Yl, Yu, YA, Yt, Yh, YI, ZP, ZY, List.cons_append, List.nil_append, Bool.not_true, Bool.not_false, ZN, YS, YR, YQ, YN, Vv, YO, VA]
  split
  · rename_i c1
    (with_reducible first | refine Vx ?_ | (refine VC ?_; intro J)); simp only [↓Ve, ↓Vf, ↓Vs, ↓Vl, ↓YU, ↓Vb, ↓Vu, ↓Ym, ↓Vk, ↓VI, ↓Vh, ↓YD, ↓Vj, ↓Yg, ↓Yy, ↓Ys, ↓Yo, ↓Yp, ↓Ye, Yc, ZA, ZS, Yb, Yr, ZF, Zx, ZD, ZT, ZX, ZO, Yd, YG, ZZ, YT, Yn, ZJ, YL, YK, Vc, Yw, ZU, ZR, YC, ZQ, ZV, ZH, YV, Vq, Vd, Vt, Vi, Vr, Va, Vo, Vg, YY, YJ, Yi, Zm, Zh, Zc, Zb, ZC, Zu, ZB, ZL, ZI, ZM, ZG, ZE, YF, Zz, Zy, Zw, Zt, Zr, Zo, Zv, Zn, Zi, Zp, Zl, Zd, Zk, Ze, Zj, Zf, Zg, Za, Yq, YB, Yv, ZW, Yx, YX, YZ, Vm, YW, Yj, YH, Vp, Vn, Zq, Zs, YM, YE, Yk, Yz, Yl, Yu, YA, Yt, Yh, YI, ZP, ZY, List.cons_append, List.nil_append, Bool.not_true, Bool.not_false, ZN, YS, YR, YQ, YN, Vv, YO, VA]
    refine comp_pick (VB _ _) (by decide) (by decide) rfl (fun _ => false) (fun s hs R hR => ?_) ?_
    · (try simp only [↓Ve, ↓Vf, ↓Vs, ↓Vl, ↓YU, ↓Vb, ↓Vu, ↓Ym, ↓Vk, ↓VI, ↓Vh, ↓YD, ↓Vj, ↓Yg, ↓Yy, ↓Ys, ↓Yo, ↓Yp, ↓Ye, Yc, ZA, ZS, Yb, Yr, ZF, Zx, ZD, ZT, ZX, ZO, Yd, YG, ZZ, YT, Yn, ZJ, YL, YK, Vc, Yw, ZU, ZR, YC, ZQ, ZV, ZH, YV, Vq, Vd, Vt, Vi, Vr, Va, Vo, Vg, YY, YJ, Yi, Zm, Zh, Zc, Zb, ZC, Zu, ZB, ZL, ZI, ZM, ZG, ZE, YF, Zz, Zy, Zw, Zt, Zr, Zo, Zv, Zn, Zi, Zp, Zl, Zd, Zk, Ze, Zj, Zf, Zg, Za, Yq, YB, Yv, ZW, Yx, YX, YZ, Vm, YW, Yj, YH, Vp, Vn, Zq, Zs, YM, YE, Yk, Yz, Yl, Yu, YA, Yt, Yh, YI, ZP, ZY, List.cons_append, List.nil_append, Bool.not_true, Bool.not_false, ZN, YS, YR, YQ, YN, Vv, YO, VA])
      split
      · rename_i e
        rw [b_notin hk1]
        by_cases q : 1 + (s : Int) ∈ A
        · rw [decide_eq_true q]; exact hR
        · refine absurd ⟨one_num (a := g) (by lia), ⟨List.Pairwise.nil, num_nil⟩, fits_of dA List.nodup_nil (fun a ha => ?_) (fun a ha => by cases ha) (by simp; lia) (by simp; lia) rS fun t ht => ?_⟩ (hN [g] [])
          · simp only [List.mem_singleton] at ha; rw [ha, ← e]; exact q
          · rw [show t = 0 by lia, ← e0, pws_one, show pws [] (0 + 1) = 0 from rfl, Int.pow_succ, Int.pow_zero]; lia
      · rename_i e
        rw [decide_eq_false e]
        exact hR
    rw [show ((List.range (251 - 1 : Int).toNat).filter fun _ => false) = [] from List.filter_eq_nil_iff.mpr fun _ _ q => nomatch q]
    show wpB .ne (.ref H1.length) (.ref (H1 ++ [zl []]).length) (H1 ++ [zl []] ++ [[]]) _
    rw [b_ne_list (get_old (G := [[]]) (VP (H := H1) (vs := zl []))) (VP (vs := zl []))]
    exact h _ (pre_app (pre_app p1))
  rename_i c1
  (with_reducible first | refine Vx ?_ | (refine VC ?_; intro J)); simp only [↓Ve, ↓Vf, ↓Vs, ↓Vl, ↓YU, ↓Vb, ↓Vu, ↓Ym, ↓Vk, ↓VI, ↓Vh, ↓YD, ↓Vj, ↓Yg, ↓Yy, ↓Ys, ↓Yo, ↓Yp, ↓Ye, Yc, ZA, ZS, Yb, Yr, ZF, Zx, ZD, ZT, ZX, ZO, Yd, YG, ZZ, YT, Yn, ZJ, YL, YK, Vc, Yw, ZU, ZR, YC, ZQ, ZV, ZH, YV, Vq, Vd, Vt, Vi, Vr, Va, Vo, Vg, YY, YJ, Yi, Zm, Zh, Zc, Zb, ZC, Zu, ZB, ZL, ZI, ZM, ZG, ZE, YF, Zz, Zy, Zw, Zt, Zr, Zo, Zv, Zn, Zi, Zp, Zl, Zd, Zk, Ze, Zj, Zf, Zg, Za, Yq, YB, Yv, ZW, Yx, YX, YZ, Vm, YW, Yj, YH, Vp, Vn, Zq, Zs, YM, YE, Yk, Yz, Yl, Yu, YA, Yt, Yh, YI, ZP, ZY, List.cons_append, List.nil_append, Bool.not_true, Bool.not_false, ZN, YS, YR, YQ, YN, Vv, YO, VA]
  split
  rotate_left
  · rename_i c2
    rw [decide_eq_false c2]
    exact h _ p1
  rename_i c2
  refine comp_lpick (VB _ _) hk1 rfl (fun _ => false) (fun a ha R hR => ?_) ?_
  · (try simp only [↓Ve, ↓Vf, ↓Vs, ↓Vl, ↓YU, ↓Vb, ↓Vu, ↓Ym, ↓Vk, ↓VI, ↓Vh, ↓YD, ↓Vj, ↓Yg, ↓Yy, ↓Ys, ↓Yo, ↓Yp, ↓Ye, Yc, ZA, ZS, Yb, Yr, ZF, Zx, ZD, ZT, ZX, ZO, Yd, YG, ZZ, YT, Yn, ZJ, YL, YK, Vc, Yw, ZU, ZR, YC, ZQ, ZV, ZH, YV, Vq, Vd, Vt, Vi, Vr, Va, Vo, Vg, YY, YJ, Yi, Zm, Zh, Zc, Zb, ZC, Zu, ZB, ZL, ZI, ZM, ZG, ZE, YF, Zz, Zy, Zw, Zt, Zr, Zo, Zv, Zn, Zi, Zp, Zl, Zd, Zk, Ze, Zj, Zf, Zg, Za, Yq, YB, Yv, ZW, Yx, YX, YZ, Vm, YW, Yj, YH, Vp, Vn, Zq, Zs, YM, YE, Yk, Yz, Yl, Yu, YA, Yt, Yh, YI, ZP, ZY, List.cons_append, List.nil_append, Bool.not_true, Bool.not_false, ZN, YS, YR, YQ, YN, Vv, YO, VA])
    refine ⟨by decide, ?_⟩
    have na := nA a ha
    rw [decide_eq_false fun q => hN [] [a] ⟨⟨List.Pairwise.nil, num_nil⟩, one_num na, fits_of dA (by simp) (fun a ha => by cases ha) (fun b hb => by simp only [List.mem_singleton] at hb; rw [hb]; exact ha) (by simp; lia) (by simp; lia) rS fun t ht => by
      rw [show t = 0 by lia, ← e0, pws_one, show pws [] (0 + 1) = 0 from rfl, Int.pow_succ, Int.pow_zero]; lia⟩]
    exact hR
  rw [show (A.filter fun _ => false) = [] from List.filter_eq_nil_iff.mpr fun _ _ q => nomatch q]
  show wpB .ne (.ref H1.length) (.ref (H1 ++ [zl []]).length) (H1 ++ [zl []] ++ [[]]) _
  rw [b_ne_list (get_old (G := [[]]) (VP (H := H1) (vs := zl []))) (VP (vs := zl []))]
  exact h _ (pre_app (pre_app p1))

theorem spec_two_do (n k : Nat) (A S : List Int) (c : Int) (H : Hp) (P : PV) (hk : H[k]? = some (zl A)) (nA : Num A) (dA : A.Nodup) (rS : Red S) (lS : S.length = 2) (hc : c = A.length) (hN : ∀ L O, ¬ Find A c S L O) (h : ∀ H', H <+: H' → P (.bool false) H') : run T (n + 3) 59 [.ref k, .tup [.int c, .tup (zl S)]] H P := by
  refine run_succ (d := f_law_two_do) rfl rfl (by decide) ?_
  simp only [f_law_two_do, entry, List.map, List.replicate, Nat.reduceSub, List.cons_append, List.nil_append]
  (with_reducible first | refine Vx ?_ | (refine VC ?_; intro J)); simp only [↓Ve, ↓Vf, ↓Vs, ↓Vl, ↓YU, ↓Vb, ↓Vu, ↓Ym, ↓Vk, ↓VI, ↓Vh, ↓YD, ↓Vj, ↓Yg, ↓Yy, ↓Ys, ↓Yo, ↓Yp, ↓Ye, Yc, ZA, ZS, Yb, Yr, ZF, Zx, ZD, ZT, ZX, ZO, Yd, YG, ZZ, YT, Yn, ZJ, YL, YK, Vc, Yw, ZU, ZR, YC, ZQ, ZV, ZH, YV, Vq, Vd, Vt, Vi, Vr, Va, Vo, Vg, YY, YJ, Yi, Zm, Zh, Zc, Zb, ZC, Zu, ZB, ZL, ZI, ZM, ZG, ZE, YF, Zz, Zy, Zw, Zt, Zr, Zo, Zv, Zn, Zi, Zp, Zl, Zd, Zk, Ze, Zj, Zf, Zg, Za, Yq, YB, Yv, ZW, Yx, YX, YZ, Vm, YW, Yj, YH, Vp, Vn, Zq, Zs, YM, YE, Yk, Yz, Yl, Yu, YA, Yt, Yh, YI, ZP, ZY, List.cons_append, List.nil_append, Bool.not_true, Bool.not_false, ZN, YS, YR, YQ, YN, Vv, YO, VA]
  refine spec_gap _ _ A S c _ _ hk nA (by lia) fun k1 H1 p1 g1 => ?_
  have hk1 := Vz p1 hk
  (try simp only [↓Ve, ↓Vf, ↓Vs, ↓Vl, ↓YU, ↓Vb, ↓Vu, ↓Ym, ↓Vk, ↓VI, ↓Vh, ↓YD, ↓Vj, ↓Yg, ↓Yy, ↓Ys, ↓Yo, ↓Yp, ↓Ye, Yc, ZA, ZS, Yb, Yr, ZF, Zx, ZD, ZT, ZX, ZO, Yd, YG, ZZ, YT, Yn, ZJ, YL, YK, Vc, Yw, ZU, ZR, YC, ZQ, ZV, ZH, YV, Vq, Vd, Vt, Vi, Vr, Va, Vo, Vg, YY, YJ, Yi, Zm, Zh, Zc, Zb, ZC, Zu, ZB, ZL, ZI, ZM, ZG, ZE, YF, Zz, Zy, Zw, Zt, Zr, Zo, Zv, Zn, Zi, Zp, Zl, Zd, Zk, Ze, Zj, Zf, Zg, Za, Yq, YB, Yv, ZW, Yx, YX, YZ, Vm, YW, Yj, YH, Vp, Vn, Zq, Zs, YM, YE, Yk, Yz, Yl, Yu, YA, Yt, Yh, YI, ZP, ZY, List.cons_append, List.nil_append, Bool.not_true, Bool.not_false, ZN, YS, YR, YQ, YN, Vv, YO, VA])
  (with_reducible first | refine Vx ?_ | (refine VC ?_; intro J)); simp only [↓Ve, ↓Vf, ↓Vs, ↓Vl, ↓YU, ↓Vb, ↓Vu, ↓Ym, ↓Vk, ↓VI, ↓Vh, ↓YD, ↓Vj, ↓Yg, ↓Yy, ↓Ys, ↓Yo, ↓Yp, ↓Ye, Yc, ZA, ZS, Yb, Yr, ZF, Zx, ZD, ZT, ZX, ZO, Yd, YG, ZZ, YT, Yn, ZJ, YL, YK, Vc, Yw, ZU, ZR, YC, ZQ, ZV, ZH, YV, Vq, Vd, Vt, Vi, Vr, Va, Vo, Vg, YY, YJ, Yi, Zm, Zh, Zc, Zb, ZC, Zu, ZB, ZL, ZI, ZM, ZG, ZE, YF, Zz, Zy, Zw, Zt, Zr, Zo, Zv, Zn, Zi, Zp, Zl, Zd, Zk, Ze, Zj, Zf, Zg, Za, Yq, YB, Yv, ZW, Yx, YX, YZ, Vm, YW, Yj, YH, Vp, Vn, Zq, Zs, YM, YE, Yk, Yz, Yl, Yu, YA, Yt, Yh, YI, ZP, ZY, List.cons_append, List.nil_append, Bool.not_true, Bool.not_false, ZN, YS, YR, YQ, YN, Vv, YO, VA]
  rw [show ([[V.int 0, V.int 0]] : Hp) = [zl [0, 0]] from rfl, b_eq_list (get_old g1) (VP (vs := zl [0, 0])), decide_eq_false fun q => hN [] [] (nil_find dA hc rS fun t ht => by
    rw [q]
    match t with
    | 0 => rfl
    | 1 => rfl
    | t + 2 => lia)]
  (try simp only [↓Ve, ↓Vf, ↓Vs, ↓Vl, ↓YU, ↓Vb, ↓Vu, ↓Ym, ↓Vk, ↓VI, ↓Vh, ↓YD, ↓Vj, ↓Yg, ↓Yy, ↓Ys, ↓Yo, ↓Yp, ↓Ye, Yc, ZA, ZS, Yb, Yr, ZF, Zx, ZD, ZT, ZX, ZO, Yd, YG, ZZ, YT, Yn, ZJ, YL, YK, Vc, Yw, ZU, ZR, YC, ZQ, ZV, ZH, YV, Vq, Vd, Vt, Vi, Vr, Va, Vo, Vg, YY, YJ, Yi, Zm, Zh, Zc, Zb, ZC, Zu, ZB, ZL, ZI, ZM, ZG, ZE, YF, Zz, Zy, Zw, Zt, Zr, Zo, Zv, Zn, Zi, Zp, Zl, Zd, Zk, Ze, Zj, Zf, Zg, Za, Yq, YB, Yv, ZW, Yx, YX, YZ, Vm, YW, Yj, YH, Vp, Vn, Zq, Zs, YM, YE, Yk, Yz, Yl, Yu, YA, Yt, Yh, YI, ZP, ZY, List.cons_append, List.nil_append, Bool.not_true, Bool.not_false, ZN, YS, YR, YQ, YN, Vv, YO, VA])
  have e0 := gapsL_co A S (k := 0) (by lia)
  have e1 := gapsL_co A S (k := 1) (by lia)
  have p2 : H <+: H1 ++ [zl [0, 0]] := pre_app p1
  have hk2 := get_old (G := [zl [0, 0]]) hk1
  have g2 := get_old (G := [zl [0, 0]]) g1
  generalize H1 ++ [zl [0, 0]] = H2 at *
  have lg := gapsL_len A S
  have rg := gapsL_red A S
  generalize gapsL A S = G at *
  (try change wpSs _ _ _ _ _)
  refine s_cut (VB _ _) (fun m' H' => H' = H2 ∧ Ex2 fun t3 t4 => m' = [some (.ref k), some (.tup [.int c, .tup (zl S)]), some (.ref k1), t3, t4]) ?_ ?_
  · (try (with_reducible refine post_letS ?_; intro J))
    (try simp only [↓Ve, ↓Vf, ↓Vs, ↓Vl, ↓YU, ↓Vb, ↓Vu, ↓Ym, ↓Vk, ↓VI, ↓Vh, ↓YD, ↓Vj, ↓Yg, ↓Yy, ↓Ys, ↓Yo, ↓Yp, ↓Ye, Yc, ZA, ZS, Yb, Yr, ZF, Zx, ZD, ZT, ZX, ZO, Yd, YG, ZZ, YT, Yn, ZJ, YL, YK, Vc, Yw, ZU, ZR, YC, ZQ, ZV, ZH, YV, Vq, Vd, Vt, Vi, Vr, Va, Vo, Vg, YY, YJ, Yi, Zm, Zh, Zc, Zb, ZC, Zu, ZB, ZL, ZI, ZM, ZG, ZE, YF, Zz, Zy, Zw, Zt, Zr, Zo, Zv, Zn, Zi, Zp, Zl, Zd, Zk, Ze, Zj, Zf, Zg, Za, Yq, YB, Yv, ZW, Yx, YX, YZ, Vm, YW, Yj, YH, Vp, Vn, Zq, Zs, YM, YE, Yk, Yz, Yl, Yu, YA, Yt, Yh, YI, ZP, ZY, List.cons_append, List.nil_append, Bool.not_true, Bool.not_false, ZN, YS, YR, YQ, YN, Vv, YO, VA])
    refine each_ref (VB _ _) hk2 (fun q m' H' => H' = H2 ∧ Ex2 fun t3 t4 => m' = [some (.ref k), some (.tup [.int c, .tup (zl S)]), some (.ref k1), t3, t4]) ⟨rfl, none, none, rfl⟩ (fun j m H' h => h.1 ▸ hk2) ?_ ?_
    · rintro q v m' H' hv ⟨rfl, t3, t4, rfl⟩
      (try (with_reducible (first | refine Vy ?_ | refine Vw ?_); intro J))
      obtain ⟨o, ho, rfl⟩ := zl_at hv
      have hoA := List.mem_of_getElem? ho
      have no := nA o hoA
      (with_reducible first | refine Vx ?_ | (refine VC ?_; intro J)); simp only [↓Ve, ↓Vf, ↓Vs, ↓Vl, ↓YU, ↓Vb, ↓Vu, ↓Ym, ↓Vk, ↓VI, ↓Vh, ↓YD, ↓Vj, ↓Yg, ↓Yy, ↓Ys, ↓Yo, ↓Yp, ↓Ye, Yc, ZA, ZS, Yb, Yr, ZF, Zx, ZD, ZT, ZX, ZO, Yd, YG, ZZ, YT, Yn, ZJ, YL, YK, Vc, Yw, ZU, ZR, YC, ZQ, ZV, ZH, YV, Vq, Vd, Vt, Vi, Vr, Va, Vo, Vg, YY, YJ, Yi, Zm, Zh, Zc, Zb, ZC, Zu, ZB, ZL, ZI, ZM, ZG, ZE, YF, Zz, Zy, Zw, Zt, Zr, Zo, Zv, Zn, Zi, Zp, Zl, Zd, Zk, Ze, Zj, Zf, Zg, Za, Yq, YB, Yv, ZW, Yx, YX, YZ, Vm, YW, Yj, YH, Vp, Vn, Zq, Zs, YM, YE, Yk, Yz, Yl, Yu, YA, Yt, Yh, YI, ZP, ZY, List.cons_append, List.nil_append, Bool.not_true, Bool.not_false, ZN, YS, YR, YQ, YN, Vv, YO, VA, VH g2]
      refine item_zl (by decide) (by lia) ?_
      (try simp only [↓Ve, ↓Vf, ↓Vs, ↓Vl, ↓YU, ↓Vb, ↓Vu, ↓Ym, ↓Vk, ↓VI, ↓Vh, ↓YD, ↓Vj, ↓Yg, ↓Yy, ↓Ys, ↓Yo, ↓Yp, ↓Ye, Yc, ZA, ZS, Yb, Yr, ZF, Zx, ZD, ZT, ZX, ZO, Yd, YG, ZZ, YT, Yn, ZJ, YL, YK, Vc, Yw, ZU, ZR, YC, ZQ, ZV, ZH, YV, Vq, Vd, Vt, Vi, Vr, Va, Vo, Vg, YY, YJ, Yi, Zm, Zh, Zc, Zb, ZC, Zu, ZB, ZL, ZI, ZM, ZG, ZE, YF, Zz, Zy, Zw, Zt, Zr, Zo, Zv, Zn, Zi, Zp, Zl, Zd, Zk, Ze, Zj, Zf, Zg, Za, Yq, YB, Yv, ZW, Yx, YX, YZ, Vm, YW, Yj, YH, Vp, Vn, Zq, Zs, YM, YE, Yk, Yz, Yl, Yu, YA, Yt, Yh, YI, ZP, ZY, List.cons_append, List.nil_append, Bool.not_true, Bool.not_false, ZN, YS, YR, YQ, YN, Vv, YO, VA])
      refine ⟨by decide, ?_⟩
      generalize hb : (co G (0 : Int).toNat + o) % 251 = b
      have rb : 0 ≤ b ∧ b < 251 := by subst hb; lia
      (with_reducible first | refine Vx ?_ | (refine VC ?_; intro J)); simp only [↓Ve, ↓Vf, ↓Vs, ↓Vl, ↓YU, ↓Vb, ↓Vu, ↓Ym, ↓Vk, ↓VI, ↓Vh, ↓YD, ↓Vj, ↓Yg, ↓Yy, ↓Ys, ↓Yo, ↓Yp, ↓Ye, Yc, ZA, ZS, Yb, Yr, ZF, Zx, ZD, ZT, ZX, ZO, Yd, YG, ZZ, YT, Yn, ZJ, YL, YK, Vc, Yw, ZU, ZR, YC, ZQ, ZV, ZH, YV, Vq, Vd, Vt, Vi, Vr, Va, Vo, Vg, YY, YJ, Yi, Zm, Zh, Zc, Zb, ZC, Zu, ZB, ZL, ZI, ZM, ZG, ZE, YF, Zz, Zy, Zw, Zt, Zr, Zo, Zv, Zn, Zi, Zp, Zl, Zd, Zk, Ze, Zj, Zf, Zg, Za, Yq, YB, Yv, ZW, Yx, YX, YZ, Vm, YW, Yj, YH, Vp, Vn, Zq, Zs, YM, YE, Yk, Yz, Yl, Yu, YA, Yt, Yh, YI, ZP, ZY, List.cons_append, List.nil_append, Bool.not_true, Bool.not_false, ZN, YS, YR, YQ, YN, Vv, YO, VA]
      split
      rotate_left
      · exact ⟨(by trivial), _, _, rfl⟩
      rename_i b0
      rw [b_notin hk2]
      by_cases bA : b ∈ A
      · rw [decide_eq_true bA]
        (try simp only [↓Ve, ↓Vf, ↓Vs, ↓Vl, ↓YU, ↓Vb, ↓Vu, ↓Ym, ↓Vk, ↓VI, ↓Vh, ↓YD, ↓Vj, ↓Yg, ↓Yy, ↓Ys, ↓Yo, ↓Yp, ↓Ye, Yc, ZA, ZS, Yb, Yr, ZF, Zx, ZD, ZT, ZX, ZO, Yd, YG, ZZ, YT, Yn, ZJ, YL, YK, Vc, Yw, ZU, ZR, YC, ZQ, ZV, ZH, YV, Vq, Vd, Vt, Vi, Vr, Va, Vo, Vg, YY, YJ, Yi, Zm, Zh, Zc, Zb, ZC, Zu, ZB, ZL, ZI, ZM, ZG, ZE, YF, Zz, Zy, Zw, Zt, Zr, Zo, Zv, Zn, Zi, Zp, Zl, Zd, Zk, Ze, Zj, Zf, Zg, Za, Yq, YB, Yv, ZW, Yx, YX, YZ, Vm, YW, Yj, YH, Vp, Vn, Zq, Zs, YM, YE, Yk, Yz, Yl, Yu, YA, Yt, Yh, YI, ZP, ZY, List.cons_append, List.nil_append, Bool.not_true, Bool.not_false, ZN, YS, YR, YQ, YN, Vv, YO, VA])
        exact ⟨(by trivial), _, _, rfl⟩
      rw [decide_eq_false bA]
      (try simp only [↓Ve, ↓Vf, ↓Vs, ↓Vl, ↓YU, ↓Vb, ↓Vu, ↓Ym, ↓Vk, ↓VI, ↓Vh, ↓YD, ↓Vj, ↓Yg, ↓Yy, ↓Ys, ↓Yo, ↓Yp, ↓Ye, Yc, ZA, ZS, Yb, Yr, ZF, Zx, ZD, ZT, ZX, ZO, Yd, YG, ZZ, YT, Yn, ZJ, YL, YK, Vc, Yw, ZU, ZR, YC, ZQ, ZV, ZH, YV, Vq, Vd, Vt, Vi, Vr, Va, Vo, Vg, YY, YJ, Yi, Zm, Zh, Zc, Zb, ZC, Zu, ZB, ZL, ZI, ZM, ZG, ZE, YF, Zz, Zy, Zw, Zt, Zr, Zo, Zv, Zn, Zi, Zp, Zl, Zd, Zk, Ze, Zj, Zf, Zg, Za, Yq, YB, Yv, ZW, Yx, YX, YZ, Vm, YW, Yj, YH, Vp, Vn, Zq, Zs, YM, YE, Yk, Yz, Yl, Yu, YA, Yt, Yh, YI, ZP, ZY, List.cons_append, List.nil_append, Bool.not_true, Bool.not_false, ZN, YS, YR, YQ, YN, Vv, YO, VA])
      refine ⟨.inl (red_small rb), .inl (red_small (by lia)), by decide, withL_of g2 (item_zl (by decide) (by lia) ?_)⟩
      (try simp only [↓Ve, ↓Vf, ↓Vs, ↓Vl, ↓YU, ↓Vb, ↓Vu, ↓Ym, ↓Vk, ↓VI, ↓Vh, ↓YD, ↓Vj, ↓Yg, ↓Yy, ↓Ys, ↓Yo, ↓Yp, ↓Ye, Yc, ZA, ZS, Yb, Yr, ZF, Zx, ZD, ZT, ZX, ZO, Yd, YG, ZZ, YT, Yn, ZJ, YL, YK, Vc, Yw, ZU, ZR, YC, ZQ, ZV, ZH, YV, Vq, Vd, Vt, Vi, Vr, Va, Vo, Vg, YY, YJ, Yi, Zm, Zh, Zc, Zb, ZC, Zu, ZB, ZL, ZI, ZM, ZG, ZE, YF, Zz, Zy, Zw, Zt, Zr, Zo, Zv, Zn, Zi, Zp, Zl, Zd, Zk, Ze, Zj, Zf, Zg, Za, Yq, YB, Yv, ZW, Yx, YX, YZ, Vm, YW, Yj, YH, Vp, Vn, Zq, Zs, YM, YE, Yk, Yz, Yl, Yu, YA, Yt, Yh, YI, ZP, ZY, List.cons_append, List.nil_append, Bool.not_true, Bool.not_false, ZN, YS, YR, YQ, YN, Vv, YO, VA])
      rw [if_neg fun q => hN [b] [o] ⟨one_num (by lia), one_num no, fits_of dA (by simp) (fun a ha => by simp only [List.mem_singleton] at ha; rw [ha]; exact bA) (fun a ha => by simp only [List.mem_singleton] at ha; rw [ha]; exact hoA) (by simp; lia) (by simp; lia) rS fun t ht => ?_⟩]
      · exact ⟨(by trivial), _, _, rfl⟩
      · rw [pws_one, pws_one]
        match t with
        | 0 =>
          rw [← e0, Int.pow_succ, Int.pow_zero, Int.pow_succ, Int.pow_zero]
          rw [show co G (0 : Int).toNat = co G 0 from rfl] at hb
          have := co_red rg 0
          lia
        | 1 =>
          rw [← e1, show (1 + 1 : Nat) = 0 + 1 + 1 from rfl, Int.pow_succ, Int.pow_succ, Int.pow_zero, Int.pow_succ, Int.pow_succ, Int.pow_zero, Int.one_mul, Int.one_mul]
          rw [show co G (1 : Int).toNat = co G 1 from rfl] at q
          exact q.symm
        | t + 2 => lia
    · rintro m' H' ⟨rfl, t3, t4, rfl⟩
      (try (with_reducible (first | refine Vy ?_ | refine Vw ?_); intro J))
      exact ⟨rfl, _, _, rfl⟩
  rintro m' H' ⟨rfl, t3, t4, rfl⟩
  (try (with_reducible (first | refine Vy ?_ | refine Vw ?_); intro J))
  (with_reducible first | refine Vx ?_ | (refine VC ?_; intro J)); simp only [↓Ve, ↓Vf, ↓Vs, ↓Vl, ↓YU, ↓Vb, ↓Vu, ↓Ym, ↓Vk, ↓VI, ↓Vh, ↓YD, ↓Vj, ↓Yg, ↓Yy, ↓Ys, ↓Yo, ↓Yp, ↓Ye, Yc, ZA, ZS, Yb, Yr, ZF, Zx, ZD, ZT, ZX, ZO, Yd, YG, ZZ, YT, Yn, ZJ, YL, YK, Vc, Yw, ZU, ZR, YC, ZQ, ZV, ZH, YV, Vq, Vd, Vt, Vi, Vr, Va, Vo, Vg, YY, YJ, Yi, Zm, Zh, Zc, Zb, ZC, Zu, ZB, ZL, ZI, ZM, ZG, ZE, YF, Zz, Zy, Zw, Zt, Zr, Zo, Zv, Zn, Zi, Zp, Zl, Zd, Zk, Ze, Zj, Zf, Zg, Za, Yq, YB, Yv, ZW, Yx, YX, YZ, Vm, YW, Yj, YH, Vp, Vn, Zq, Zs, YM, YE, Yk, Yz, Yl, Yu, YA, Yt, Yh, YI, ZP, ZY, List.cons_append, List.nil_append, Bool.not_true, Bool.not_false, ZN, YS, YR, YQ, YN, Vv, YO, VA]
  exact h _ p2

theorem spec_is_list (n i : Nat) (L : List Int) (H : Hp) (P : PV) (hi : H[i]? = some (zl L)) (hL : L.Pairwise (· < ·) ∧ Num L) (lL : L.length ≤ 1000) (h : P (.bool true) H) : run T (n + 2) 56 [.ref i] H P := by
  refine run_succ (d := f_law_is_list) rfl rfl (by decide) ?_
  simp only [f_law_is_list, entry, List.map, List.replicate, Nat.reduceSub, List.cons_append, List.nil_append]
  (with_reducible first | refine Vx ?_ | (refine VC ?_; intro J)); simp only [↓Ve, ↓Vf, ↓Vs, ↓Vl, ↓YU, ↓Vb, ↓Vu, ↓Ym, ↓Vk, ↓VI, ↓Vh, ↓YD, ↓Vj, ↓Yg, ↓Yy, ↓Ys, ↓Yo, ↓Yp, ↓Ye, Yc, ZA, ZS, Yb, Yr, ZF, Zx, ZD, ZT, ZX, ZO, Yd, YG, ZZ, YT, Yn, ZJ, YL, YK, Vc, Yw, ZU, ZR, YC, ZQ, ZV, ZH, YV, Vq, Vd, Vt, Vi, Vr, Va, Vo, Vg, YY, YJ, Yi, Zm, Zh, Zc, Zb, ZC, Zu, ZB, ZL, ZI, ZM, ZG, ZE, YF, Zz, Zy, Zw, Zt, Zr, Zo, Zv, Zn, Zi, Zp, Zl, Zd, Zk, Ze, Zj, Zf, Zg, Za, Yq, YB, Yv, ZW, Yx, YX, YZ, Vm, YW, Yj, YH, Vp, Vn, Zq, Zs, YM, YE, Yk, Yz, Yl, Yu, YA, Yt, Yh, YI, ZP, ZY, List.cons_append, List.nil_append, Bool.not_true, Bool.not_false, ZN, YS, YR, YQ, YN, Vv, YO, VA]
  (try change wpSs _ _ _ _ _)
  refine s_cut (VB _ _) (fun m' H' => H' = H ∧ ∃ t1, m' = [some (.ref i), t1]) ?_ ?_
  · (try (with_reducible refine post_letS ?_; intro J))
    (try simp only [↓Ve, ↓Vf, ↓Vs, ↓Vl, ↓YU, ↓Vb, ↓Vu, ↓Ym, ↓Vk, ↓VI, ↓Vh, ↓YD, ↓Vj, ↓Yg, ↓Yy, ↓Ys, ↓Yo, ↓Yp, ↓Ye, Yc, ZA, ZS, Yb, Yr, ZF, Zx, ZD, ZT, ZX, ZO, Yd, YG, ZZ, YT, Yn, ZJ, YL, YK, Vc, Yw, ZU, ZR, YC, ZQ, ZV, ZH, YV, Vq, Vd, Vt, Vi, Vr, Va, Vo, Vg, YY, YJ, Yi, Zm, Zh, Zc, Zb, ZC, Zu, ZB, ZL, ZI, ZM, ZG, ZE, YF, Zz, Zy, Zw, Zt, Zr, Zo, Zv, Zn, Zi, Zp, Zl, Zd, Zk, Ze, Zj, Zf, Zg, Za, Yq, YB, Yv, ZW, Yx, YX, YZ, Vm, YW, Yj, YH, Vp, Vn, Zq, Zs, YM, YE, Yk, Yz, Yl, Yu, YA, Yt, Yh, YI, ZP, ZY, List.cons_append, List.nil_append, Bool.not_true, Bool.not_false, ZN, YS, YR, YQ, YN, Vv, YO, VA, VH hi, VR])
    refine each_range (VB _ _) (by decide) (by lia) (fun q m' H' => H' = H ∧ ∃ t1, m' = [some (.ref i), t1]) ⟨rfl, none, rfl⟩ ?_ ?_
    · rintro q m' H' hq ⟨rfl, t1, rfl⟩
      (try (with_reducible (first | refine Vy ?_ | refine Vw ?_); intro J))
      generalize hqq : (0 : Int) + (q : Int) = qq
      have hq' : q < L.length := by lia
      have e1 : co L qq.toNat = L[q] := by rw [show qq.toNat = q by lia, co_lt hq']
      have n1 := hL.2 L[q] (List.getElem_mem _)
      (with_reducible first | refine Vx ?_ | (refine VC ?_; intro J)); simp only [↓Ve, ↓Vf, ↓Vs, ↓Vl, ↓YU, ↓Vb, ↓Vu, ↓Ym, ↓Vk, ↓VI, ↓Vh, ↓YD, ↓Vj, ↓Yg, ↓Yy, ↓Ys, ↓Yo, ↓Yp, ↓Ye, Yc, ZA, ZS, Yb, Yr, ZF, Zx, ZD, ZT, ZX, ZO, Yd, YG, ZZ, YT, Yn, ZJ, YL, YK, Vc, Yw, ZU, ZR, YC, ZQ, ZV, ZH, YV, Vq, Vd, Vt, Vi, Vr, Va, Vo, Vg, YY, YJ, Yi, Zm, Zh, Zc, Zb, ZC, Zu, ZB, ZL, ZI, ZM, ZG, ZE, YF, Zz, Zy, Zw, Zt, Zr, Zo, Zv, Zn, Zi, Zp, Zl, Zd, Zk, Ze, Zj, Zf, Zg, Za, Yq, YB, Yv, ZW, Yx, YX, YZ, Vm, YW, Yj, YH, Vp, Vn, Zq, Zs, YM, YE, Yk, Yz, Yl, Yu, YA, Yt, Yh, YI, ZP, ZY, List.cons_append, List.nil_append, Bool.not_true, Bool.not_false, ZN, YS, YR, YQ, YN, Vv, YO, VA, VH hi]
      refine item_zl (by lia) (by lia) ?_
      refine spec_whole _ _ _ _ ?_
      (try simp only [↓Ve, ↓Vf, ↓Vs, ↓Vl, ↓YU, ↓Vb, ↓Vu, ↓Ym, ↓Vk, ↓VI, ↓Vh, ↓YD, ↓Vj, ↓Yg, ↓Yy, ↓Ys, ↓Yo, ↓Yp, ↓Ye, Yc, ZA, ZS, Yb, Yr, ZF, Zx, ZD, ZT, ZX, ZO, Yd, YG, ZZ, YT, Yn, ZJ, YL, YK, Vc, Yw, ZU, ZR, YC, ZQ, ZV, ZH, YV, Vq, Vd, Vt, Vi, Vr, Va, Vo, Vg, YY, YJ, Yi, Zm, Zh, Zc, Zb, ZC, Zu, ZB, ZL, ZI, ZM, ZG, ZE, YF, Zz, Zy, Zw, Zt, Zr, Zo, Zv, Zn, Zi, Zp, Zl, Zd, Zk, Ze, Zj, Zf, Zg, Za, Yq, YB, Yv, ZW, Yx, YX, YZ, Vm, YW, Yj, YH, Vp, Vn, Zq, Zs, YM, YE, Yk, Yz, Yl, Yu, YA, Yt, Yh, YI, ZP, ZY, List.cons_append, List.nil_append, Bool.not_true, Bool.not_false, ZN, YS, YR, YQ, YN, Vv, YO, VA, VH hi])
      refine item_zl (by lia) (by lia) ?_
      (try simp only [↓Ve, ↓Vf, ↓Vs, ↓Vl, ↓YU, ↓Vb, ↓Vu, ↓Ym, ↓Vk, ↓VI, ↓Vh, ↓YD, ↓Vj, ↓Yg, ↓Yy, ↓Ys, ↓Yo, ↓Yp, ↓Ye, Yc, ZA, ZS, Yb, Yr, ZF, Zx, ZD, ZT, ZX, ZO, Yd, YG, ZZ, YT, Yn, ZJ, YL, YK, Vc, Yw, ZU, ZR, YC, ZQ, ZV, ZH, YV, Vq, Vd, Vt, Vi, Vr, Va, Vo, Vg, YY, YJ, Yi, Zm, Zh, Zc, Zb, ZC, Zu, ZB, ZL, ZI, ZM, ZG, ZE, YF, Zz, Zy, Zw, Zt, Zr, Zo, Zv, Zn, Zi, Zp, Zl, Zd, Zk, Ze, Zj, Zf, Zg, Za, Yq, YB, Yv, ZW, Yx, YX, YZ, Vm, YW, Yj, YH, Vp, Vn, Zq, Zs, YM, YE, Yk, Yz, Yl, Yu, YA, Yt, Yh, YI, ZP, ZY, List.cons_append, List.nil_append, Bool.not_true, Bool.not_false, ZN, YS, YR, YQ, YN, Vv, YO, VA])
      rw [e1, if_pos (by lia), if_pos (by lia)]
      split
      · rename_i q0
        refine withL_of hi (item_zl (by lia) (by lia) ?_)
        refine withL_of hi (item_zl (by lia) (by lia) ?_)
        (try simp only [↓Ve, ↓Vf, ↓Vs, ↓Vl, ↓YU, ↓Vb, ↓Vu, ↓Ym, ↓Vk, ↓VI, ↓Vh, ↓YD, ↓Vj, ↓Yg, ↓Yy, ↓Ys, ↓Yo, ↓Yp, ↓Ye, Yc, ZA, ZS, Yb, Yr, ZF, Zx, ZD, ZT, ZX, ZO, Yd, YG, ZZ, YT, Yn, ZJ, YL, YK, Vc, Yw, ZU, ZR, YC, ZQ, ZV, ZH, YV, Vq, Vd, Vt, Vi, Vr, Va, Vo, Vg, YY, YJ, Yi, Zm, Zh, Zc, Zb, ZC, Zu, ZB, ZL, ZI, ZM, ZG, ZE, YF, Zz, Zy, Zw, Zt, Zr, Zo, Zv, Zn, Zi, Zp, Zl, Zd, Zk, Ze, Zj, Zf, Zg, Za, Yq, YB, Yv, ZW, Yx, YX, YZ, Vm, YW, Yj, YH, Vp, Vn, Zq, Zs, YM, YE, Yk, Yz, Yl, Yu, YA, Yt, Yh, YI, ZP, ZY, List.cons_append, List.nil_append, Bool.not_true, Bool.not_false, ZN, YS, YR, YQ, YN, Vv, YO, VA])
        have e2 : co L (qq - 1).toNat = L[q - 1] := by rw [show (qq - 1).toNat = q - 1 by lia, co_lt (by lia)]
        have := List.pairwise_iff_getElem.mp hL.1 (q - 1) q (by lia) hq' (by lia)
        rw [e1, e2, if_neg (by lia)]
        exact ⟨(by trivial), _, rfl⟩
      · exact ⟨(by trivial), _, rfl⟩
    · rintro m' H' ⟨rfl, t1, rfl⟩
      (try (with_reducible (first | refine Vy ?_ | refine Vw ?_); intro J))
      exact ⟨rfl, _, rfl⟩
  rintro m' H' ⟨rfl, t1, rfl⟩
  (try (with_reducible (first | refine Vy ?_ | refine Vw ?_); intro J))
  (with_reducible first | refine Vx ?_ | (refine VC ?_; intro J)); simp only [↓Ve, ↓Vf, ↓Vs, ↓Vl, ↓YU, ↓Vb, ↓Vu, ↓Ym, ↓Vk, ↓VI, ↓Vh, ↓YD, ↓Vj, ↓Yg, ↓Yy, ↓Ys, ↓Yo, ↓Yp, ↓Ye, Yc, ZA, ZS, Yb, Yr, ZF, Zx, ZD, ZT, ZX, ZO, Yd, YG, ZZ, YT, Yn, ZJ, YL, YK, Vc, Yw, ZU, ZR, YC, ZQ, ZV, ZH, YV, Vq, Vd, Vt, Vi, Vr, Va, Vo, Vg, YY, YJ, Yi, Zm, Zh, Zc, Zb, ZC, Zu, ZB, ZL, ZI, ZM, ZG, ZE, YF, Zz, Zy, Zw, Zt, Zr, Zo, Zv, Zn, Zi, Zp, Zl, Zd, Zk, Ze, Zj, Zf, Zg, Za, Yq, YB, Yv, ZW, Yx, YX, YZ, Vm, YW, Yj, YH, Vp, Vn, Zq, Zs, YM, YE, Yk, Yz, Yl, Yu, YA, Yt, Yh, YI, ZP, ZY, List.cons_append, List.nil_append, Bool.not_true, Bool.not_false, ZN, YS, YR, YQ, YN, Vv, YO, VA]
  exact h

theorem no_in {L : List Int} {p : Int → Bool} (h : ∀ a ∈ L, p a = false) : L.filter p = [] := List.filter_eq_nil_iff.mpr fun a ha q => by rw [h a ha] at q; exact Bool.noConfusion q

theorem spec_holds (n k i j : Nat) (A S L O : List Int) (c : Int) (H : Hp) (P : PV) (hk : H[k]? = some (zl A)) (hi : H[i]? = some (zl L)) (hj : H[j]? = some (zl O)) (nA : Num A) (lA : A.length ≤ 250) (lS : S.length ≤ 12) (hf : Find A c S L O)
    (h : ∀ H', H <+: H' → P (.bool true) H') : run T (n + 3) 60 [.tup [.ref i, .ref j], .ref k, .tup [.int c, .tup (zl S)]] H P := by
  obtain ⟨hL, hO, h1, h2, h3, h4, h5⟩ := hf
  refine run_succ (d := f_law_holds) rfl rfl (by decide) ?_
  simp only [f_law_holds, entry, List.map, List.replicate, Nat.reduceSub, List.cons_append, List.nil_append]
  (with_reducible first | refine Vx ?_ | (refine VC ?_; intro J)); simp only [↓Ve, ↓Vf, ↓Vs, ↓Vl, ↓YU, ↓Vb, ↓Vu, ↓Ym, ↓Vk, ↓VI, ↓Vh, ↓YD, ↓Vj, ↓Yg, ↓Yy, ↓Ys, ↓Yo, ↓Yp, ↓Ye, Yc, ZA, ZS, Yb, Yr, ZF, Zx, ZD, ZT, ZX, ZO, Yd, YG, ZZ, YT, Yn, ZJ, YL, YK, Vc, Yw, ZU, ZR, YC, ZQ, ZV, ZH, YV, Vq, Vd, Vt, Vi, Vr, Va, Vo, Vg, YY, YJ, Yi, Zm, Zh, Zc, Zb, ZC, Zu, ZB, ZL, ZI, ZM, ZG, ZE, YF, Zz, Zy, Zw, Zt, Zr, Zo, Zv, Zn, Zi, Zp, Zl, Zd, Zk, Ze, Zj, Zf, Zg, Za, Yq, YB, Yv, ZW, Yx, YX, YZ, Vm, YW, Yj, YH, Vp, Vn, Zq, Zs, YM, YE, Yk, Yz, Yl, Yu, YA, Yt, Yh, YI, ZP, ZY, List.cons_append, List.nil_append, Bool.not_true, Bool.not_false, ZN, YS, YR, YQ, YN, Vv, YO, VA]
  rw [if_pos (show (([V.ref i, V.ref j] : List V).length : Int) = 2 from rfl)]
  refine Wa (by decide) rfl ?_
  refine spec_is_list _ _ L _ _ hi hL (by lia) ?_
  (try simp only [↓Ve, ↓Vf, ↓Vs, ↓Vl, ↓YU, ↓Vb, ↓Vu, ↓Ym, ↓Vk, ↓VI, ↓Vh, ↓YD, ↓Vj, ↓Yg, ↓Yy, ↓Ys, ↓Yo, ↓Yp, ↓Ye, Yc, ZA, ZS, Yb, Yr, ZF, Zx, ZD, ZT, ZX, ZO, Yd, YG, ZZ, YT, Yn, ZJ, YL, YK, Vc, Yw, ZU, ZR, YC, ZQ, ZV, ZH, YV, Vq, Vd, Vt, Vi, Vr, Va, Vo, Vg, YY, YJ, Yi, Zm, Zh, Zc, Zb, ZC, Zu, ZB, ZL, ZI, ZM, ZG, ZE, YF, Zz, Zy, Zw, Zt, Zr, Zo, Zv, Zn, Zi, Zp, Zl, Zd, Zk, Ze, Zj, Zf, Zg, Za, Yq, YB, Yv, ZW, Yx, YX, YZ, Vm, YW, Yj, YH, Vp, Vn, Zq, Zs, YM, YE, Yk, Yz, Yl, Yu, YA, Yt, Yh, YI, ZP, ZY, List.cons_append, List.nil_append, Bool.not_true, Bool.not_false, ZN, YS, YR, YQ, YN, Vv, YO, VA])
  refine Wa (by decide) rfl ?_
  refine spec_is_list _ _ O _ _ hj hO (by lia) ?_
  (try simp only [↓Ve, ↓Vf, ↓Vs, ↓Vl, ↓YU, ↓Vb, ↓Vu, ↓Ym, ↓Vk, ↓VI, ↓Vh, ↓YD, ↓Vj, ↓Yg, ↓Yy, ↓Ys, ↓Yo, ↓Yp, ↓Ye, Yc, ZA, ZS, Yb, Yr, ZF, Zx, ZD, ZT, ZX, ZO, Yd, YG, ZZ, YT, Yn, ZJ, YL, YK, Vc, Yw, ZU, ZR, YC, ZQ, ZV, ZH, YV, Vq, Vd, Vt, Vi, Vr, Va, Vo, Vg, YY, YJ, Yi, Zm, Zh, Zc, Zb, ZC, Zu, ZB, ZL, ZI, ZM, ZG, ZE, YF, Zz, Zy, Zw, Zt, Zr, Zo, Zv, Zn, Zi, Zp, Zl, Zd, Zk, Ze, Zj, Zf, Zg, Za, Yq, YB, Yv, ZW, Yx, YX, YZ, Vm, YW, Yj, YH, Vp, Vn, Zq, Zs, YM, YE, Yk, Yz, Yl, Yu, YA, Yt, Yh, YI, ZP, ZY, List.cons_append, List.nil_append, Bool.not_true, Bool.not_false, ZN, YS, YR, YQ, YN, Vv, YO, VA])
  (with_reducible first | refine Vx ?_ | (refine VC ?_; intro J)); simp only [↓Ve, ↓Vf, ↓Vs, ↓Vl, ↓YU, ↓Vb, ↓Vu, ↓Ym, ↓Vk, ↓VI, ↓Vh, ↓YD, ↓Vj, ↓Yg, ↓Yy, ↓Ys, ↓Yo, ↓Yp, ↓Ye, Yc, ZA, ZS, Yb, Yr, ZF, Zx, ZD, ZT, ZX, ZO, Yd, YG, ZZ, YT, Yn, ZJ, YL, YK, Vc, Yw, ZU, ZR, YC, ZQ, ZV, ZH, YV, Vq, Vd, Vt, Vi, Vr, Va, Vo, Vg, YY, YJ, Yi, Zm, Zh, Zc, Zb, ZC, Zu, ZB, ZL, ZI, ZM, ZG, ZE, YF, Zz, Zy, Zw, Zt, Zr, Zo, Zv, Zn, Zi, Zp, Zl, Zd, Zk, Ze, Zj, Zf, Zg, Za, Yq, YB, Yv, ZW, Yx, YX, YZ, Vm, YW, Yj, YH, Vp, Vn, Zq, Zs, YM, YE, Yk, Yz, Yl, Yu, YA, Yt, Yh, YI, ZP, ZY, List.cons_append, List.nil_append, Bool.not_true, Bool.not_false, ZN, YS, YR, YQ, YN, Vv, YO, VA]
  refine Wa (by decide) rfl ?_
  (try simp only [↓Ve, ↓Vf, ↓Vs, ↓Vl, ↓YU, ↓Vb, ↓Vu, ↓Ym, ↓Vk, ↓VI, ↓Vh, ↓YD, ↓Vj, ↓Yg, ↓Yy, ↓Ys, ↓Yo, ↓Yp, ↓Ye, Yc, ZA, ZS, Yb, Yr, ZF, Zx, ZD, ZT, ZX, ZO, Yd, YG, ZZ, YT, Yn, ZJ, YL, YK, Vc, Yw, ZU, ZR, YC, ZQ, ZV, ZH, YV, Vq, Vd, Vt, Vi, Vr, Va, Vo, Vg, YY, YJ, Yi, Zm, Zh, Zc, Zb, ZC, Zu, ZB, ZL, ZI, ZM, ZG, ZE, YF, Zz, Zy, Zw, Zt, Zr, Zo, Zv, Zn, Zi, Zp, Zl, Zd, Zk, Ze, Zj, Zf, Zg, Za, Yq, YB, Yv, ZW, Yx, YX, YZ, Vm, YW, Yj, YH, Vp, Vn, Zq, Zs, YM, YE, Yk, Yz, Yl, Yu, YA, Yt, Yh, YI, ZP, ZY, List.cons_append, List.nil_append, Bool.not_true, Bool.not_false, ZN, YS, YR, YQ, YN, Vv, YO, VA, VH hi, VR])
  refine Wa (by decide) rfl ?_
  (try simp only [↓Ve, ↓Vf, ↓Vs, ↓Vl, ↓YU, ↓Vb, ↓Vu, ↓Ym, ↓Vk, ↓VI, ↓Vh, ↓YD, ↓Vj, ↓Yg, ↓Yy, ↓Ys, ↓Yo, ↓Yp, ↓Ye, Yc, ZA, ZS, Yb, Yr, ZF, Zx, ZD, ZT, ZX, ZO, Yd, YG, ZZ, YT, Yn, ZJ, YL, YK, Vc, Yw, ZU, ZR, YC, ZQ, ZV, ZH, YV, Vq, Vd, Vt, Vi, Vr, Va, Vo, Vg, YY, YJ, Yi, Zm, Zh, Zc, Zb, ZC, Zu, ZB, ZL, ZI, ZM, ZG, ZE, YF, Zz, Zy, Zw, Zt, Zr, Zo, Zv, Zn, Zi, Zp, Zl, Zd, Zk, Ze, Zj, Zf, Zg, Za, Yq, YB, Yv, ZW, Yx, YX, YZ, Vm, YW, Yj, YH, Vp, Vn, Zq, Zs, YM, YE, Yk, Yz, Yl, Yu, YA, Yt, Yh, YI, ZP, ZY, List.cons_append, List.nil_append, Bool.not_true, Bool.not_false, ZN, YS, YR, YQ, YN, Vv, YO, VA, VH hj, VR])
  refine Wa (by decide) rfl ?_
  (try simp only [↓Ve, ↓Vf, ↓Vs, ↓Vl, ↓YU, ↓Vb, ↓Vu, ↓Ym, ↓Vk, ↓VI, ↓Vh, ↓YD, ↓Vj, ↓Yg, ↓Yy, ↓Ys, ↓Yo, ↓Yp, ↓Ye, Yc, ZA, ZS, Yb, Yr, ZF, Zx, ZD, ZT, ZX, ZO, Yd, YG, ZZ, YT, Yn, ZJ, YL, YK, Vc, Yw, ZU, ZR, YC, ZQ, ZV, ZH, YV, Vq, Vd, Vt, Vi, Vr, Va, Vo, Vg, YY, YJ, Yi, Zm, Zh, Zc, Zb, ZC, Zu, ZB, ZL, ZI, ZM, ZG, ZE, YF, Zz, Zy, Zw, Zt, Zr, Zo, Zv, Zn, Zi, Zp, Zl, Zd, Zk, Ze, Zj, Zf, Zg, Za, Yq, YB, Yv, ZW, Yx, YX, YZ, Vm, YW, Yj, YH, Vp, Vn, Zq, Zs, YM, YE, Yk, Yz, Yl, Yu, YA, Yt, Yh, YI, ZP, ZY, List.cons_append, List.nil_append, Bool.not_true, Bool.not_false, ZN, YS, YR, YQ, YN, Vv, YO, VA, VR])
  rw [if_neg (by lia)]
  refine Wa (by decide) rfl ?_
  (try simp only [↓Ve, ↓Vf, ↓Vs, ↓Vl, ↓YU, ↓Vb, ↓Vu, ↓Ym, ↓Vk, ↓VI, ↓Vh, ↓YD, ↓Vj, ↓Yg, ↓Yy, ↓Ys, ↓Yo, ↓Yp, ↓Ye, Yc, ZA, ZS, Yb, Yr, ZF, Zx, ZD, ZT, ZX, ZO, Yd, YG, ZZ, YT, Yn, ZJ, YL, YK, Vc, Yw, ZU, ZR, YC, ZQ, ZV, ZH, YV, Vq, Vd, Vt, Vi, Vr, Va, Vo, Vg, YY, YJ, Yi, Zm, Zh, Zc, Zb, ZC, Zu, ZB, ZL, ZI, ZM, ZG, ZE, YF, Zz, Zy, Zw, Zt, Zr, Zo, Zv, Zn, Zi, Zp, Zl, Zd, Zk, Ze, Zj, Zf, Zg, Za, Yq, YB, Yv, ZW, Yx, YX, YZ, Vm, YW, Yj, YH, Vp, Vn, Zq, Zs, YM, YE, Yk, Yz, Yl, Yu, YA, Yt, Yh, YI, ZP, ZY, List.cons_append, List.nil_append, Bool.not_true, Bool.not_false, ZN, YS, YR, YQ, YN, Vv, YO, VA])
  refine comp_lpick (VB _ _) hi rfl (fun a => decide (a ∈ A)) (fun a ha R hR => ?_) ?_
  · (try simp only [↓Ve, ↓Vf, ↓Vs, ↓Vl, ↓YU, ↓Vb, ↓Vu, ↓Ym, ↓Vk, ↓VI, ↓Vh, ↓YD, ↓Vj, ↓Yg, ↓Yy, ↓Ys, ↓Yo, ↓Yp, ↓Ye, Yc, ZA, ZS, Yb, Yr, ZF, Zx, ZD, ZT, ZX, ZO, Yd, YG, ZZ, YT, Yn, ZJ, YL, YK, Vc, Yw, ZU, ZR, YC, ZQ, ZV, ZH, YV, Vq, Vd, Vt, Vi, Vr, Va, Vo, Vg, YY, YJ, Yi, Zm, Zh, Zc, Zb, ZC, Zu, ZB, ZL, ZI, ZM, ZG, ZE, YF, Zz, Zy, Zw, Zt, Zr, Zo, Zv, Zn, Zi, Zp, Zl, Zd, Zk, Ze, Zj, Zf, Zg, Za, Yq, YB, Yv, ZW, Yx, YX, YZ, Vm, YW, Yj, YH, Vp, Vn, Zq, Zs, YM, YE, Yk, Yz, Yl, Yu, YA, Yt, Yh, YI, ZP, ZY, List.cons_append, List.nil_append, Bool.not_true, Bool.not_false, ZN, YS, YR, YQ, YN, Vv, YO, VA, b_isin hk])
    exact hR
  rw [no_in fun a ha => decide_eq_false (h1 a ha)]
  show wpB .ne (.ref H.length) (.ref (H ++ [zl []]).length) (H ++ [zl []] ++ [[]]) _
  rw [b_ne_list (get_old (G := [[]]) (VP (H := H) (vs := zl []))) (VP (vs := zl []))]
  (try simp only [↓Ve, ↓Vf, ↓Vs, ↓Vl, ↓YU, ↓Vb, ↓Vu, ↓Ym, ↓Vk, ↓VI, ↓Vh, ↓YD, ↓Vj, ↓Yg, ↓Yy, ↓Ys, ↓Yo, ↓Yp, ↓Ye, Yc, ZA, ZS, Yb, Yr, ZF, Zx, ZD, ZT, ZX, ZO, Yd, YG, ZZ, YT, Yn, ZJ, YL, YK, Vc, Yw, ZU, ZR, YC, ZQ, ZV, ZH, YV, Vq, Vd, Vt, Vi, Vr, Va, Vo, Vg, YY, YJ, Yi, Zm, Zh, Zc, Zb, ZC, Zu, ZB, ZL, ZI, ZM, ZG, ZE, YF, Zz, Zy, Zw, Zt, Zr, Zo, Zv, Zn, Zi, Zp, Zl, Zd, Zk, Ze, Zj, Zf, Zg, Za, Yq, YB, Yv, ZW, Yx, YX, YZ, Vm, YW, Yj, YH, Vp, Vn, Zq, Zs, YM, YE, Yk, Yz, Yl, Yu, YA, Yt, Yh, YI, ZP, ZY, List.cons_append, List.nil_append, Bool.not_true, Bool.not_false, ZN, YS, YR, YQ, YN, Vv, YO, VA])
  rw [if_pos trivial]
  have p1 : H <+: H ++ [zl []] ++ [[]] := pre_app (List.prefix_append _ _)
  generalize H ++ [zl []] ++ [[]] = H1 at *
  (with_reducible first | refine Vx ?_ | (refine VC ?_; intro J)); simp only [↓Ve, ↓Vf, ↓Vs, ↓Vl, ↓YU, ↓Vb, ↓Vu, ↓Ym, ↓Vk, ↓VI, ↓Vh, ↓YD, ↓Vj, ↓Yg, ↓Yy, ↓Ys, ↓Yo, ↓Yp, ↓Ye, Yc, ZA, ZS, Yb, Yr, ZF, Zx, ZD, ZT, ZX, ZO, Yd, YG, ZZ, YT, Yn, ZJ, YL, YK, Vc, Yw, ZU, ZR, YC, ZQ, ZV, ZH, YV, Vq, Vd, Vt, Vi, Vr, Va, Vo, Vg, YY, YJ, Yi, Zm, Zh, Zc, Zb, ZC, Zu, ZB, ZL, ZI, ZM, ZG, ZE, YF, Zz, Zy, Zw, Zt, Zr, Zo, Zv, Zn, Zi, Zp, Zl, Zd, Zk, Ze, Zj, Zf, Zg, Za, Yq, YB, Yv, ZW, Yx, YX, YZ, Vm, YW, Yj, YH, Vp, Vn, Zq, Zs, YM, YE, Yk, Yz, Yl, Yu, YA, Yt, Yh, YI, ZP, ZY, List.cons_append, List.nil_append, Bool.not_true, Bool.not_false, ZN, YS, YR, YQ, YN, Vv, YO, VA]
  refine Wa (by decide) rfl ?_
  (try simp only [↓Ve, ↓Vf, ↓Vs, ↓Vl, ↓YU, ↓Vb, ↓Vu, ↓Ym, ↓Vk, ↓VI, ↓Vh, ↓YD, ↓Vj, ↓Yg, ↓Yy, ↓Ys, ↓Yo, ↓Yp, ↓Ye, Yc, ZA, ZS, Yb, Yr, ZF, Zx, ZD, ZT, ZX, ZO, Yd, YG, ZZ, YT, Yn, ZJ, YL, YK, Vc, Yw, ZU, ZR, YC, ZQ, ZV, ZH, YV, Vq, Vd, Vt, Vi, Vr, Va, Vo, Vg, YY, YJ, Yi, Zm, Zh, Zc, Zb, ZC, Zu, ZB, ZL, ZI, ZM, ZG, ZE, YF, Zz, Zy, Zw, Zt, Zr, Zo, Zv, Zn, Zi, Zp, Zl, Zd, Zk, Ze, Zj, Zf, Zg, Za, Yq, YB, Yv, ZW, Yx, YX, YZ, Vm, YW, Yj, YH, Vp, Vn, Zq, Zs, YM, YE, Yk, Yz, Yl, Yu, YA, Yt, Yh, YI, ZP, ZY, List.cons_append, List.nil_append, Bool.not_true, Bool.not_false, ZN, YS, YR, YQ, YN, Vv, YO, VA])
  refine comp_lpick (VB _ _) (Vz p1 hj) rfl (fun a => !decide (a ∈ A)) (fun a ha R hR => ?_) ?_
  · (try simp only [↓Ve, ↓Vf, ↓Vs, ↓Vl, ↓YU, ↓Vb, ↓Vu, ↓Ym, ↓Vk, ↓VI, ↓Vh, ↓YD, ↓Vj, ↓Yg, ↓Yy, ↓Ys, ↓Yo, ↓Yp, ↓Ye, Yc, ZA, ZS, Yb, Yr, ZF, Zx, ZD, ZT, ZX, ZO, Yd, YG, ZZ, YT, Yn, ZJ, YL, YK, Vc, Yw, ZU, ZR, YC, ZQ, ZV, ZH, YV, Vq, Vd, Vt, Vi, Vr, Va, Vo, Vg, YY, YJ, Yi, Zm, Zh, Zc, Zb, ZC, Zu, ZB, ZL, ZI, ZM, ZG, ZE, YF, Zz, Zy, Zw, Zt, Zr, Zo, Zv, Zn, Zi, Zp, Zl, Zd, Zk, Ze, Zj, Zf, Zg, Za, Yq, YB, Yv, ZW, Yx, YX, YZ, Vm, YW, Yj, YH, Vp, Vn, Zq, Zs, YM, YE, Yk, Yz, Yl, Yu, YA, Yt, Yh, YI, ZP, ZY, List.cons_append, List.nil_append, Bool.not_true, Bool.not_false, ZN, YS, YR, YQ, YN, Vv, YO, VA, b_notin (Vz p1 hk)])
    exact hR
  rw [no_in fun a ha => by rw [decide_eq_true (h2 a ha)]; rfl]
  show wpB .ne (.ref H1.length) (.ref (H1 ++ [zl []]).length) (H1 ++ [zl []] ++ [[]]) _
  rw [b_ne_list (get_old (G := [[]]) (VP (H := H1) (vs := zl []))) (VP (vs := zl []))]
  (try simp only [↓Ve, ↓Vf, ↓Vs, ↓Vl, ↓YU, ↓Vb, ↓Vu, ↓Ym, ↓Vk, ↓VI, ↓Vh, ↓YD, ↓Vj, ↓Yg, ↓Yy, ↓Ys, ↓Yo, ↓Yp, ↓Ye, Yc, ZA, ZS, Yb, Yr, ZF, Zx, ZD, ZT, ZX, ZO, Yd, YG, ZZ, YT, Yn, ZJ, YL, YK, Vc, Yw, ZU, ZR, YC, ZQ, ZV, ZH, YV, Vq, Vd, Vt, Vi, Vr, Va, Vo, Vg, YY, YJ, Yi, Zm, Zh, Zc, Zb, ZC, Zu, ZB, ZL, ZI, ZM, ZG, ZE, YF, Zz, Zy, Zw, Zt, Zr, Zo, Zv, Zn, Zi, Zp, Zl, Zd, Zk, Ze, Zj, Zf, Zg, Za, Yq, YB, Yv, ZW, Yx, YX, YZ, Vm, YW, Yj, YH, Vp, Vn, Zq, Zs, YM, YE, Yk, Yz, Yl, Yu, YA, Yt, Yh, YI, ZP, ZY, List.cons_append, List.nil_append, Bool.not_true, Bool.not_false, ZN, YS, YR, YQ, YN, Vv, YO, VA])
  rw [if_pos trivial]
  have p2 : H <+: H1 ++ [zl []] ++ [[]] := pre_app (pre_app p1)
  generalize H1 ++ [zl []] ++ [[]] = H2 at *
  have k2 := Vz p2 hk
  have i2 := Vz p2 hi
  have j2 := Vz p2 hj
  (with_reducible first | refine Vx ?_ | (refine VC ?_; intro J)); simp only [↓Ve, ↓Vf, ↓Vs, ↓Vl, ↓YU, ↓Vb, ↓Vu, ↓Ym, ↓Vk, ↓VI, ↓Vh, ↓YD, ↓Vj, ↓Yg, ↓Yy, ↓Ys, ↓Yo, ↓Yp, ↓Ye, Yc, ZA, ZS, Yb, Yr, ZF, Zx, ZD, ZT, ZX, ZO, Yd, YG, ZZ, YT, Yn, ZJ, YL, YK, Vc, Yw, ZU, ZR, YC, ZQ, ZV, ZH, YV, Vq, Vd, Vt, Vi, Vr, Va, Vo, Vg, YY, YJ, Yi, Zm, Zh, Zc, Zb, ZC, Zu, ZB, ZL, ZI, ZM, ZG, ZE, YF, Zz, Zy, Zw, Zt, Zr, Zo, Zv, Zn, Zi, Zp, Zl, Zd, Zk, Ze, Zj, Zf, Zg, Za, Yq, YB, Yv, ZW, Yx, YX, YZ, Vm, YW, Yj, YH, Vp, Vn, Zq, Zs, YM, YE, Yk, Yz, Yl, Yu, YA, Yt, Yh, YI, ZP, ZY, List.cons_append, List.nil_append, Bool.not_true, Bool.not_false, ZN, YS, YR, YQ, YN, Vv, YO, VA]
  refine comp_lpick (VB _ _) k2 rfl (fun a => !decide (a ∈ O)) (fun a ha R hR => ?_) ?_
  · (try simp only [↓Ve, ↓Vf, ↓Vs, ↓Vl, ↓YU, ↓Vb, ↓Vu, ↓Ym, ↓Vk, ↓VI, ↓Vh, ↓YD, ↓Vj, ↓Yg, ↓Yy, ↓Ys, ↓Yo, ↓Yp, ↓Ye, Yc, ZA, ZS, Yb, Yr, ZF, Zx, ZD, ZT, ZX, ZO, Yd, YG, ZZ, YT, Yn, ZJ, YL, YK, Vc, Yw, ZU, ZR, YC, ZQ, ZV, ZH, YV, Vq, Vd, Vt, Vi, Vr, Va, Vo, Vg, YY, YJ, Yi, Zm, Zh, Zc, Zb, ZC, Zu, ZB, ZL, ZI, ZM, ZG, ZE, YF, Zz, Zy, Zw, Zt, Zr, Zo, Zv, Zn, Zi, Zp, Zl, Zd, Zk, Ze, Zj, Zf, Zg, Za, Yq, YB, Yv, ZW, Yx, YX, YZ, Vm, YW, Yj, YH, Vp, Vn, Zq, Zs, YM, YE, Yk, Yz, Yl, Yu, YA, Yt, Yh, YI, ZP, ZY, List.cons_append, List.nil_append, Bool.not_true, Bool.not_false, ZN, YS, YR, YQ, YN, Vv, YO, VA])
    refine Wa (by decide) rfl ?_
    rw [b_notin j2]
    exact hR
  have lf := List.length_filter_le (fun a => !decide (a ∈ O)) A
  (try simp only [↓Ve, ↓Vf, ↓Vs, ↓Vl, ↓YU, ↓Vb, ↓Vu, ↓Ym, ↓Vk, ↓VI, ↓Vh, ↓YD, ↓Vj, ↓Yg, ↓Yy, ↓Ys, ↓Yo, ↓Yp, ↓Ye, Yc, ZA, ZS, Yb, Yr, ZF, Zx, ZD, ZT, ZX, ZO, Yd, YG, ZZ, YT, Yn, ZJ, YL, YK, Vc, Yw, ZU, ZR, YC, ZQ, ZV, ZH, YV, Vq, Vd, Vt, Vi, Vr, Va, Vo, Vg, YY, YJ, Yi, Zm, Zh, Zc, Zb, ZC, Zu, ZB, ZL, ZI, ZM, ZG, ZE, YF, Zz, Zy, Zw, Zt, Zr, Zo, Zv, Zn, Zi, Zp, Zl, Zd, Zk, Ze, Zj, Zf, Zg, Za, Yq, YB, Yv, ZW, Yx, YX, YZ, Vm, YW, Yj, YH, Vp, Vn, Zq, Zs, YM, YE, Yk, Yz, Yl, Yu, YA, Yt, Yh, YI, ZP, ZY, List.cons_append, List.nil_append, Bool.not_true, Bool.not_false, ZN, YS, YR, YQ, YN, Vv, YO, VA])
  refine Wa (by decide) rfl ?_
  rw [b_cat VP (get_old i2), zl_cat]
  refine ⟨by rw [VR, VR]; unfold room; lia, ?_⟩
  (try simp only [↓Ve, ↓Vf, ↓Vs, ↓Vl, ↓YU, ↓Vb, ↓Vu, ↓Ym, ↓Vk, ↓VI, ↓Vh, ↓YD, ↓Vj, ↓Yg, ↓Yy, ↓Ys, ↓Yo, ↓Yp, ↓Ye, Yc, ZA, ZS, Yb, Yr, ZF, Zx, ZD, ZT, ZX, ZO, Yd, YG, ZZ, YT, Yn, ZJ, YL, YK, Vc, Yw, ZU, ZR, YC, ZQ, ZV, ZH, YV, Vq, Vd, Vt, Vi, Vr, Va, Vo, Vg, YY, YJ, Yi, Zm, Zh, Zc, Zb, ZC, Zu, ZB, ZL, ZI, ZM, ZG, ZE, YF, Zz, Zy, Zw, Zt, Zr, Zo, Zv, Zn, Zi, Zp, Zl, Zd, Zk, Ze, Zj, Zf, Zg, Za, Yq, YB, Yv, ZW, Yx, YX, YZ, Vm, YW, Yj, YH, Vp, Vn, Zq, Zs, YM, YE, Yk, Yz, Yl, Yu, YA, Yt, Yh, YI, ZP, ZY, List.cons_append, List.nil_append, Bool.not_true, Bool.not_false, ZN, YS, YR, YQ, YN, Vv, YO, VA])
  rw [show (A.filter fun a => !decide (a ∈ O)) ++ L = behind A L O from rfl]
  have g3 : (H2 ++ [zl (A.filter fun a => !decide (a ∈ O))] ++ [zl (behind A L O)])[(H2 ++ [zl (A.filter fun a => !decide (a ∈ O))]).length]? = some (zl (behind A L O)) := VP
  have p3 : H <+: H2 ++ [zl (A.filter fun a => !decide (a ∈ O))] ++ [zl (behind A L O)] := pre_app (pre_app p2)
  generalize H2 ++ [zl (A.filter fun a => !decide (a ∈ O))] ++ [zl (behind A L O)] = H3 at *
  generalize (H2 ++ [zl (A.filter fun a => !decide (a ∈ O))]).length = k3 at *
  (with_reducible first | refine Vx ?_ | (refine VC ?_; intro J)); simp only [↓Ve, ↓Vf, ↓Vs, ↓Vl, ↓YU, ↓Vb, ↓Vu, ↓Ym, ↓Vk, ↓VI, ↓Vh, ↓YD, ↓Vj, ↓Yg, ↓Yy, ↓Ys, ↓Yo, ↓Yp, ↓Ye, Yc, ZA, ZS, Yb, Yr, ZF, Zx, ZD, ZT, ZX, ZO, Yd, YG, ZZ, YT, Yn, ZJ, YL, YK, Vc, Yw, ZU, ZR, YC, ZQ, ZV, ZH, YV, Vq, Vd, Vt, Vi, Vr, Va, Vo, Vg, YY, YJ, Yi, Zm, Zh, Zc, Zb, ZC, Zu, ZB, ZL, ZI, ZM, ZG, ZE, YF, Zz, Zy, Zw, Zt, Zr, Zo, Zv, Zn, Zi, Zp, Zl, Zd, Zk, Ze, Zj, Zf, Zg, Za, Yq, YB, Yv, ZW, Yx, YX, YZ, Vm, YW, Yj, YH, Vp, Vn, Zq, Zs, YM, YE, Yk, Yz, Yl, Yu, YA, Yt, Yh, YI, ZP, ZY, List.cons_append, List.nil_append, Bool.not_true, Bool.not_false, ZN, YS, YR, YQ, YN, Vv, YO, VA, VH g3, VR]
  refine Wa (by decide) rfl ?_
  (try simp only [↓Ve, ↓Vf, ↓Vs, ↓Vl, ↓YU, ↓Vb, ↓Vu, ↓Ym, ↓Vk, ↓VI, ↓Vh, ↓YD, ↓Vj, ↓Yg, ↓Yy, ↓Ys, ↓Yo, ↓Yp, ↓Ye, Yc, ZA, ZS, Yb, Yr, ZF, Zx, ZD, ZT, ZX, ZO, Yd, YG, ZZ, YT, Yn, ZJ, YL, YK, Vc, Yw, ZU, ZR, YC, ZQ, ZV, ZH, YV, Vq, Vd, Vt, Vi, Vr, Va, Vo, Vg, YY, YJ, Yi, Zm, Zh, Zc, Zb, ZC, Zu, ZB, ZL, ZI, ZM, ZG, ZE, YF, Zz, Zy, Zw, Zt, Zr, Zo, Zv, Zn, Zi, Zp, Zl, Zd, Zk, Ze, Zj, Zf, Zg, Za, Yq, YB, Yv, ZW, Yx, YX, YZ, Vm, YW, Yj, YH, Vp, Vn, Zq, Zs, YM, YE, Yk, Yz, Yl, Yu, YA, Yt, Yh, YI, ZP, ZY, List.cons_append, List.nil_append, Bool.not_true, Bool.not_false, ZN, YS, YR, YQ, YN, Vv, YO, VA])
  rw [if_pos h4]
  refine Wa (by decide) rfl ?_
  (try simp only [↓Ve, ↓Vf, ↓Vs, ↓Vl, ↓YU, ↓Vb, ↓Vu, ↓Ym, ↓Vk, ↓VI, ↓Vh, ↓YD, ↓Vj, ↓Yg, ↓Yy, ↓Ys, ↓Yo, ↓Yp, ↓Ye, Yc, ZA, ZS, Yb, Yr, ZF, Zx, ZD, ZT, ZX, ZO, Yd, YG, ZZ, YT, Yn, ZJ, YL, YK, Vc, Yw, ZU, ZR, YC, ZQ, ZV, ZH, YV, Vq, Vd, Vt, Vi, Vr, Va, Vo, Vg, YY, YJ, Yi, Zm, Zh, Zc, Zb, ZC, Zu, ZB, ZL, ZI, ZM, ZG, ZE, YF, Zz, Zy, Zw, Zt, Zr, Zo, Zv, Zn, Zi, Zp, Zl, Zd, Zk, Ze, Zj, Zf, Zg, Za, Yq, YB, Yv, ZW, Yx, YX, YZ, Vm, YW, Yj, YH, Vp, Vn, Zq, Zs, YM, YE, Yk, Yz, Yl, Yu, YA, Yt, Yh, YI, ZP, ZY, List.cons_append, List.nil_append, Bool.not_true, Bool.not_false, ZN, YS, YR, YQ, YN, Vv, YO, VA, VR])
  have nb : Num (behind A L O) := num_append (fun a ha => nA a (mem_without.mp ha).1) hL.2
  refine spec_law_sums _ _ (behind A L O) S.length _ _ g3 nb (by lia) fun k4 H4 p4 _ s4 => ?_
  (try simp only [↓Ve, ↓Vf, ↓Vs, ↓Vl, ↓YU, ↓Vb, ↓Vu, ↓Ym, ↓Vk, ↓VI, ↓Vh, ↓YD, ↓Vj, ↓Yg, ↓Yy, ↓Ys, ↓Yo, ↓Yp, ↓Ye, Yc, ZA, ZS, Yb, Yr, ZF, Zx, ZD, ZT, ZX, ZO, Yd, YG, ZZ, YT, Yn, ZJ, YL, YK, Vc, Yw, ZU, ZR, YC, ZQ, ZV, ZH, YV, Vq, Vd, Vt, Vi, Vr, Va, Vo, Vg, YY, YJ, Yi, Zm, Zh, Zc, Zb, ZC, Zu, ZB, ZL, ZI, ZM, ZG, ZE, YF, Zz, Zy, Zw, Zt, Zr, Zo, Zv, Zn, Zi, Zp, Zl, Zd, Zk, Ze, Zj, Zf, Zg, Za, Yq, YB, Yv, ZW, Yx, YX, YZ, Vm, YW, Yj, YH, Vp, Vn, Zq, Zs, YM, YE, Yk, Yz, Yl, Yu, YA, Yt, Yh, YI, ZP, ZY, List.cons_append, List.nil_append, Bool.not_true, Bool.not_false, ZN, YS, YR, YQ, YN, Vv, YO, VA])
  refine withL_of s4 ?_
  refine Wa (by decide) rfl ?_
  rw [b_eq_tup, decide_eq_true h5]
  exact h _ (p3.trans p4)
end Mine

--STEP: ZN, YS, YR, YQ, YN, Vv, YO, VA, b_isnot_tup, b_isnot_n
open PySem
set_option linter.unusedSimpArgs false
set_option linter.unusedVariables false
namespace Mine

theorem VG {vs : List V} {H : Hp} {P : PV} : wpB .isnot (.tup vs) .none H P = (isNoneB .none = true ∧ P (.bool true) H) := rfl
theorem VQ {H : Hp} {P : PV} : wpB .isnot .none .none H P = (isNoneB .none = true ∧ P (.bool false) H) := rfl

theorem main12 (xs : List Int) (hxs : xs.length ≤ 63) : run T 50 61 [.frz xs] [] fun v _ => v = .bool true := by
  refine run_succ (d := f_law_10) rfl rfl (by decide) ?_
  simp only [f_law_10, entry, List.map, List.replicate, Nat.reduceSub, List.cons_append, List.nil_append]
  (with_reducible first | refine Vx ?_ | (refine VC ?_; intro J)); simp only [↓Ve, ↓Vf, ↓Vs, ↓Vl, ↓YU, ↓Vb, ↓Vu, ↓Ym, ↓Vk, ↓VI, ↓Vh, ↓YD, ↓Vj, ↓Yg, ↓Yy, ↓Ys, ↓Yo, ↓Yp, ↓Ye, Yc, ZA, ZS, Yb, Yr, ZF, Zx, ZD, ZT, ZX, ZO, Yd, YG, ZZ, YT, Yn, ZJ, YL, YK, Vc, Yw, ZU, ZR, YC, ZQ, ZV, ZH, YV, Vq, Vd, Vt, Vi, Vr, Va, Vo, Vg, YY, YJ, Yi, Zm, Zh, Zc, Zb, ZC, Zu, ZB, ZL, ZI, ZM, ZG, ZE, YF, Zz, Zy, Zw, Zt, Zr, Zo, Zv, Zn, Zi, Zp, Zl, Zd, Zk, Ze, Zj, Zf, Zg, Za, Yq, YB, Yv, ZW, Yx, YX, YZ, Vm, YW, Yj, YH, Vp, Vn, Zq, Zs, YM, YE, Yk, Yz, Yl, Yu, YA, Yt, Yh, YI, ZP, ZY, List.cons_append, List.nil_append, Bool.not_true, Bool.not_false, ZN, YS, YR, YQ, YN, Vv, YO, VA, VG, VQ]
  refine spec_law_row _ _ _ _ _ _ (by decide) (by decide) (by decide) (by decide) fun k1 A H1 _ _ a1 nA dA lA => ?_
  (try simp only [↓Ve, ↓Vf, ↓Vs, ↓Vl, ↓YU, ↓Vb, ↓Vu, ↓Ym, ↓Vk, ↓VI, ↓Vh, ↓YD, ↓Vj, ↓Yg, ↓Yy, ↓Ys, ↓Yo, ↓Yp, ↓Ye, Yc, ZA, ZS, Yb, Yr, ZF, Zx, ZD, ZT, ZX, ZO, Yd, YG, ZZ, YT, Yn, ZJ, YL, YK, Vc, Yw, ZU, ZR, YC, ZQ, ZV, ZH, YV, Vq, Vd, Vt, Vi, Vr, Va, Vo, Vg, YY, YJ, Yi, Zm, Zh, Zc, Zb, ZC, Zu, ZB, ZL, ZI, ZM, ZG, ZE, YF, Zz, Zy, Zw, Zt, Zr, Zo, Zv, Zn, Zi, Zp, Zl, Zd, Zk, Ze, Zj, Zf, Zg, Za, Yq, YB, Yv, ZW, Yx, YX, YZ, Vm, YW, Yj, YH, Vp, Vn, Zq, Zs, YM, YE, Yk, Yz, Yl, Yu, YA, Yt, Yh, YI, ZP, ZY, List.cons_append, List.nil_append, Bool.not_true, Bool.not_false, ZN, YS, YR, YQ, YN, Vv, YO, VA, VG, VQ])
  (with_reducible first | refine Vx ?_ | (refine VC ?_; intro J)); simp only [↓Ve, ↓Vf, ↓Vs, ↓Vl, ↓YU, ↓Vb, ↓Vu, ↓Ym, ↓Vk, ↓VI, ↓Vh, ↓YD, ↓Vj, ↓Yg, ↓Yy, ↓Ys, ↓Yo, ↓Yp, ↓Ye, Yc, ZA, ZS, Yb, Yr, ZF, Zx, ZD, ZT, ZX, ZO, Yd, YG, ZZ, YT, Yn, ZJ, YL, YK, Vc, Yw, ZU, ZR, YC, ZQ, ZV, ZH, YV, Vq, Vd, Vt, Vi, Vr, Va, Vo, Vg, YY, YJ, Yi, Zm, Zh, Zc, Zb, ZC, Zu, ZB, ZL, ZI, ZM, ZG, ZE, YF, Zz, Zy, Zw, Zt, Zr, Zo, Zv, Zn, Zi, Zp, Zl, Zd, Zk, Ze, Zj, Zf, Zg, Za, Yq, YB, Yv, ZW, Yx, YX, YZ, Vm, YW, Yj, YH, Vp, Vn, Zq, Zs, YM, YE, Yk, Yz, Yl, Yu, YA, Yt, Yh, YI, ZP, ZY, List.cons_append, List.nil_append, Bool.not_true, Bool.not_false, ZN, YS, YR, YQ, YN, Vv, YO, VA, VG, VQ]
  refine spec_cell _ _ _ _ _ (by decide) ?_
  (try simp only [↓Ve, ↓Vf, ↓Vs, ↓Vl, ↓YU, ↓Vb, ↓Vu, ↓Ym, ↓Vk, ↓VI, ↓Vh, ↓YD, ↓Vj, ↓Yg, ↓Yy, ↓Ys, ↓Yo, ↓Yp, ↓Ye, Yc, ZA, ZS, Yb, Yr, ZF, Zx, ZD, ZT, ZX, ZO, Yd, YG, ZZ, YT, Yn, ZJ, YL, YK, Vc, Yw, ZU, ZR, YC, ZQ, ZV, ZH, YV, Vq, Vd, Vt, Vi, Vr, Va, Vo, Vg, YY, YJ, Yi, Zm, Zh, Zc, Zb, ZC, Zu, ZB, ZL, ZI, ZM, ZG, ZE, YF, Zz, Zy, Zw, Zt, Zr, Zo, Zv, Zn, Zi, Zp, Zl, Zd, Zk, Ze, Zj, Zf, Zg, Za, Yq, YB, Yv, ZW, Yx, YX, YZ, Vm, YW, Yj, YH, Vp, Vn, Zq, Zs, YM, YE, Yk, Yz, Yl, Yu, YA, Yt, Yh, YI, ZP, ZY, List.cons_append, List.nil_append, Bool.not_true, Bool.not_false, ZN, YS, YR, YQ, YN, Vv, YO, VA, VG, VQ])
  refine ⟨by decide, ?_⟩
  (try change wpSs _ _ _ _ _)
  refine s_cut (VB _ _) (fun m' H' => H' = H1 ∧ ∃ (many : Nat), And3 (1 ≤ many) (many ≤ 12) (m' = [some (.frz xs), some (.ref k1), some (.int many), none, none, none, none, none])) ?_ ?_
  · (try (with_reducible refine post_letS ?_; intro J))
    (try simp only [↓Ve, ↓Vf, ↓Vs, ↓Vl, ↓YU, ↓Vb, ↓Vu, ↓Ym, ↓Vk, ↓VI, ↓Vh, ↓YD, ↓Vj, ↓Yg, ↓Yy, ↓Ys, ↓Yo, ↓Yp, ↓Ye, Yc, ZA, ZS, Yb, Yr, ZF, Zx, ZD, ZT, ZX, ZO, Yd, YG, ZZ, YT, Yn, ZJ, YL, YK, Vc, Yw, ZU, ZR, YC, ZQ, ZV, ZH, YV, Vq, Vd, Vt, Vi, Vr, Va, Vo, Vg, YY, YJ, Yi, Zm, Zh, Zc, Zb, ZC, Zu, ZB, ZL, ZI, ZM, ZG, ZE, YF, Zz, Zy, Zw, Zt, Zr, Zo, Zv, Zn, Zi, Zp, Zl, Zd, Zk, Ze, Zj, Zf, Zg, Za, Yq, YB, Yv, ZW, Yx, YX, YZ, Vm, YW, Yj, YH, Vp, Vn, Zq, Zs, YM, YE, Yk, Yz, Yl, Yu, YA, Yt, Yh, YI, ZP, ZY, List.cons_append, List.nil_append, Bool.not_true, Bool.not_false, ZN, YS, YR, YQ, YN, Vv, YO, VA, VG, VQ])
    refine spec_cell _ _ _ _ _ (by decide) ?_
    (try simp only [↓Ve, ↓Vf, ↓Vs, ↓Vl, ↓YU, ↓Vb, ↓Vu, ↓Ym, ↓Vk, ↓VI, ↓Vh, ↓YD, ↓Vj, ↓Yg, ↓Yy, ↓Ys, ↓Yo, ↓Yp, ↓Ye, Yc, ZA, ZS, Yb, Yr, ZF, Zx, ZD, ZT, ZX, ZO, Yd, YG, ZZ, YT, Yn, ZJ, YL, YK, Vc, Yw, ZU, ZR, YC, ZQ, ZV, ZH, YV, Vq, Vd, Vt, Vi, Vr, Va, Vo, Vg, YY, YJ, Yi, Zm, Zh, Zc, Zb, ZC, Zu, ZB, ZL, ZI, ZM, ZG, ZE, YF, Zz, Zy, Zw, Zt, Zr, Zo, Zv, Zn, Zi, Zp, Zl, Zd, Zk, Ze, Zj, Zf, Zg, Za, Yq, YB, Yv, ZW, Yx, YX, YZ, Vm, YW, Yj, YH, Vp, Vn, Zq, Zs, YM, YE, Yk, Yz, Yl, Yu, YA, Yt, Yh, YI, ZP, ZY, List.cons_append, List.nil_append, Bool.not_true, Bool.not_false, ZN, YS, YR, YQ, YN, Vv, YO, VA, VG, VQ])
    refine ⟨by decide, by decide, by decide, ?_⟩
    split
    · (with_reducible first | refine Vx ?_ | (refine VC ?_; intro J)); simp only [↓Ve, ↓Vf, ↓Vs, ↓Vl, ↓YU, ↓Vb, ↓Vu, ↓Ym, ↓Vk, ↓VI, ↓Vh, ↓YD, ↓Vj, ↓Yg, ↓Yy, ↓Ys, ↓Yo, ↓Yp, ↓Ye, Yc, ZA, ZS, Yb, Yr, ZF, Zx, ZD, ZT, ZX, ZO, Yd, YG, ZZ, YT, Yn, ZJ, YL, YK, Vc, Yw, ZU, ZR, YC, ZQ, ZV, ZH, YV, Vq, Vd, Vt, Vi, Vr, Va, Vo, Vg, YY, YJ, Yi, Zm, Zh, Zc, Zb, ZC, Zu, ZB, ZL, ZI, ZM, ZG, ZE, YF, Zz, Zy, Zw, Zt, Zr, Zo, Zv, Zn, Zi, Zp, Zl, Zd, Zk, Ze, Zj, Zf, Zg, Za, Yq, YB, Yv, ZW, Yx, YX, YZ, Vm, YW, Yj, YH, Vp, Vn, Zq, Zs, YM, YE, Yk, Yz, Yl, Yu, YA, Yt, Yh, YI, ZP, ZY, List.cons_append, List.nil_append, Bool.not_true, Bool.not_false, ZN, YS, YR, YQ, YN, Vv, YO, VA, VG, VQ]
      refine spec_cell _ _ _ _ _ (by decide) ?_
      (try simp only [↓Ve, ↓Vf, ↓Vs, ↓Vl, ↓YU, ↓Vb, ↓Vu, ↓Ym, ↓Vk, ↓VI, ↓Vh, ↓YD, ↓Vj, ↓Yg, ↓Yy, ↓Ys, ↓Yo, ↓Yp, ↓Ye, Yc, ZA, ZS, Yb, Yr, ZF, Zx, ZD, ZT, ZX, ZO, Yd, YG, ZZ, YT, Yn, ZJ, YL, YK, Vc, Yw, ZU, ZR, YC, ZQ, ZV, ZH, YV, Vq, Vd, Vt, Vi, Vr, Va, Vo, Vg, YY, YJ, Yi, Zm, Zh, Zc, Zb, ZC, Zu, ZB, ZL, ZI, ZM, ZG, ZE, YF, Zz, Zy, Zw, Zt, Zr, Zo, Zv, Zn, Zi, Zp, Zl, Zd, Zk, Ze, Zj, Zf, Zg, Za, Yq, YB, Yv, ZW, Yx, YX, YZ, Vm, YW, Yj, YH, Vp, Vn, Zq, Zs, YM, YE, Yk, Yz, Yl, Yu, YA, Yt, Yh, YI, ZP, ZY, List.cons_append, List.nil_append, Bool.not_true, Bool.not_false, ZN, YS, YR, YQ, YN, Vv, YO, VA, VG, VQ])
      refine ⟨by decide, (by trivial), (1 + cell xs 1 % 2).toNat, by lia, by lia, ?_⟩
      rw [Int.toNat_of_nonneg (by lia)]
    · refine ⟨(by trivial), (1 + cell xs 1 % 12).toNat, by lia, by lia, ?_⟩
      rw [Int.toNat_of_nonneg (by lia)]
  rintro m' H ⟨rfl, many, m1, m2, rfl⟩
  (try (with_reducible (first | refine Vy ?_ | refine Vw ?_); intro J))
  (with_reducible first | refine Vx ?_ | (refine VC ?_; intro J)); simp only [↓Ve, ↓Vf, ↓Vs, ↓Vl, ↓YU, ↓Vb, ↓Vu, ↓Ym, ↓Vk, ↓VI, ↓Vh, ↓YD, ↓Vj, ↓Yg, ↓Yy, ↓Ys, ↓Yo, ↓Yp, ↓Ye, Yc, ZA, ZS, Yb, Yr, ZF, Zx, ZD, ZT, ZX, ZO, Yd, YG, ZZ, YT, Yn, ZJ, YL, YK, Vc, Yw, ZU, ZR, YC, ZQ, ZV, ZH, YV, Vq, Vd, Vt, Vi, Vr, Va, Vo, Vg, YY, YJ, Yi, Zm, Zh, Zc, Zb, ZC, Zu, ZB, ZL, ZI, ZM, ZG, ZE, YF, Zz, Zy, Zw, Zt, Zr, Zo, Zv, Zn, Zi, Zp, Zl, Zd, Zk, Ze, Zj, Zf, Zg, Za, Yq, YB, Yv, ZW, Yx, YX, YZ, Vm, YW, Yj, YH, Vp, Vn, Zq, Zs, YM, YE, Yk, Yz, Yl, Yu, YA, Yt, Yh, YI, ZP, ZY, List.cons_append, List.nil_append, Bool.not_true, Bool.not_false, ZN, YS, YR, YQ, YN, Vv, YO, VA, VG, VQ]
  refine spec_cell _ _ _ _ _ (by decide) ?_
  (try simp only [↓Ve, ↓Vf, ↓Vs, ↓Vl, ↓YU, ↓Vb, ↓Vu, ↓Ym, ↓Vk, ↓VI, ↓Vh, ↓YD, ↓Vj, ↓Yg, ↓Yy, ↓Ys, ↓Yo, ↓Yp, ↓Ye, Yc, ZA, ZS, Yb, Yr, ZF, Zx, ZD, ZT, ZX, ZO, Yd, YG, ZZ, YT, Yn, ZJ, YL, YK, Vc, Yw, ZU, ZR, YC, ZQ, ZV, ZH, YV, Vq, Vd, Vt, Vi, Vr, Va, Vo, Vg, YY, YJ, Yi, Zm, Zh, Zc, Zb, ZC, Zu, ZB, ZL, ZI, ZM, ZG, ZE, YF, Zz, Zy, Zw, Zt, Zr, Zo, Zv, Zn, Zi, Zp, Zl, Zd, Zk, Ze, Zj, Zf, Zg, Za, Yq, YB, Yv, ZW, Yx, YX, YZ, Vm, YW, Yj, YH, Vp, Vn, Zq, Zs, YM, YE, Yk, Yz, Yl, Yu, YA, Yt, Yh, YI, ZP, ZY, List.cons_append, List.nil_append, Bool.not_true, Bool.not_false, ZN, YS, YR, YQ, YN, Vv, YO, VA, VG, VQ])
  refine spec_cell _ _ _ _ _ (by decide) ?_
  (try simp only [↓Ve, ↓Vf, ↓Vs, ↓Vl, ↓YU, ↓Vb, ↓Vu, ↓Ym, ↓Vk, ↓VI, ↓Vh, ↓YD, ↓Vj, ↓Yg, ↓Yy, ↓Ys, ↓Yo, ↓Yp, ↓Ye, Yc, ZA, ZS, Yb, Yr, ZF, Zx, ZD, ZT, ZX, ZO, Yd, YG, ZZ, YT, Yn, ZJ, YL, YK, Vc, Yw, ZU, ZR, YC, ZQ, ZV, ZH, YV, Vq, Vd, Vt, Vi, Vr, Va, Vo, Vg, YY, YJ, Yi, Zm, Zh, Zc, Zb, ZC, Zu, ZB, ZL, ZI, ZM, ZG, ZE, YF, Zz, Zy, Zw, Zt, Zr, Zo, Zv, Zn, Zi, Zp, Zl, Zd, Zk, Ze, Zj, Zf, Zg, Za, Yq, YB, Yv, ZW, Yx, YX, YZ, Vm, YW, Yj, YH, Vp, Vn, Zq, Zs, YM, YE, Yk, Yz, Yl, Yu, YA, Yt, Yh, YI, ZP, ZY, List.cons_append, List.nil_append, Bool.not_true, Bool.not_false, ZN, YS, YR, YQ, YN, Vv, YO, VA, VG, VQ])
  refine ⟨by decide, ?_⟩
  refine spec_other _ _ A _ _ _ _ a1 nA (by lia) (by lia) (by lia) fun k3 Ch H3 p3 _ b3 nC dC lC => ?_
  obtain ⟨nB, dB⟩ := other_row nA dA nC dC
  generalize other A Ch = B at *
  have lB := num_len nB dB
  have a3 := Vz p3 a1
  (try simp only [↓Ve, ↓Vf, ↓Vs, ↓Vl, ↓YU, ↓Vb, ↓Vu, ↓Ym, ↓Vk, ↓VI, ↓Vh, ↓YD, ↓Vj, ↓Yg, ↓Yy, ↓Ys, ↓Yo, ↓Yp, ↓Ye, Yc, ZA, ZS, Yb, Yr, ZF, Zx, ZD, ZT, ZX, ZO, Yd, YG, ZZ, YT, Yn, ZJ, YL, YK, Vc, Yw, ZU, ZR, YC, ZQ, ZV, ZH, YV, Vq, Vd, Vt, Vi, Vr, Va, Vo, Vg, YY, YJ, Yi, Zm, Zh, Zc, Zb, ZC, Zu, ZB, ZL, ZI, ZM, ZG, ZE, YF, Zz, Zy, Zw, Zt, Zr, Zo, Zv, Zn, Zi, Zp, Zl, Zd, Zk, Ze, Zj, Zf, Zg, Za, Yq, YB, Yv, ZW, Yx, YX, YZ, Vm, YW, Yj, YH, Vp, Vn, Zq, Zs, YM, YE, Yk, Yz, Yl, Yu, YA, Yt, Yh, YI, ZP, ZY, List.cons_append, List.nil_append, Bool.not_true, Bool.not_false, ZN, YS, YR, YQ, YN, Vv, YO, VA, VG, VQ])
  (with_reducible first | refine Vx ?_ | (refine VC ?_; intro J)); simp only [↓Ve, ↓Vf, ↓Vs, ↓Vl, ↓YU, ↓Vb, ↓Vu, ↓Ym, ↓Vk, ↓VI, ↓Vh, ↓YD, ↓Vj, ↓Yg, ↓Yy, ↓Ys, ↓Yo, ↓Yp, ↓Ye, Yc, ZA, ZS, Yb, Yr, ZF, Zx, ZD, ZT, ZX, ZO, Yd, YG, ZZ, YT, Yn, ZJ, YL, YK, Vc, Yw, ZU, ZR, YC, ZQ, ZV, ZH, YV, Vq, Vd, Vt, Vi, Vr, Va, Vo, Vg, YY, YJ, Yi, Zm, Zh, Zc, Zb, ZC, Zu, ZB, ZL, ZI, ZM, ZG, ZE, YF, Zz, Zy, Zw, Zt, Zr, Zo, Zv, Zn, Zi, Zp, Zl, Zd, Zk, Ze, Zj, Zf, Zg, Za, Yq, YB, Yv, ZW, Yx, YX, YZ, Vm, YW, Yj, YH, Vp, Vn, Zq, Zs, YM, YE, Yk, Yz, Yl, Yu, YA, Yt, Yh, YI, ZP, ZY, List.cons_append, List.nil_append, Bool.not_true, Bool.not_false, ZN, YS, YR, YQ, YN, Vv, YO, VA, VG, VQ, VH b3, VR]
  refine spec_law_sums _ _ B many _ _ b3 nB (by lia) fun k4 H4 p4 _ s4 => ?_
  have a4 := Vz p4 a3
  (try simp only [↓Ve, ↓Vf, ↓Vs, ↓Vl, ↓YU, ↓Vb, ↓Vu, ↓Ym, ↓Vk, ↓VI, ↓Vh, ↓YD, ↓Vj, ↓Yg, ↓Yy, ↓Ys, ↓Yo, ↓Yp, ↓Ye, Yc, ZA, ZS, Yb, Yr, ZF, Zx, ZD, ZT, ZX, ZO, Yd, YG, ZZ, YT, Yn, ZJ, YL, YK, Vc, Yw, ZU, ZR, YC, ZQ, ZV, ZH, YV, Vq, Vd, Vt, Vi, Vr, Va, Vo, Vg, YY, YJ, Yi, Zm, Zh, Zc, Zb, ZC, Zu, ZB, ZL, ZI, ZM, ZG, ZE, YF, Zz, Zy, Zw, Zt, Zr, Zo, Zv, Zn, Zi, Zp, Zl, Zd, Zk, Ze, Zj, Zf, Zg, Za, Yq, YB, Yv, ZW, Yx, YX, YZ, Vm, YW, Yj, YH, Vp, Vn, Zq, Zs, YM, YE, Yk, Yz, Yl, Yu, YA, Yt, Yh, YI, ZP, ZY, List.cons_append, List.nil_append, Bool.not_true, Bool.not_false, ZN, YS, YR, YQ, YN, Vv, YO, VA, VG, VQ, VH s4])
  (try change wpSs _ _ _ _ _)
  refine s_cut (VB _ _) (fun m' H' => H4 <+: H' ∧ Ex3 fun (c : Int) (S : List Int) (t5 : Option V) => And5 (0 ≤ c) (c ≤ 250) (Red S) (S.length = many) (m' = [some (.frz xs), some (.ref k1), some (.int many), some (.ref k3), some (.tup [.int c, .tup (zl S)]), t5, none, none])) ?_ ?_
  · (try (with_reducible refine post_letS ?_; intro J))
    (try simp only [↓Ve, ↓Vf, ↓Vs, ↓Vl, ↓YU, ↓Vb, ↓Vu, ↓Ym, ↓Vk, ↓VI, ↓Vh, ↓YD, ↓Vj, ↓Yg, ↓Yy, ↓Ys, ↓Yo, ↓Yp, ↓Ye, Yc, ZA, ZS, Yb, Yr, ZF, Zx, ZD, ZT, ZX, ZO, Yd, YG, ZZ, YT, Yn, ZJ, YL, YK, Vc, Yw, ZU, ZR, YC, ZQ, ZV, ZH, YV, Vq, Vd, Vt, Vi, Vr, Va, Vo, Vg, YY, YJ, Yi, Zm, Zh, Zc, Zb, ZC, Zu, ZB, ZL, ZI, ZM, ZG, ZE, YF, Zz, Zy, Zw, Zt, Zr, Zo, Zv, Zn, Zi, Zp, Zl, Zd, Zk, Ze, Zj, Zf, Zg, Za, Yq, YB, Yv, ZW, Yx, YX, YZ, Vm, YW, Yj, YH, Vp, Vn, Zq, Zs, YM, YE, Yk, Yz, Yl, Yu, YA, Yt, Yh, YI, ZP, ZY, List.cons_append, List.nil_append, Bool.not_true, Bool.not_false, ZN, YS, YR, YQ, YN, Vv, YO, VA, VG, VQ])
    refine spec_cell _ _ _ _ _ (by decide) ?_
    (try simp only [↓Ve, ↓Vf, ↓Vs, ↓Vl, ↓YU, ↓Vb, ↓Vu, ↓Ym, ↓Vk, ↓VI, ↓Vh, ↓YD, ↓Vj, ↓Yg, ↓Yy, ↓Ys, ↓Yo, ↓Yp, ↓Ye, Yc, ZA, ZS, Yb, Yr, ZF, Zx, ZD, ZT, ZX, ZO, Yd, YG, ZZ, YT, Yn, ZJ, YL, YK, Vc, Yw, ZU, ZR, YC, ZQ, ZV, ZH, YV, Vq, Vd, Vt, Vi, Vr, Va, Vo, Vg, YY, YJ, Yi, Zm, Zh, Zc, Zb, ZC, Zu, ZB, ZL, ZI, ZM, ZG, ZE, YF, Zz, Zy, Zw, Zt, Zr, Zo, Zv, Zn, Zi, Zp, Zl, Zd, Zk, Ze, Zj, Zf, Zg, Za, Yq, YB, Yv, ZW, Yx, YX, YZ, Vm, YW, Yj, YH, Vp, Vn, Zq, Zs, YM, YE, Yk, Yz, Yl, Yu, YA, Yt, Yh, YI, ZP, ZY, List.cons_append, List.nil_append, Bool.not_true, Bool.not_false, ZN, YS, YR, YQ, YN, Vv, YO, VA, VG, VQ])
    refine ⟨by decide, by decide, by decide, ?_⟩
    split
    rotate_left
    · exact ⟨List.prefix_refl _, _, _, none, by lia, by lia, sumsL_red B many, sumsL_len B many, rfl⟩
    (with_reducible first | refine Vx ?_ | (refine VC ?_; intro J)); simp only [↓Ve, ↓Vf, ↓Vs, ↓Vl, ↓YU, ↓Vb, ↓Vu, ↓Ym, ↓Vk, ↓VI, ↓Vh, ↓YD, ↓Vj, ↓Yg, ↓Yy, ↓Ys, ↓Yo, ↓Yp, ↓Ye, Yc, ZA, ZS, Yb, Yr, ZF, Zx, ZD, ZT, ZX, ZO, Yd, YG, ZZ, YT, Yn, ZJ, YL, YK, Vc, Yw, ZU, ZR, YC, ZQ, ZV, ZH, YV, Vq, Vd, Vt, Vi, Vr, Va, Vo, Vg, YY, YJ, Yi, Zm, Zh, Zc, Zb, ZC, Zu, ZB, ZL, ZI, ZM, ZG, ZE, YF, Zz, Zy, Zw, Zt, Zr, Zo, Zv, Zn, Zi, Zp, Zl, Zd, Zk, Ze, Zj, Zf, Zg, Za, Yq, YB, Yv, ZW, Yx, YX, YZ, Vm, YW, Yj, YH, Vp, Vn, Zq, Zs, YM, YE, Yk, Yz, Yl, Yu, YA, Yt, Yh, YI, ZP, ZY, List.cons_append, List.nil_append, Bool.not_true, Bool.not_false, ZN, YS, YR, YQ, YN, Vv, YO, VA, VG, VQ]
    refine comp_rmap (VB _ _) (by decide) (by lia) (fun k : Nat => (cell xs 4 + 7919 * (k : Int)) * 48271 % 1000003 % 251) ?_ ?_
    · intro j hj H' hp R hR
      (try simp only [↓Ve, ↓Vf, ↓Vs, ↓Vl, ↓YU, ↓Vb, ↓Vu, ↓Ym, ↓Vk, ↓VI, ↓Vh, ↓YD, ↓Vj, ↓Yg, ↓Yy, ↓Ys, ↓Yo, ↓Yp, ↓Ye, Yc, ZA, ZS, Yb, Yr, ZF, Zx, ZD, ZT, ZX, ZO, Yd, YG, ZZ, YT, Yn, ZJ, YL, YK, Vc, Yw, ZU, ZR, YC, ZQ, ZV, ZH, YV, Vq, Vd, Vt, Vi, Vr, Va, Vo, Vg, YY, YJ, Yi, Zm, Zh, Zc, Zb, ZC, Zu, ZB, ZL, ZI, ZM, ZG, ZE, YF, Zz, Zy, Zw, Zt, Zr, Zo, Zv, Zn, Zi, Zp, Zl, Zd, Zk, Ze, Zj, Zf, Zg, Za, Yq, YB, Yv, ZW, Yx, YX, YZ, Vm, YW, Yj, YH, Vp, Vn, Zq, Zs, YM, YE, Yk, Yz, Yl, Yu, YA, Yt, Yh, YI, ZP, ZY, List.cons_append, List.nil_append, Bool.not_true, Bool.not_false, ZN, YS, YR, YQ, YN, Vv, YO, VA, VG, VQ])
      refine spec_cell _ _ _ _ _ (by decide) ?_
      (try simp only [↓Ve, ↓Vf, ↓Vs, ↓Vl, ↓YU, ↓Vb, ↓Vu, ↓Ym, ↓Vk, ↓VI, ↓Vh, ↓YD, ↓Vj, ↓Yg, ↓Yy, ↓Ys, ↓Yo, ↓Yp, ↓Ye, Yc, ZA, ZS, Yb, Yr, ZF, Zx, ZD, ZT, ZX, ZO, Yd, YG, ZZ, YT, Yn, ZJ, YL, YK, Vc, Yw, ZU, ZR, YC, ZQ, ZV, ZH, YV, Vq, Vd, Vt, Vi, Vr, Va, Vo, Vg, YY, YJ, Yi, Zm, Zh, Zc, Zb, ZC, Zu, ZB, ZL, ZI, ZM, ZG, ZE, YF, Zz, Zy, Zw, Zt, Zr, Zo, Zv, Zn, Zi, Zp, Zl, Zd, Zk, Ze, Zj, Zf, Zg, Za, Yq, YB, Yv, ZW, Yx, YX, YZ, Vm, YW, Yj, YH, Vp, Vn, Zq, Zs, YM, YE, Yk, Yz, Yl, Yu, YA, Yt, Yh, YI, ZP, ZY, List.cons_append, List.nil_append, Bool.not_true, Bool.not_false, ZN, YS, YR, YQ, YN, Vv, YO, VA, VG, VQ])
      refine ⟨.inl ⟨by lia, by lia⟩, .inr ⟨by lia, by lia⟩, by decide, by decide, ?_⟩
      rw [Int.zero_add]
      exact hR _ (List.prefix_refl _)
    intro H5 p5
    rw [show ((many : Int) - 0).toNat = many by lia, show ((List.range many).map fun k : Nat => (cell xs 4 + 7919 * (k : Int)) * 48271 % 1000003 % 251) = freeL (cell xs 4) many from rfl]
    (try simp only [↓Ve, ↓Vf, ↓Vs, ↓Vl, ↓YU, ↓Vb, ↓Vu, ↓Ym, ↓Vk, ↓VI, ↓Vh, ↓YD, ↓Vj, ↓Yg, ↓Yy, ↓Ys, ↓Yo, ↓Yp, ↓Ye, Yc, ZA, ZS, Yb, Yr, ZF, Zx, ZD, ZT, ZX, ZO, Yd, YG, ZZ, YT, Yn, ZJ, YL, YK, Vc, Yw, ZU, ZR, YC, ZQ, ZV, ZH, YV, Vq, Vd, Vt, Vi, Vr, Va, Vo, Vg, YY, YJ, Yi, Zm, Zh, Zc, Zb, ZC, Zu, ZB, ZL, ZI, ZM, ZG, ZE, YF, Zz, Zy, Zw, Zt, Zr, Zo, Zv, Zn, Zi, Zp, Zl, Zd, Zk, Ze, Zj, Zf, Zg, Za, Yq, YB, Yv, ZW, Yx, YX, YZ, Vm, YW, Yj, YH, Vp, Vn, Zq, Zs, YM, YE, Yk, Yz, Yl, Yu, YA, Yt, Yh, YI, ZP, ZY, List.cons_append, List.nil_append, Bool.not_true, Bool.not_false, ZN, YS, YR, YQ, YN, Vv, YO, VA, VG, VQ])
    (with_reducible first | refine Vx ?_ | (refine VC ?_; intro J)); simp only [↓Ve, ↓Vf, ↓Vs, ↓Vl, ↓YU, ↓Vb, ↓Vu, ↓Ym, ↓Vk, ↓VI, ↓Vh, ↓YD, ↓Vj, ↓Yg, ↓Yy, ↓Ys, ↓Yo, ↓Yp, ↓Ye, Yc, ZA, ZS, Yb, Yr, ZF, Zx, ZD, ZT, ZX, ZO, Yd, YG, ZZ, YT, Yn, ZJ, YL, YK, Vc, Yw, ZU, ZR, YC, ZQ, ZV, ZH, YV, Vq, Vd, Vt, Vi, Vr, Va, Vo, Vg, YY, YJ, Yi, Zm, Zh, Zc, Zb, ZC, Zu, ZB, ZL, ZI, ZM, ZG, ZE, YF, Zz, Zy, Zw, Zt, Zr, Zo, Zv, Zn, Zi, Zp, Zl, Zd, Zk, Ze, Zj, Zf, Zg, Za, Yq, YB, Yv, ZW, Yx, YX, YZ, Vm, YW, Yj, YH, Vp, Vn, Zq, Zs, YM, YE, Yk, Yz, Yl, Yu, YA, Yt, Yh, YI, ZP, ZY, List.cons_append, List.nil_append, Bool.not_true, Bool.not_false, ZN, YS, YR, YQ, YN, Vv, YO, VA, VG, VQ, VH (get_old (G := [zl (freeL (cell xs 4) many)]) (Vz p5 a4)), VR]
    refine spec_cell _ _ _ _ _ (by decide) ?_
    (try simp only [↓Ve, ↓Vf, ↓Vs, ↓Vl, ↓YU, ↓Vb, ↓Vu, ↓Ym, ↓Vk, ↓VI, ↓Vh, ↓YD, ↓Vj, ↓Yg, ↓Yy, ↓Ys, ↓Yo, ↓Yp, ↓Ye, Yc, ZA, ZS, Yb, Yr, ZF, Zx, ZD, ZT, ZX, ZO, Yd, YG, ZZ, YT, Yn, ZJ, YL, YK, Vc, Yw, ZU, ZR, YC, ZQ, ZV, ZH, YV, Vq, Vd, Vt, Vi, Vr, Va, Vo, Vg, YY, YJ, Yi, Zm, Zh, Zc, Zb, ZC, Zu, ZB, ZL, ZI, ZM, ZG, ZE, YF, Zz, Zy, Zw, Zt, Zr, Zo, Zv, Zn, Zi, Zp, Zl, Zd, Zk, Ze, Zj, Zf, Zg, Za, Yq, YB, Yv, ZW, Yx, YX, YZ, Vm, YW, Yj, YH, Vp, Vn, Zq, Zs, YM, YE, Yk, Yz, Yl, Yu, YA, Yt, Yh, YI, ZP, ZY, List.cons_append, List.nil_append, Bool.not_true, Bool.not_false, ZN, YS, YR, YQ, YN, Vv, YO, VA, VG, VQ])
    refine ⟨by decide, withL_of VP ?_⟩
    exact ⟨pre_app p5, _, _, _, by split <;> lia, by split <;> lia, freeL_red _ _, freeL_len _ _, rfl⟩
  rintro m' H5 ⟨p5, c, S, t5, c0, c1, rS, lS, rfl⟩
  (try (with_reducible (first | refine Vy ?_ | refine Vw ?_); intro J))
  have a5 := Vz p5 a4
  (with_reducible first | refine Vx ?_ | (refine VC ?_; intro J)); simp only [↓Ve, ↓Vf, ↓Vs, ↓Vl, ↓YU, ↓Vb, ↓Vu, ↓Ym, ↓Vk, ↓VI, ↓Vh, ↓YD, ↓Vj, ↓Yg, ↓Yy, ↓Ys, ↓Yo, ↓Yp, ↓Ye, Yc, ZA, ZS, Yb, Yr, ZF, Zx, ZD, ZT, ZX, ZO, Yd, YG, ZZ, YT, Yn, ZJ, YL, YK, Vc, Yw, ZU, ZR, YC, ZQ, ZV, ZH, YV, Vq, Vd, Vt, Vi, Vr, Va, Vo, Vg, YY, YJ, Yi, Zm, Zh, Zc, Zb, ZC, Zu, ZB, ZL, ZI, ZM, ZG, ZE, YF, Zz, Zy, Zw, Zt, Zr, Zo, Zv, Zn, Zi, Zp, Zl, Zd, Zk, Ze, Zj, Zf, Zg, Za, Yq, YB, Yv, ZW, Yx, YX, YZ, Vm, YW, Yj, YH, Vp, Vn, Zq, Zs, YM, YE, Yk, Yz, Yl, Yu, YA, Yt, Yh, YI, ZP, ZY, List.cons_append, List.nil_append, Bool.not_true, Bool.not_false, ZN, YS, YR, YQ, YN, Vv, YO, VA, VG, VQ, VH a5]
  have g6 : (H5 ++ [zl A])[H5.length]? = some (zl A) := VP
  have a6 := get_old (G := [zl A]) a5
  generalize H5 ++ [zl A] = H6 at *
  generalize H5.length = k6 at *
  (with_reducible first | refine Vx ?_ | (refine VC ?_; intro J)); simp only [↓Ve, ↓Vf, ↓Vs, ↓Vl, ↓YU, ↓Vb, ↓Vu, ↓Ym, ↓Vk, ↓VI, ↓Vh, ↓YD, ↓Vj, ↓Yg, ↓Yy, ↓Ys, ↓Yo, ↓Yp, ↓Ye, Yc, ZA, ZS, Yb, Yr, ZF, Zx, ZD, ZT, ZX, ZO, Yd, YG, ZZ, YT, Yn, ZJ, YL, YK, Vc, Yw, ZU, ZR, YC, ZQ, ZV, ZH, YV, Vq, Vd, Vt, Vi, Vr, Va, Vo, Vg, YY, YJ, Yi, Zm, Zh, Zc, Zb, ZC, Zu, ZB, ZL, ZI, ZM, ZG, ZE, YF, Zz, Zy, Zw, Zt, Zr, Zo, Zv, Zn, Zi, Zp, Zl, Zd, Zk, Ze, Zj, Zf, Zg, Za, Yq, YB, Yv, ZW, Yx, YX, YZ, Vm, YW, Yj, YH, Vp, Vn, Zq, Zs, YM, YE, Yk, Yz, Yl, Yu, YA, Yt, Yh, YI, ZP, ZY, List.cons_append, List.nil_append, Bool.not_true, Bool.not_false, ZN, YS, YR, YQ, YN, Vv, YO, VA, VG, VQ]
  refine spec_learnt _ _ A S c _ _ g6 nA dA (by lia) c0 c1 rS (by lia) (by lia) (fun H7 p7 hn => ?_) fun i j L O H7 p7 li lj hne gi gj hf huni => ?_
  · have a7 := Vz p7 a6
    (try simp only [↓Ve, ↓Vf, ↓Vs, ↓Vl, ↓YU, ↓Vb, ↓Vu, ↓Ym, ↓Vk, ↓VI, ↓Vh, ↓YD, ↓Vj, ↓Yg, ↓Yy, ↓Ys, ↓Yo, ↓Yp, ↓Ye, Yc, ZA, ZS, Yb, Yr, ZF, Zx, ZD, ZT, ZX, ZO, Yd, YG, ZZ, YT, Yn, ZJ, YL, YK, Vc, Yw, ZU, ZR, YC, ZQ, ZV, ZH, YV, Vq, Vd, Vt, Vi, Vr, Va, Vo, Vg, YY, YJ, Yi, Zm, Zh, Zc, Zb, ZC, Zu, ZB, ZL, ZI, ZM, ZG, ZE, YF, Zz, Zy, Zw, Zt, Zr, Zo, Zv, Zn, Zi, Zp, Zl, Zd, Zk, Ze, Zj, Zf, Zg, Za, Yq, YB, Yv, ZW, Yx, YX, YZ, Vm, YW, Yj, YH, Vp, Vn, Zq, Zs, YM, YE, Yk, Yz, Yl, Yu, YA, Yt, Yh, YI, ZP, ZY, List.cons_append, List.nil_append, Bool.not_true, Bool.not_false, ZN, YS, YR, YQ, YN, Vv, YO, VA, VG, VQ])
    (with_reducible first | refine Vx ?_ | (refine VC ?_; intro J)); simp only [↓Ve, ↓Vf, ↓Vs, ↓Vl, ↓YU, ↓Vb, ↓Vu, ↓Ym, ↓Vk, ↓VI, ↓Vh, ↓YD, ↓Vj, ↓Yg, ↓Yy, ↓Ys, ↓Yo, ↓Yp, ↓Ye, Yc, ZA, ZS, Yb, Yr, ZF, Zx, ZD, ZT, ZX, ZO, Yd, YG, ZZ, YT, Yn, ZJ, YL, YK, Vc, Yw, ZU, ZR, YC, ZQ, ZV, ZH, YV, Vq, Vd, Vt, Vi, Vr, Va, Vo, Vg, YY, YJ, Yi, Zm, Zh, Zc, Zb, ZC, Zu, ZB, ZL, ZI, ZM, ZG, ZE, YF, Zz, Zy, Zw, Zt, Zr, Zo, Zv, Zn, Zi, Zp, Zl, Zd, Zk, Ze, Zj, Zf, Zg, Za, Yq, YB, Yv, ZW, Yx, YX, YZ, Vm, YW, Yj, YH, Vp, Vn, Zq, Zs, YM, YE, Yk, Yz, Yl, Yu, YA, Yt, Yh, YI, ZP, ZY, List.cons_append, List.nil_append, Bool.not_true, Bool.not_false, ZN, YS, YR, YQ, YN, Vv, YO, VA, VG, VQ]
    refine spec_rests _ _ _ A A _ _ (Vz p7 g6) a7 (by lia) ?_
    rw [decide_eq_true rfl]
    (try simp only [↓Ve, ↓Vf, ↓Vs, ↓Vl, ↓YU, ↓Vb, ↓Vu, ↓Ym, ↓Vk, ↓VI, ↓Vh, ↓YD, ↓Vj, ↓Yg, ↓Yy, ↓Ys, ↓Yo, ↓Yp, ↓Ye, Yc, ZA, ZS, Yb, Yr, ZF, Zx, ZD, ZT, ZX, ZO, Yd, YG, ZZ, YT, Yn, ZJ, YL, YK, Vc, Yw, ZU, ZR, YC, ZQ, ZV, ZH, YV, Vq, Vd, Vt, Vi, Vr, Va, Vo, Vg, YY, YJ, Yi, Zm, Zh, Zc, Zb, ZC, Zu, ZB, ZL, ZI, ZM, ZG, ZE, YF, Zz, Zy, Zw, Zt, Zr, Zo, Zv, Zn, Zi, Zp, Zl, Zd, Zk, Ze, Zj, Zf, Zg, Za, Yq, YB, Yv, ZW, Yx, YX, YZ, Vm, YW, Yj, YH, Vp, Vn, Zq, Zs, YM, YE, Yk, Yz, Yl, Yu, YA, Yt, Yh, YI, ZP, ZY, List.cons_append, List.nil_append, Bool.not_true, Bool.not_false, ZN, YS, YR, YQ, YN, Vv, YO, VA, VG, VQ])
    (with_reducible first | refine Vx ?_ | (refine VC ?_; intro J)); simp only [↓Ve, ↓Vf, ↓Vs, ↓Vl, ↓YU, ↓Vb, ↓Vu, ↓Ym, ↓Vk, ↓VI, ↓Vh, ↓YD, ↓Vj, ↓Yg, ↓Yy, ↓Ys, ↓Yo, ↓Yp, ↓Ye, Yc, ZA, ZS, Yb, Yr, ZF, Zx, ZD, ZT, ZX, ZO, Yd, YG, ZZ, YT, Yn, ZJ, YL, YK, Vc, Yw, ZU, ZR, YC, ZQ, ZV, ZH, YV, Vq, Vd, Vt, Vi, Vr, Va, Vo, Vg, YY, YJ, Yi, Zm, Zh, Zc, Zb, ZC, Zu, ZB, ZL, ZI, ZM, ZG, ZE, YF, Zz, Zy, Zw, Zt, Zr, Zo, Zv, Zn, Zi, Zp, Zl, Zd, Zk, Ze, Zj, Zf, Zg, Za, Yq, YB, Yv, ZW, Yx, YX, YZ, Vm, YW, Yj, YH, Vp, Vn, Zq, Zs, YM, YE, Yk, Yz, Yl, Yu, YA, Yt, Yh, YI, ZP, ZY, List.cons_append, List.nil_append, Bool.not_true, Bool.not_false, ZN, YS, YR, YQ, YN, Vv, YO, VA, VG, VQ]
    refine ⟨rfl, ?_⟩
    (with_reducible first | refine Vx ?_ | (refine VC ?_; intro J)); simp only [↓Ve, ↓Vf, ↓Vs, ↓Vl, ↓YU, ↓Vb, ↓Vu, ↓Ym, ↓Vk, ↓VI, ↓Vh, ↓YD, ↓Vj, ↓Yg, ↓Yy, ↓Ys, ↓Yo, ↓Yp, ↓Ye, Yc, ZA, ZS, Yb, Yr, ZF, Zx, ZD, ZT, ZX, ZO, Yd, YG, ZZ, YT, Yn, ZJ, YL, YK, Vc, Yw, ZU, ZR, YC, ZQ, ZV, ZH, YV, Vq, Vd, Vt, Vi, Vr, Va, Vo, Vg, YY, YJ, Yi, Zm, Zh, Zc, Zb, ZC, Zu, ZB, ZL, ZI, ZM, ZG, ZE, YF, Zz, Zy, Zw, Zt, Zr, Zo, Zv, Zn, Zi, Zp, Zl, Zd, Zk, Ze, Zj, Zf, Zg, Za, Yq, YB, Yv, ZW, Yx, YX, YZ, Vm, YW, Yj, YH, Vp, Vn, Zq, Zs, YM, YE, Yk, Yz, Yl, Yu, YA, Yt, Yh, YI, ZP, ZY, List.cons_append, List.nil_append, Bool.not_true, Bool.not_false, ZN, YS, YR, YQ, YN, Vv, YO, VA, VG, VQ]
    split
    · (with_reducible first | refine Vx ?_ | (refine VC ?_; intro J)); simp only [↓Ve, ↓Vf, ↓Vs, ↓Vl, ↓YU, ↓Vb, ↓Vu, ↓Ym, ↓Vk, ↓VI, ↓Vh, ↓YD, ↓Vj, ↓Yg, ↓Yy, ↓Ys, ↓Yo, ↓Yp, ↓Ye, Yc, ZA, ZS, Yb, Yr, ZF, Zx, ZD, ZT, ZX, ZO, Yd, YG, ZZ, YT, Yn, ZJ, YL, YK, Vc, Yw, ZU, ZR, YC, ZQ, ZV, ZH, YV, Vq, Vd, Vt, Vi, Vr, Va, Vo, Vg, YY, YJ, Yi, Zm, Zh, Zc, Zb, ZC, Zu, ZB, ZL, ZI, ZM, ZG, ZE, YF, Zz, Zy, Zw, Zt, Zr, Zo, Zv, Zn, Zi, Zp, Zl, Zd, Zk, Ze, Zj, Zf, Zg, Za, Yq, YB, Yv, ZW, Yx, YX, YZ, Vm, YW, Yj, YH, Vp, Vn, Zq, Zs, YM, YE, Yk, Yz, Yl, Yu, YA, Yt, Yh, YI, ZP, ZY, List.cons_append, List.nil_append, Bool.not_true, Bool.not_false, ZN, YS, YR, YQ, YN, Vv, YO, VA, VG, VQ]
      refine spec_one_does _ _ A S c _ _ a7 nA dA rS (by lia) hn fun H8 p8 => ?_
      (try simp only [↓Ve, ↓Vf, ↓Vs, ↓Vl, ↓YU, ↓Vb, ↓Vu, ↓Ym, ↓Vk, ↓VI, ↓Vh, ↓YD, ↓Vj, ↓Yg, ↓Yy, ↓Ys, ↓Yo, ↓Yp, ↓Ye, Yc, ZA, ZS, Yb, Yr, ZF, Zx, ZD, ZT, ZX, ZO, Yd, YG, ZZ, YT, Yn, ZJ, YL, YK, Vc, Yw, ZU, ZR, YC, ZQ, ZV, ZH, YV, Vq, Vd, Vt, Vi, Vr, Va, Vo, Vg, YY, YJ, Yi, Zm, Zh, Zc, Zb, ZC, Zu, ZB, ZL, ZI, ZM, ZG, ZE, YF, Zz, Zy, Zw, Zt, Zr, Zo, Zv, Zn, Zi, Zp, Zl, Zd, Zk, Ze, Zj, Zf, Zg, Za, Yq, YB, Yv, ZW, Yx, YX, YZ, Vm, YW, Yj, YH, Vp, Vn, Zq, Zs, YM, YE, Yk, Yz, Yl, Yu, YA, Yt, Yh, YI, ZP, ZY, List.cons_append, List.nil_append, Bool.not_true, Bool.not_false, ZN, YS, YR, YQ, YN, Vv, YO, VA, VG, VQ])
    rename_i n1
    (with_reducible first | refine Vx ?_ | (refine VC ?_; intro J)); simp only [↓Ve, ↓Vf, ↓Vs, ↓Vl, ↓YU, ↓Vb, ↓Vu, ↓Ym, ↓Vk, ↓VI, ↓Vh, ↓YD, ↓Vj, ↓Yg, ↓Yy, ↓Ys, ↓Yo, ↓Yp, ↓Ye, Yc, ZA, ZS, Yb, Yr, ZF, Zx, ZD, ZT, ZX, ZO, Yd, YG, ZZ, YT, Yn, ZJ, YL, YK, Vc, Yw, ZU, ZR, YC, ZQ, ZV, ZH, YV, Vq, Vd, Vt, Vi, Vr, Va, Vo, Vg, YY, YJ, Yi, Zm, Zh, Zc, Zb, ZC, Zu, ZB, ZL, ZI, ZM, ZG, ZE, YF, Zz, Zy, Zw, Zt, Zr, Zo, Zv, Zn, Zi, Zp, Zl, Zd, Zk, Ze, Zj, Zf, Zg, Za, Yq, YB, Yv, ZW, Yx, YX, YZ, Vm, YW, Yj, YH, Vp, Vn, Zq, Zs, YM, YE, Yk, Yz, Yl, Yu, YA, Yt, Yh, YI, ZP, ZY, List.cons_append, List.nil_append, Bool.not_true, Bool.not_false, ZN, YS, YR, YQ, YN, Vv, YO, VA, VG, VQ]
    split
    · rename_i n2
      rw [decide_eq_true n2]
    rename_i n2
    refine Wa (by decide) rfl ?_
    (try simp only [↓Ve, ↓Vf, ↓Vs, ↓Vl, ↓YU, ↓Vb, ↓Vu, ↓Ym, ↓Vk, ↓VI, ↓Vh, ↓YD, ↓Vj, ↓Yg, ↓Yy, ↓Ys, ↓Yo, ↓Yp, ↓Ye, Yc, ZA, ZS, Yb, Yr, ZF, Zx, ZD, ZT, ZX, ZO, Yd, YG, ZZ, YT, Yn, ZJ, YL, YK, Vc, Yw, ZU, ZR, YC, ZQ, ZV, ZH, YV, Vq, Vd, Vt, Vi, Vr, Va, Vo, Vg, YY, YJ, Yi, Zm, Zh, Zc, Zb, ZC, Zu, ZB, ZL, ZI, ZM, ZG, ZE, YF, Zz, Zy, Zw, Zt, Zr, Zo, Zv, Zn, Zi, Zp, Zl, Zd, Zk, Ze, Zj, Zf, Zg, Za, Yq, YB, Yv, ZW, Yx, YX, YZ, Vm, YW, Yj, YH, Vp, Vn, Zq, Zs, YM, YE, Yk, Yz, Yl, Yu, YA, Yt, Yh, YI, ZP, ZY, List.cons_append, List.nil_append, Bool.not_true, Bool.not_false, ZN, YS, YR, YQ, YN, Vv, YO, VA, VG, VQ, VH a7, VR])
    split
    rotate_left
    · rename_i n3; rw [decide_eq_false n3]; rfl
    rename_i n3
    refine spec_two_do _ _ A S c _ _ a7 nA dA rS (by lia) n3 hn fun H8 p8 => ?_
    (try simp only [↓Ve, ↓Vf, ↓Vs, ↓Vl, ↓YU, ↓Vb, ↓Vu, ↓Ym, ↓Vk, ↓VI, ↓Vh, ↓YD, ↓Vj, ↓Yg, ↓Yy, ↓Ys, ↓Yo, ↓Yp, ↓Ye, Yc, ZA, ZS, Yb, Yr, ZF, Zx, ZD, ZT, ZX, ZO, Yd, YG, ZZ, YT, Yn, ZJ, YL, YK, Vc, Yw, ZU, ZR, YC, ZQ, ZV, ZH, YV, Vq, Vd, Vt, Vi, Vr, Va, Vo, Vg, YY, YJ, Yi, Zm, Zh, Zc, Zb, ZC, Zu, ZB, ZL, ZI, ZM, ZG, ZE, YF, Zz, Zy, Zw, Zt, Zr, Zo, Zv, Zn, Zi, Zp, Zl, Zd, Zk, Ze, Zj, Zf, Zg, Za, Yq, YB, Yv, ZW, Yx, YX, YZ, Vm, YW, Yj, YH, Vp, Vn, Zq, Zs, YM, YE, Yk, Yz, Yl, Yu, YA, Yt, Yh, YI, ZP, ZY, List.cons_append, List.nil_append, Bool.not_true, Bool.not_false, ZN, YS, YR, YQ, YN, Vv, YO, VA, VG, VQ])
  · have a7 := Vz p7 a6
    (try simp only [↓Ve, ↓Vf, ↓Vs, ↓Vl, ↓YU, ↓Vb, ↓Vu, ↓Ym, ↓Vk, ↓VI, ↓Vh, ↓YD, ↓Vj, ↓Yg, ↓Yy, ↓Ys, ↓Yo, ↓Yp, ↓Ye, Yc, ZA, ZS, Yb, Yr, ZF, Zx, ZD, ZT, ZX, ZO, Yd, YG, ZZ, YT, Yn, ZJ, YL, YK, Vc, Yw, ZU, ZR, YC, ZQ, ZV, ZH, YV, Vq, Vd, Vt, Vi, Vr, Va, Vo, Vg, YY, YJ, Yi, Zm, Zh, Zc, Zb, ZC, Zu, ZB, ZL, ZI, ZM, ZG, ZE, YF, Zz, Zy, Zw, Zt, Zr, Zo, Zv, Zn, Zi, Zp, Zl, Zd, Zk, Ze, Zj, Zf, Zg, Za, Yq, YB, Yv, ZW, Yx, YX, YZ, Vm, YW, Yj, YH, Vp, Vn, Zq, Zs, YM, YE, Yk, Yz, Yl, Yu, YA, Yt, Yh, YI, ZP, ZY, List.cons_append, List.nil_append, Bool.not_true, Bool.not_false, ZN, YS, YR, YQ, YN, Vv, YO, VA, VG, VQ])
    (with_reducible first | refine Vx ?_ | (refine VC ?_; intro J)); simp only [↓Ve, ↓Vf, ↓Vs, ↓Vl, ↓YU, ↓Vb, ↓Vu, ↓Ym, ↓Vk, ↓VI, ↓Vh, ↓YD, ↓Vj, ↓Yg, ↓Yy, ↓Ys, ↓Yo, ↓Yp, ↓Ye, Yc, ZA, ZS, Yb, Yr, ZF, Zx, ZD, ZT, ZX, ZO, Yd, YG, ZZ, YT, Yn, ZJ, YL, YK, Vc, Yw, ZU, ZR, YC, ZQ, ZV, ZH, YV, Vq, Vd, Vt, Vi, Vr, Va, Vo, Vg, YY, YJ, Yi, Zm, Zh, Zc, Zb, ZC, Zu, ZB, ZL, ZI, ZM, ZG, ZE, YF, Zz, Zy, Zw, Zt, Zr, Zo, Zv, Zn, Zi, Zp, Zl, Zd, Zk, Ze, Zj, Zf, Zg, Za, Yq, YB, Yv, ZW, Yx, YX, YZ, Vm, YW, Yj, YH, Vp, Vn, Zq, Zs, YM, YE, Yk, Yz, Yl, Yu, YA, Yt, Yh, YI, ZP, ZY, List.cons_append, List.nil_append, Bool.not_true, Bool.not_false, ZN, YS, YR, YQ, YN, Vv, YO, VA, VG, VQ]
    refine spec_rests _ _ _ A A _ _ (Vz p7 g6) a7 (by lia) ?_
    rw [decide_eq_true rfl]
    (try simp only [↓Ve, ↓Vf, ↓Vs, ↓Vl, ↓YU, ↓Vb, ↓Vu, ↓Ym, ↓Vk, ↓VI, ↓Vh, ↓YD, ↓Vj, ↓Yg, ↓Yy, ↓Ys, ↓Yo, ↓Yp, ↓Ye, Yc, ZA, ZS, Yb, Yr, ZF, Zx, ZD, ZT, ZX, ZO, Yd, YG, ZZ, YT, Yn, ZJ, YL, YK, Vc, Yw, ZU, ZR, YC, ZQ, ZV, ZH, YV, Vq, Vd, Vt, Vi, Vr, Va, Vo, Vg, YY, YJ, Yi, Zm, Zh, Zc, Zb, ZC, Zu, ZB, ZL, ZI, ZM, ZG, ZE, YF, Zz, Zy, Zw, Zt, Zr, Zo, Zv, Zn, Zi, Zp, Zl, Zd, Zk, Ze, Zj, Zf, Zg, Za, Yq, YB, Yv, ZW, Yx, YX, YZ, Vm, YW, Yj, YH, Vp, Vn, Zq, Zs, YM, YE, Yk, Yz, Yl, Yu, YA, Yt, Yh, YI, ZP, ZY, List.cons_append, List.nil_append, Bool.not_true, Bool.not_false, ZN, YS, YR, YQ, YN, Vv, YO, VA, VG, VQ])
    (with_reducible first | refine Vx ?_ | (refine VC ?_; intro J)); simp only [↓Ve, ↓Vf, ↓Vs, ↓Vl, ↓YU, ↓Vb, ↓Vu, ↓Ym, ↓Vk, ↓VI, ↓Vh, ↓YD, ↓Vj, ↓Yg, ↓Yy, ↓Ys, ↓Yo, ↓Yp, ↓Ye, Yc, ZA, ZS, Yb, Yr, ZF, Zx, ZD, ZT, ZX, ZO, Yd, YG, ZZ, YT, Yn, ZJ, YL, YK, Vc, Yw, ZU, ZR, YC, ZQ, ZV, ZH, YV, Vq, Vd, Vt, Vi, Vr, Va, Vo, Vg, YY, YJ, Yi, Zm, Zh, Zc, Zb, ZC, Zu, ZB, ZL, ZI, ZM, ZG, ZE, YF, Zz, Zy, Zw, Zt, Zr, Zo, Zv, Zn, Zi, Zp, Zl, Zd, Zk, Ze, Zj, Zf, Zg, Za, Yq, YB, Yv, ZW, Yx, YX, YZ, Vm, YW, Yj, YH, Vp, Vn, Zq, Zs, YM, YE, Yk, Yz, Yl, Yu, YA, Yt, Yh, YI, ZP, ZY, List.cons_append, List.nil_append, Bool.not_true, Bool.not_false, ZN, YS, YR, YQ, YN, Vv, YO, VA, VG, VQ]
    refine ⟨rfl, ?_⟩
    (with_reducible first | refine Vx ?_ | (refine VC ?_; intro J)); simp only [↓Ve, ↓Vf, ↓Vs, ↓Vl, ↓YU, ↓Vb, ↓Vu, ↓Ym, ↓Vk, ↓VI, ↓Vh, ↓YD, ↓Vj, ↓Yg, ↓Yy, ↓Ys, ↓Yo, ↓Yp, ↓Ye, Yc, ZA, ZS, Yb, Yr, ZF, Zx, ZD, ZT, ZX, ZO, Yd, YG, ZZ, YT, Yn, ZJ, YL, YK, Vc, Yw, ZU, ZR, YC, ZQ, ZV, ZH, YV, Vq, Vd, Vt, Vi, Vr, Va, Vo, Vg, YY, YJ, Yi, Zm, Zh, Zc, Zb, ZC, Zu, ZB, ZL, ZI, ZM, ZG, ZE, YF, Zz, Zy, Zw, Zt, Zr, Zo, Zv, Zn, Zi, Zp, Zl, Zd, Zk, Ze, Zj, Zf, Zg, Za, Yq, YB, Yv, ZW, Yx, YX, YZ, Vm, YW, Yj, YH, Vp, Vn, Zq, Zs, YM, YE, Yk, Yz, Yl, Yu, YA, Yt, Yh, YI, ZP, ZY, List.cons_append, List.nil_append, Bool.not_true, Bool.not_false, ZN, YS, YR, YQ, YN, Vv, YO, VA, VG, VQ]
    exact spec_holds _ _ _ _ A S L O c _ _ a7 gi gj nA (by lia) (by lia) hf fun H8 p8 => rfl
end Mine

namespace Mine
open PySem PySem.W PyProof.Rows
noncomputable def vw : Program := view PySem.Challenge.pw_uf060012_12 [1, 2, 3, 4, 6, 7, 8, 9, 10, 11, 13, 14, 16, 17, 18, 20, 21, 22, 23, 24, 26, 27, 28, 30, 31, 32, 33, 34, 35, 36, 37, 38, 39, 40, 41]
theorem def_some : (defOf vw (Str.ofString "law")).isSome = true := by decide +kernel
noncomputable def dk : DefRec × List (Str × Expr) := (defOf vw (Str.ofString "law")).get def_some
theorem left : LeftO PySem.Challenge.rw_uf060012_12.row.prog vw [] (fun s => xlAt vw [] s && recOk (RowW.records (OpenRow.toRowW PySem.Challenge.rw_uf060012_12.row)) s) (Hook.obs Hook.none) (Hook.val Hook.none) 3270 := fun w => by kernel_rfl
theorem dk_name : dk.1.name = Str.ofString "law" := by kernel_rfl
end Mine
open PySem PySem.W PyProof.Rows
set_option maxRecDepth 100000 in
set_option maxHeartbeats 8000000 in
theorem PySem.Challenge.cw_uf060012_12_holds : PySem.Challenge.rw_uf060012_12.Holds := by
  refine holds_law (by decide +kernel) fun said => ?_
  refine W.holds_open (q := Mine.vw) (loose := []) (Xt := fun s => xlAt Mine.vw [] s && recOk (RowW.records (OpenRow.toRowW PySem.Challenge.rw_uf060012_12.row)) s) (XP := XL Mine.vw []) (Yf := Hook.obs Hook.none) (Ya := Hook.val Hook.none) (YP := Hook.says Hook.none) (d := Mine.dk.1) (kwd := Mine.dk.2) (N := 3270) Mine.left (Hook.of Hook.none) (Hook.keeps Hook.none) (fun s e => xl_of s (Bool.and_eq_true_iff.mp e).1) XL.keeps (by kernel_rfl) (by kernel_rfl) (by kernel_rfl) (fun s e => recFacts_of (Bool.and_eq_true_iff.mp e).2) (by kernel_rfl) (by first | assumption | decide +kernel) (by decide +kernel) ⟨rfl, rfl, rfl, rfl, rfl, by decide +kernel⟩ ?hw ?hc
  case hw => w_witness2
  intro w s₀ s₁ mg mb G Y fa o pm cd doc dV kV ho hd hcd hD hmg hg args vals as hpre hlay hrd hwl hlo
  refine Ground.open G ?_
  intro T B D TE TW
  have MG : Mine.Ground s₁.heap Mine.D12 Mine.T mg mb := Mine.ground_of T (by kernel_rfl) (by kernel_rfl) (by kernel_rfl) (by kernel_rfl)
  rw [Mine.dk_name] at hmg
  clear Y G ho hd hcd hD TE TW D B T
  wrow_args hpre hlay hrd hwl hlo
  rename s₁.heap.IsList _ _ => hL
  rename IntsAre _ _ => hI
  refine Mine.at_top MG (fun _ _ h => by cases h) (fun _ _ hA _ => Mine.zip_sound MG hA) (f := "law") (k := 61) (n := 50) rfl hmg hL hI (by omega) (by decide) hg (raisesW_false (by wrow_none_raised)) ?_ (Mine.main12 _ (by omega))
  wrow_post
