import PyProof.Rows.All
import Wide.All
import Open.Line
import Wide.FinOn
import PySem.Syntax
import PySem.PyData
import PyProof.P3Statements
import PyProof.ReprReads
import PyProof.Rules3
import PyProof.Cells
import PyProof.DefCall
import PyProof.CompFree
import PyProof.WalksMore
import PyProof.Rows.TupIn
import PyProof.Rows.IntRules
import PyProof.Rows.RuleB_mul
import PyProof.Rows.RuleB_floordiv
import PyProof.Rows.RuleB_mod
import PyProof.Rows.RuleB_sub
import PyProof.Rows.RuleB_pow
import PyProof.Rows.RuleC_int
import PyProof.Rows.RuleU_int
import PyProof.Rows.RuleN_abs
import PyProof.Rows.StrTemp
import PyProof.Rows.Tup
import PyProof.Rows.TupSub
import PyProof.ListIndexNeg
import PyProof.SliceList
import PyProof.ListOps
import PyProof.ListMulAny
import PyProof.ListMulRoad
import PyProof.WalkInts
import PyProof.Methods
import PyProof.TupleOps
import PyProof.EqAt
import PyProof.IsiPairs
import PyProof.IsiNone
import PyProof.IsiHeapPairs
import PyProof.StrBlock
import PyProof.Rows.TupAdd
import PyProof.EqLayable
import PyProof.Rows.StrRules
import PyProof.Rows.SortShell
import PyProof.ListCopy
import PyProof.TupleOfSeq
import PyProof.Rows.SumAny
import PyProof.Rows.SetFrom
import PyProof.Rows.SortWalk
import PyProof.SliceMore
import PyProof.SetRoads
import PyProof.ReprRoads
import PyProof.CallStr
import PyProof.Rows.Chain
import PyProof.Rows.Nodes
import PyProof.CallType
import PyProof.CallRoads
import PyProof.ForRange
import PyProof.RangeIter
import PyProof.CollectWalk
import PyProof.RangeFor
import PyProof.EnumMake
import PyProof.EnumStmt
import PyProof.EnumFor
import PyProof.ForAny
import PyProof.ForAppend
import KE.KRevIter
import PyProof.Rows.GenSrcRange
import PyProof.CompMap
import PyProof.SliceSyntax
import PyProof.Rows.TupMore
import PyProof.DictDisplay
import PyProof.DictKinds
import PyProof.Rows.TupAssign
import PyProof.CompUse
import PyProof.ZipIter
import PyProof.TupleIter
import KE.KLcPair
import PyProof.StationsW
import OpenK.KCall
import PyProof.Rows.TopTwo
import PyProof.Rows.RuleN_isinstance
import PyProof.ExcAttrAll.ValueError
import PyProof.ExcBaseAll.ValueError
import PyProof.ExcArgsOwn
import PyProof.IsiBase
import PyProof.StrBlockL
import PyProof.StrBlock2
import PyProof.Conv_int_bool
import PyProof.RulesAs
import PyProof.FitsInt
import PyProof.ExcQuiet
import Lean
import PySem.Challenge.RW_uf060012_07
set_option Elab.async false
set_option tactic.hygienic false
set_option linter.all false
set_option genSizeOf false
set_option genInjectivity false
open PySem
namespace Mine
/-! ## props of many parts -/
inductive Ex2 {α0 α1 : Type} (p : α0 → α1 → Prop) : Prop where
  | mk (x0 : α0) (x1 : α1) (h : p x0 x1) : Ex2 p
inductive Ex3 {α0 α1 α2 : Type} (p : α0 → α1 → α2 → Prop) : Prop where
  | mk (x0 : α0) (x1 : α1) (x2 : α2) (h : p x0 x1 x2) : Ex3 p
inductive Ex4 {α0 α1 α2 α3 : Type} (p : α0 → α1 → α2 → α3 → Prop) : Prop where
  | mk (x0 : α0) (x1 : α1) (x2 : α2) (x3 : α3) (h : p x0 x1 x2 x3) : Ex4 p
inductive Ex5 {α0 α1 α2 α3 α4 : Type} (p : α0 → α1 → α2 → α3 → α4 → Prop) : Prop where
  | mk (x0 : α0) (x1 : α1) (x2 : α2) (x3 : α3) (x4 : α4) (h : p x0 x1 x2 x3 x4) : Ex5 p
inductive Ex6 {α0 α1 α2 α3 α4 α5 : Type} (p : α0 → α1 → α2 → α3 → α4 → α5 → Prop) : Prop where
  | mk (x0 : α0) (x1 : α1) (x2 : α2) (x3 : α3) (x4 : α4) (x5 : α5) (h : p x0 x1 x2 x3 x4 x5) : Ex6 p
inductive Ex7 {α0 α1 α2 α3 α4 α5 α6 : Type} (p : α0 → α1 → α2 → α3 → α4 → α5 → α6 → Prop) : Prop where
  | mk (x0 : α0) (x1 : α1) (x2 : α2) (x3 : α3) (x4 : α4) (x5 : α5) (x6 : α6) (h : p x0 x1 x2 x3 x4 x5 x6) : Ex7 p
inductive Ex8 {α0 α1 α2 α3 α4 α5 α6 α7 : Type} (p : α0 → α1 → α2 → α3 → α4 → α5 → α6 → α7 → Prop) : Prop where
  | mk (x0 : α0) (x1 : α1) (x2 : α2) (x3 : α3) (x4 : α4) (x5 : α5) (x6 : α6) (x7 : α7) (h : p x0 x1 x2 x3 x4 x5 x6 x7) : Ex8 p
inductive Ex9 {α0 α1 α2 α3 α4 α5 α6 α7 α8 : Type} (p : α0 → α1 → α2 → α3 → α4 → α5 → α6 → α7 → α8 → Prop) : Prop where
  | mk (x0 : α0) (x1 : α1) (x2 : α2) (x3 : α3) (x4 : α4) (x5 : α5) (x6 : α6) (x7 : α7) (x8 : α8) (h : p x0 x1 x2 x3 x4 x5 x6 x7 x8) : Ex9 p
inductive Ex11 {α0 α1 α2 α3 α4 α5 α6 α7 α8 α9 α10 : Type} (p : α0 → α1 → α2 → α3 → α4 → α5 → α6 → α7 → α8 → α9 → α10 → Prop) : Prop where
  | mk (x0 : α0) (x1 : α1) (x2 : α2) (x3 : α3) (x4 : α4) (x5 : α5) (x6 : α6) (x7 : α7) (x8 : α8) (x9 : α9) (x10 : α10) (h : p x0 x1 x2 x3 x4 x5 x6 x7 x8 x9 x10) : Ex11 p
inductive And3 (p0 p1 p2 : Prop) : Prop where
  | mk (h0 : p0) (h1 : p1) (h2 : p2) : And3 p0 p1 p2
inductive And4 (p0 p1 p2 p3 : Prop) : Prop where
  | mk (h0 : p0) (h1 : p1) (h2 : p2) (h3 : p3) : And4 p0 p1 p2 p3
inductive And5 (p0 p1 p2 p3 p4 : Prop) : Prop where
  | mk (h0 : p0) (h1 : p1) (h2 : p2) (h3 : p3) (h4 : p4) : And5 p0 p1 p2 p3 p4
inductive And6 (p0 p1 p2 p3 p4 p5 : Prop) : Prop where
  | mk (h0 : p0) (h1 : p1) (h2 : p2) (h3 : p3) (h4 : p4) (h5 : p5) : And6 p0 p1 p2 p3 p4 p5
inductive And7 (p0 p1 p2 p3 p4 p5 p6 : Prop) : Prop where
  | mk (h0 : p0) (h1 : p1) (h2 : p2) (h3 : p3) (h4 : p4) (h5 : p5) (h6 : p6) : And7 p0 p1 p2 p3 p4 p5 p6
inductive And8 (p0 p1 p2 p3 p4 p5 p6 p7 : Prop) : Prop where
  | mk (h0 : p0) (h1 : p1) (h2 : p2) (h3 : p3) (h4 : p4) (h5 : p5) (h6 : p6) (h7 : p7) : And8 p0 p1 p2 p3 p4 p5 p6 p7
inductive And9 (p0 p1 p2 p3 p4 p5 p6 p7 p8 : Prop) : Prop where
  | mk (h0 : p0) (h1 : p1) (h2 : p2) (h3 : p3) (h4 : p4) (h5 : p5) (h6 : p6) (h7 : p7) (h8 : p8) : And9 p0 p1 p2 p3 p4 p5 p6 p7 p8
inductive And11 (p0 p1 p2 p3 p4 p5 p6 p7 p8 p9 p10 : Prop) : Prop where
  | mk (h0 : p0) (h1 : p1) (h2 : p2) (h3 : p3) (h4 : p4) (h5 : p5) (h6 : p6) (h7 : p7) (h8 : p8) (h9 : p9) (h10 : p10) : And11 p0 p1 p2 p3 p4 p5 p6 p7 p8 p9 p10
inductive And12 (p0 p1 p2 p3 p4 p5 p6 p7 p8 p9 p10 p11 : Prop) : Prop where
  | mk (h0 : p0) (h1 : p1) (h2 : p2) (h3 : p3) (h4 : p4) (h5 : p5) (h6 : p6) (h7 : p7) (h8 : p8) (h9 : p9) (h10 : p10) (h11 : p11) : And12 p0 p1 p2 p3 p4 p5 p6 p7 p8 p9 p10 p11
/-! ## the abstract values, the abstract heap -/
set_option genCtorIdx false in
inductive V where
  | none
  | bool (b : Bool)
  | int (i : Int)
  | str (s : Str)
  | tup (vs : List V)
  | ref (k : Nat)
  | frz (xs : List Int)
  | dct
noncomputable def V.ctorIdx (x : V) : Nat := V.casesOn x 0 (fun _ => 1) (fun _ => 2) (fun _ => 3) (fun _ => 4) (fun _ => 5) (fun _ => 6) 7

abbrev Hp := List (List V)

/-- a list of zl, as values -/
noncomputable def zl (xs : List Int) : List V := xs.map V.int

noncomputable def zl? : List V → Option (List Int)
  | [] => some []
  | .int i :: r => (zl? r).map (i :: ·)
  | _ :: _ => Option.none

/-! ## the language -/
inductive U where
  | neg | len | list | tuple | sum | sorted | abs | nset | rev | text
  | isInt | isBool | isList | isTuple
  | set | reversed | upto | enumerate   -- no meaning by themselves
  deriving DecidableEq

inductive B where
  | add | sub | mul | fdiv | mod | pow
  | eq | ne | lt | le | gt | ge | isin | notin | is_ | isnot
  | item | max | min
  | range | zip   -- no meaning by themselves
  deriving DecidableEq

inductive It where
  | range | seq | enum | rev
  deriving DecidableEq

set_option genCtorIdx false in
inductive X where
  | none
  | bool (b : Bool)
  | int (i : Int)
  | str (s : Str)
  | dct
  | glob (s : Str)   -- no meaning by itself
  | var (i : Nat)
  | un (op : U) (e : X)
  | bin (op : B) (a b : X)
  | chain (op₁ op₂ : B) (a b c : X)
  | not (e : X)
  | and (a b : X)
  | or (a b : X)
  | ite (t a b : X)
  | call (f : Nat) (args : List X)
  | list (es : List X)
  | tup (es : List X)
  | slice (e : X) (lo hi : X)
  | comp (elt : X) (n : Nat) (it : It) (a b : X) (cond : X)
  | zcomp (elt : X) (a b : X)
noncomputable def X.ctorIdx (x : X) : Nat := X.casesOn x 0 (fun _ => 1) (fun _ => 2) (fun _ => 3) 4 (fun _ => 5) (fun _ => 6) (fun _ _ => 7) (fun _ _ _ => 8) (fun _ _ _ _ _ => 9) (fun _ => 10) (fun _ _ => 11) (fun _ _ => 12) (fun _ _ _ => 13) (fun _ _ => 14) (fun _ => 15) (fun _ => 16) (fun _ _ _ => 17) (fun _ _ _ _ _ _ => 18) (fun _ _ _ => 19)

set_option genCtorIdx false in
inductive S where
  | assign (i : Nat) (e : X)
  | unpack (is : List Nat) (e : X)
  | setItem (a i v : X)
  | append (a v : X)
  | expr (f : Nat) (as : List X)
  | ite (t : X) (b c : List S)
  | loop (t : X) (b : List S)
  | each (is : List Nat) (it : It) (a c : X) (b : List S)
  | ret (e : X)
  | raise (k : Nat)
noncomputable def S.ctorIdx (x : S) : Nat := S.casesOn x (fun _ _ => 0) (fun _ _ => 1) (fun _ _ _ => 2) (fun _ _ => 3) (fun _ _ => 4) (fun _ _ _ => 5) (fun _ _ => 6) (fun _ _ _ _ _ => 7) (fun _ => 8) (fun _ => 9)

/-! ## what the operations give -/
abbrev Small (a : Int) : Prop := -9223372036854775808 ≤ a ∧ a ≤ 9223372036854775807

noncomputable def truth : V → Option Bool
  | .bool b => some b
  | .none => some false
  | _ => Option.none

/-- a value read to its depth -/
noncomputable def deepL (d : V → Option PyData) : List V → Option (List PyData)
  | [] => some []
  | v :: r => match d v, deepL d r with
    | some x, some xs => some (x :: xs)
    | _, _ => Option.none
/-- a value read to its depth; with texts, where it is to be shown -/
noncomputable def leafD (t : Bool) : V → Option PyData
  | .none => some .none
  | .bool b => some (.bool b)
  | .int i => some (.int i)
  | .str s => if t then some (.str s) else Option.none
  | _ => Option.none
noncomputable def deepG (t : Bool) (H : Hp) : Nat → V → Option PyData
  | 0, v => leafD t v
  | n + 1, v => match v with
    | .tup vs => (deepL (deepG t H n) vs).map .tuple
    | .ref k => match H[k]? with
      | some vs => (deepL (deepG t H n) vs).map .list
      | Option.none => Option.none
    | v => leafD t v
noncomputable abbrev deep (n : Nat) (H : Hp) : V → Option PyData := deepG false H n
noncomputable abbrev deepS (n : Nat) (H : Hp) : V → Option PyData := deepG true H n

noncomputable def room : Nat := 16777216

/-- where an index points -/
noncomputable def place (i : Int) (n : Nat) : Option Nat :=
  if 0 ≤ i ∧ i < n then some i.toNat
  else if i < 0 ∧ -(n : Int) ≤ i then some (i + n).toNat else Option.none

abbrev PV := V → Hp → Prop

/-! ### selectors -/
noncomputable def optV {α : Type} (o : Option α) (F : α → Prop) : Prop := match o with
  | some x => F x
  | Option.none => False
theorem optV_elim {α : Type} {o : Option α} {F : α → Prop} (h : optV o F) : ∃ x, o = some x ∧ F x:= by
  cases o with
  | none => exact h.elim
  | some x => exact ⟨x, rfl, h⟩
theorem optV_eq {α : Type} {o : Option α} {x : α} {F : α → Prop} (h : o = some x) : optV o F = F x := by rw [h]; rfl
theorem optV_mono {α : Type} {o : Option α} {F G : α → Prop} (h : ∀ x, F x → G x) (q : optV o F) : optV o G := by
  cases o with
  | none => exact q.elim
  | some x => exact h x q
noncomputable def int? : V → Option Int
  | .int a => some a
  | .none => Option.none
  | .bool _ => Option.none
  | .str _ => Option.none
  | .tup _ => Option.none
  | .ref _ => Option.none
  | .frz _ => Option.none
  | .dct => Option.none
theorem int_eq {v : V} {a : Int} (h : int? v = some a) : v = .int a := by
  cases v <;> first | (cases h; done) | (cases h; rfl)
noncomputable def ref? : V → Option Nat
  | .ref k => some k
  | .none => Option.none
  | .bool _ => Option.none
  | .str _ => Option.none
  | .tup _ => Option.none
  | .int _ => Option.none
  | .frz _ => Option.none
  | .dct => Option.none
theorem ref_eq {v : V} {k : Nat} (h : ref? v = some k) : v = .ref k := by
  cases v <;> first | (cases h; done) | (cases h; rfl)
noncomputable def intV (v : V) (F : Int → Prop) : Prop := optV (int? v) F
theorem intV_elim {v : V} {F : Int → Prop} (h : intV v F) : ∃ a, v = .int a ∧ F a:= by
  obtain ⟨a, e, h⟩ := optV_elim h
  exact ⟨a, int_eq e, h⟩
noncomputable def refV (v : V) (H : Hp) (F : List V → Prop) : Prop := optV (ref? v) fun k => optV H[k]? F
theorem refV_elim {v : V} {H : Hp} {F : List V → Prop} (h : refV v H F) : Ex2 fun k vs => And3 (v = .ref k) (H[k]? = some vs) (F vs):= by
  obtain ⟨k, e, h⟩ := optV_elim h
  obtain ⟨vs, e', h⟩ := optV_elim h
  exact ⟨k, vs, ref_eq e, e', h⟩
noncomputable def isIntB : V → Bool
  | .int _ => true
  | .bool _ => true
  | .none => false
  | .str _ => false
  | .tup _ => false
  | .ref _ => false
  | .frz _ => false
  | .dct => false
noncomputable def isBoolB : V → Bool
  | .bool _ => true
  | .int _ => false
  | .none => false
  | .str _ => false
  | .tup _ => false
  | .ref _ => false
  | .frz _ => false
  | .dct => false
noncomputable def isListB : V → Bool
  | .ref _ => true
  | .frz _ => true
  | .bool _ => false
  | .int _ => false
  | .none => false
  | .str _ => false
  | .tup _ => false
  | .dct => false
noncomputable def isTupB : V → Bool
  | .tup _ => true
  | .ref _ => false
  | .frz _ => false
  | .bool _ => false
  | .int _ => false
  | .none => false
  | .str _ => false
  | .dct => false
noncomputable def isNoneB : V → Bool
  | .none => true
  | .tup _ => false
  | .ref _ => false
  | .frz _ => false
  | .bool _ => false
  | .int _ => false
  | .str _ => false
  | .dct => false
noncomputable def lenV (v : V) (H : Hp) (F : Nat → Prop) : Prop := match v with
  | .ref k => optV H[k]? fun vs => F vs.length
  | .tup vs => F vs.length
  | .frz xs => F xs.length
  | .none => False
  | .bool _ => False
  | .int _ => False
  | .str _ => False
  | .dct => False
noncomputable def seqV (v : V) (H : Hp) (F : List V → Prop) : Prop := match v with
  | .ref k => optV H[k]? F
  | .tup vs => F vs
  | .frz _ => False
  | .none => False
  | .bool _ => False
  | .int _ => False
  | .str _ => False
  | .dct => False
noncomputable def tup? : V → Option (List V)
  | .tup vs => some vs
  | .none => Option.none
  | .bool _ => Option.none
  | .str _ => Option.none
  | .int _ => Option.none
  | .ref _ => Option.none
  | .frz _ => Option.none
  | .dct => Option.none
theorem tup_eq {v : V} {vs : List V} (h : tup? v = some vs) : v = .tup vs := by
  cases v <;> first | (cases h; done) | (cases h; rfl)
noncomputable def str? : V → Option Str
  | .str s => some s
  | .none => Option.none
  | .bool _ => Option.none
  | .tup _ => Option.none
  | .int _ => Option.none
  | .ref _ => Option.none
  | .frz _ => Option.none
  | .dct => Option.none
theorem str_eq {v : V} {s : Str} (h : str? v = some s) : v = .str s := by
  cases v <;> first | (cases h; done) | (cases h; rfl)
noncomputable def addV (v w : V) (H : Hp) (P : PV) : Prop := match v with
  | .int a => intV w fun b => P (.int (a + b)) H
  | .ref k => optV H[k]? fun xs => refV w H fun ys => xs.length + ys.length ≤ room ∧ P (.ref H.length) (H ++ [xs ++ ys])
  | .tup xs => optV (tup? w) fun ys => xs.length + ys.length ≤ room ∧ P (.tup (xs ++ ys)) H
  | .str x => optV (str? w) fun y => x.length + y.length ≤ 100000 ∧ P (.str (x ++ y)) H
  | .frz _ => False
  | .none => False
  | .bool _ => False
  | .dct => False
noncomputable def lone : List V → Option V
  | [] => Option.none
  | x :: r => match r with
    | [] => some x
    | _ :: _ => Option.none
theorem lone_eq {l : List V} {x : V} (h : lone l = some x) : l = [x] := by
  cases l with
  | nil => cases h
  | cons y r => cases r with
    | nil => cases h; rfl
    | cons _ _ => cases h
noncomputable def mulV (v w : V) (H : Hp) (P : PV) : Prop := match v with
  | .int a => intV w fun b => (Small a ∨ Small b) ∧ P (.int (a * b)) H
  | .ref k => optV H[k]? fun vs => optV (lone vs) fun x => intV w fun b => 0 ≤ b ∧ b ≤ 512 ∧ P (.ref H.length) (H ++ [List.replicate b.toNat x])
  | .tup _ => False
  | .frz _ => False
  | .none => False
  | .bool _ => False
  | .str _ => False
  | .dct => False
noncomputable def itemV (v : V) (i : Int) (H : Hp) (P : PV) : Prop := match v with
  | .ref k => optV H[k]? fun vs => optV (place i vs.length) fun j => optV vs[j]? fun x => P x H
  | .tup vs => optV (place i vs.length) fun j => optV vs[j]? fun x => P x H
  | .frz xs => optV (place i xs.length) fun j => optV xs[j]? fun x => P (.int x) H
  | .none => False
  | .bool _ => False
  | .int _ => False
  | .str _ => False
  | .dct => False
/-- the text of a value -/
noncomputable def textD (v : V) (H : Hp) (P : PV) : Prop := optV (deepS 4 H v) fun d => d.showable = true ∧ d.shown.length ≤ 100000 ∧ P (.str d.shown) H
noncomputable def dct0 : PyData := .dict [(.int 1, .int 2)]
noncomputable def textV (v : V) (H : Hp) (P : PV) : Prop := match v with
  | .str x => P (.str x) H
  | .dct => P (.str dct0.shown) H
  | .none => textD .none H P
  | .bool b => textD (.bool b) H P
  | .int i => textD (.int i) H P
  | .tup vs => textD (.tup vs) H P
  | .ref k => textD (.ref k) H P
  | .frz _ => False
/-- equal: two texts, or what is read to its depth -/
noncomputable def eqV (v w : V) (H : Hp) (P : PV) : Prop := match str? v with
  | some x => optV (str? w) fun y => P (.bool (decide (x = y))) H
  | Option.none => optV (deep 4 H v) fun x => optV (deep 4 H w) fun y => P (.bool (PyData.eqv x y)) H

noncomputable def wpU (op : U) (v : V) (H : Hp) (P : PV) : Prop := match op with
  | .neg => intV v fun a => P (.int (-a)) H
  | .abs => intV v fun a => P (.int (if a < 0 then -a else a)) H
  | .len => lenV v H fun n => P (.int n) H
  | .list => seqV v H fun vs => P (.ref H.length) (H ++ [vs])
  | .tuple => refV v H fun vs => P (.tup vs) H
  | .rev => refV v H fun vs => P (.ref H.length) (H ++ [vs.reverse])
  | .sum => refV v H fun vs => optV (zl? vs) fun is => P (.int is.sum) H
  | .sorted => refV v H fun vs => optV (zl? vs) fun is => is.length < 64 ∧ ∀ js : List Int, js.Perm is → js.Pairwise (· ≤ ·) → P (.ref H.length) (H ++ [zl js])
  | .nset => refV v H fun vs => optV (zl? vs) fun is => is.length < 4000 ∧ ∀ n : Nat, (is.Nodup → n = is.length) → (¬ is.Nodup → n < is.length) → P (.int n) H
  | .text => textV v H P
  | .isInt => P (.bool (isIntB v)) H
  | .isBool => P (.bool (isBoolB v)) H
  | .isList => P (.bool (isListB v)) H
  | .isTuple => P (.bool (isTupB v)) H
  | .set => False
  | .reversed => False
  | .upto => False
  | .enumerate => False

noncomputable def wpB (op : B) (v w : V) (H : Hp) (P : PV) : Prop := match op with
  | .add => addV v w H P
  | .sub => intV v fun a => intV w fun b => P (.int (a - b)) H
  | .mul => mulV v w H P
  | .fdiv => intV v fun a => intV w fun b => 0 < b ∧ b < 1000000000 ∧ P (.int (a / b)) H
  | .mod => intV v fun a => intV w fun b => 0 < b ∧ P (.int (a % b)) H
  | .pow => intV v fun a => intV w fun b => a = 10 ∧ b = 20 ∧ P (.int 100000000000000000000) H
  | .eq => eqV v w H P
  | .ne => optV (deep 4 H v) fun x => optV (deep 4 H w) fun y => P (.bool (!PyData.eqv x y)) H
  | .lt => intV v fun a => intV w fun b => P (.bool (decide (a < b))) H
  | .le => intV v fun a => intV w fun b => P (.bool (decide (a ≤ b))) H
  | .gt => intV v fun a => intV w fun b => P (.bool (decide (b < a))) H
  | .ge => intV v fun a => intV w fun b => P (.bool (decide (b ≤ a))) H
  | .isin => intV v fun a => refV w H fun vs => optV (zl? vs) fun is => P (.bool (decide (a ∈ is))) H
  | .notin => intV v fun a => refV w H fun vs => optV (zl? vs) fun is => P (.bool (!decide (a ∈ is))) H
  | .is_ => isNoneB w = true ∧ P (.bool (isNoneB v)) H
  | .isnot => False
  | .item => intV w fun i => itemV v i H P
  | .max => intV v fun a => intV w fun b => P (.int (if a < b then b else a)) H
  | .min => False
  | .range => False
  | .zip => False

/-- what a loop walks over: its items, and what must stay meanwhile -/
noncomputable def pairs (xs ys : List V) : List V := (xs.zip ys).map fun p => .tup [p.1, p.2]
noncomputable def nums (lo : Int) (n : Nat) : List V := (List.range n).map fun (i : Nat) => .int (lo + i)

noncomputable def seqOf (H : Hp) : V → Option (List V × List (Nat × List V))
  | .ref k => match H[k]? with | some vs => some (vs, [(k, vs)]) | Option.none => Option.none
  | .tup vs => some (vs, [])
  | _ => Option.none

noncomputable def items (it : It) (v w : V) (H : Hp) : Option (List V × List (Nat × List V)) := match it with
  | .range => (match v, w with
    | .int a, .int b => if -1000000 ≤ a ∧ a ≤ 1000000 ∧ -1000000 ≤ b ∧ b ≤ 1000000 then some (nums a (b - a).toNat, []) else Option.none
    | _, _ => Option.none)
  | .seq => seqOf H v
  | .enum => (match v with
    | .ref k => (match H[k]? with | some vs => some (pairs (nums 0 vs.length) vs, [(k, vs)]) | Option.none => Option.none)
    | _ => Option.none)
  | .rev => (match v with
    | .ref k => (match H[k]? with | some vs => some (vs.reverse, [(k, vs)]) | Option.none => Option.none)
    | _ => Option.none)

noncomputable def Still (src : List (Nat × List V)) (H : Hp) : Prop := ∀ p ∈ src, H[p.1]? = some p.2

/-! ## expressions -/
abbrev Loc := List (Option V)
/-- the calls of the text's own functions -/
abbrev Calls := Nat → List V → Hp → PV → Prop

noncomputable def wpComp (cond elt : V → Hp → PV → Prop) (src : List (Nat × List V)) : List V → List V → Hp → PV → Prop
  | [], acc, H, P => Still src H ∧ P (.ref H.length) (H ++ [acc])
  | v :: r, acc, H, P => Still src H ∧ cond v H fun c H₁ => match truth c with
    | some true => elt v H₁ fun y H₂ => wpComp cond elt src r (acc ++ [y]) H₂ P
    | some false => wpComp cond elt src r acc H₁ P
    | Option.none => False

/-- two rows of zl, walked abreast by an expression over two zl -/
noncomputable def wpZip (elt : Int → Int → (V → Prop) → Prop) : List Int → List Int → List V → (List V → Prop) → Prop
  | x :: xs, y :: ys, acc, P => elt x y fun v => match v with
    | .int i => wpZip elt xs ys (acc ++ [.int i]) P
    | _ => False
  | _, _, acc, P => P acc

/-- a tuple and a list of as many ints -/
noncomputable def zipV (elt : Int → Int → (V → Prop) → Prop) (v z : V) (H : Hp) (P : PV) : Prop :=
  optV (tup? v) fun us => refV z H fun vs => optV (zl? us) fun xs => optV (zl? vs) fun ys => xs.length = ys.length ∧ wpZip elt xs ys [] fun acc => P (.ref H.length) (H ++ [acc])

/-- the names that a target binds -/
noncomputable def bound (n : Nat) (v : V) : Option Loc := match n, v with
  | 1, v => some [some v]
  | 2, .tup [a, b] => some [some a, some b]
  | _, _ => Option.none

noncomputable def clip (n : Nat) (i : Int) : Nat := (max 0 (min (if i < 0 then i + n else i) n)).toNat
noncomputable def part? : V → Option (Option Int)
  | .none => some Option.none
  | .int i => some (some i)
  | _ => Option.none
noncomputable def picked (vs : List V) (lo hi : Option Int) : List V :=
  (vs.drop (lo.elim 0 (clip vs.length))).take (hi.elim vs.length (clip vs.length) - lo.elim 0 (clip vs.length))

/-- a part of a tuple: its front, or its end -/
noncomputable def tupSl (vs : List V) (l h : Option Int) (F : List V → Prop) : Prop := match l, h with
  | Option.none, some b => 0 ≤ b ∧ b < vs.length ∧ F (vs.take b.toNat)
  | some a, Option.none => 1 ≤ a ∧ a ≤ vs.length ∧ F (vs.drop a.toNat)
  | _, _ => False

mutual
noncomputable def wpE (C : Calls) : X → Loc → Hp → PV → Prop
  | .none, _, H, P => P .none H
  | .bool b, _, H, P => P (.bool b) H
  | .int i, _, H, P => P (.int i) H
  | .str s, _, H, P => P (.str s) H
  | .dct, _, H, P => P .dct H
  | .glob _, _, _, _ => False
  | .var i, m, H, P => match m[i]? with | some (some v) => P v H | _ => False
  | .un op e, m, H, P => wpE C e m H fun v H₁ => wpU op v H₁ P
  | .bin op a b, m, H, P => wpE C a m H fun v H₁ => wpE C b m H₁ fun w H₂ => wpB op v w H₂ P
  | .chain op₁ op₂ a b c, m, H, P => wpE C a m H fun v H₁ => wpE C b m H₁ fun w H₂ => wpB op₁ v w H₂ fun t H₃ => match truth t with
    | some true => wpE C c m H₃ fun z H₄ => wpB op₂ w z H₄ P
    | some false => P t H₃
    | Option.none => False
  | .not e, m, H, P => wpE C e m H fun v H₁ => match truth v with | some b => P (.bool !b) H₁ | Option.none => False
  | .and a b, m, H, P => wpE C a m H fun v H₁ => match truth v with
    | some true => wpE C b m H₁ P
    | some false => P v H₁
    | Option.none => False
  | .or a b, m, H, P => wpE C a m H fun v H₁ => match truth v with
    | some true => P v H₁
    | some false => wpE C b m H₁ P
    | Option.none => False
  | .ite t a b, m, H, P => wpE C t m H fun v H₁ => match truth v with
    | some true => wpE C a m H₁ P
    | some false => wpE C b m H₁ P
    | Option.none => False
  | .call f args, m, H, P => wpEs C args m H fun vs H₁ => C f vs H₁ P
  | .list es, m, H, P => wpEs C es m H fun vs H₁ => P (.ref H₁.length) (H₁ ++ [vs])
  | .tup es, m, H, P => wpEs C es m H fun vs H₁ => P (.tup vs) H₁
  | .slice e lo hi, m, H, P => wpE C e m H fun v H₁ => wpE C lo m H₁ fun a H₂ => wpE C hi m H₂ fun b H₃ => match v, part? a, part? b with
    | .ref k, some l, some h => (match H₃[k]? with
      | some vs => P (.ref H₃.length) (H₃ ++ [picked vs l h])
      | Option.none => False)
    | .tup vs, some l, some h => tupSl vs l h fun us => P (.tup us) H₃
    | _, _, _ => False
  | .comp elt n it a b cond, m, H, P => wpE C a m H fun v H₁ => wpE C b m H₁ fun w H₂ => match items it v w H₂ with
    | some (vs, src) => wpComp (fun x H P => match bound n x with | some l => wpE C cond (m ++ l) H P | Option.none => False)
        (fun x H P => match bound n x with | some l => wpE C elt (m ++ l) H P | Option.none => False) src vs [] H₂ P
    | Option.none => False
  | .zcomp elt a b, m, H, P => wpE C a m H fun v H₁ => wpE C b m H₁ fun w H₂ => zipV (fun x y P' => wpE C elt [some (.int x), some (.int y)] [] fun v _ => P' v) v w H₂ P
noncomputable def wpEs (C : Calls) : List X → Loc → Hp → (List V → Hp → Prop) → Prop
  | [], _, H, P => P [] H
  | e :: r, m, H, P => wpE C e m H fun v H₁ => wpEs C r m H₁ fun vs H₂ => P (v :: vs) H₂
end

/-! ## statements -/
set_option genCtorIdx false in
inductive Fl where
  | next
  | ret (v : V)
noncomputable def Fl.ctorIdx (x : Fl) : Nat := Fl.casesOn x 0 (fun _ => 1)
abbrev PF := Fl → Loc → Hp → Prop
set_option tactic.hygienic true
/-- a call that stands by itself has ended -/
noncomputable def ended (_ : V) (m : Loc) (H : Hp) (Q : PF) : Prop := Q .next m H
set_option tactic.hygienic false

set_option tactic.hygienic true
noncomputable def wpLoop (test : Loc → Hp → PV → Prop) (body : Loc → Hp → PF → Prop) (Q : PF) : Nat → Loc → Hp → Prop
  | 0, _, _ => False
  | n + 1, m, H => test m H fun c H₁ => match truth c with
    | some true => body m H₁ fun f m' H' => match f with | .next => wpLoop test body Q n m' H' | .ret v => Q (.ret v) m' H'
    | some false => Q .next m H₁
    | Option.none => False
set_option tactic.hygienic false

/-- the slots of a target -/
noncomputable def put : List Nat → V → Loc → Option Loc
  | [i], v, m => some (m.set i (some v))
  | [i, j], .tup [v, w], m => some ((m.set i (some v)).set j (some w))
  | _, _, _ => Option.none

set_option tactic.hygienic true
noncomputable def wpEach (is : List Nat) (body : Loc → Hp → PF → Prop) (src : List (Nat × List V)) (Q : PF) : List V → Loc → Hp → Prop
  | [], m, H => Still src H ∧ Q .next m H
  | v :: r, m, H => Still src H ∧ match put is v m with
    | some m₁ => body m₁ H fun f m' H' => match f with | .next => wpEach is body src Q r m' H' | .ret x => Q (.ret x) m' H'
    | Option.none => False
set_option tactic.hygienic false

set_option tactic.hygienic true
mutual
noncomputable def wpS (C : Calls) : S → Loc → Hp → PF → Prop
  | .assign i e, m, H, Q => wpE C e m H fun v H₁ => Q .next (m.set i (some v)) H₁
  | .unpack is e, m, H, Q => wpE C e m H fun v H₁ => match put is v m with | some m₁ => Q .next m₁ H₁ | Option.none => False
  | .setItem a i e, m, H, Q => wpE C e m H fun v H₁ => wpE C a m H₁ fun r H₂ => wpE C i m H₂ fun w H₃ => match r, w with
    | .ref k, .int j => (match H₃[k]? with
      | some vs => 0 ≤ j ∧ j < vs.length ∧ Q .next m (H₃.set k (vs.set j.toNat v))
      | Option.none => False)
    | _, _ => False
  | .append a e, m, H, Q => wpE C a m H fun r H₁ => match r with
    | .ref k => wpE C e m H₁ fun v H₂ => (match H₂[k]? with
      | some vs => vs.length < room ∧ Q .next m (H₂.set k (vs ++ [v]))
      | Option.none => False)
    | _ => False
  | .expr f as, m, H, Q => wpEs C as m H fun vs H₁ => C f vs H₁ fun v H₂ => ended v m H₂ Q
  | .ite t b c, m, H, Q => wpE C t m H fun v H₁ => match truth v with
    | some true => wpSs C b m H₁ Q
    | some false => wpSs C c m H₁ Q
    | Option.none => False
  | .loop t b, m, H, Q => ∃ n, wpLoop (wpE C t) (fun m H Q => wpSs C b m H Q) Q n m H
  | .each is it a c b, m, H, Q => wpE C a m H fun v H₁ => wpE C c m H₁ fun w H₂ => match items it v w H₂ with
    | some (vs, src) => wpEach is (fun m H Q => wpSs C b m H Q) src Q vs m H₂
    | Option.none => False
  | .ret e, m, H, Q => wpE C e m H fun v H₁ => Q (.ret v) m H₁
  | .raise _, _, _, _ => False
noncomputable def wpSs (C : Calls) : List S → Loc → Hp → PF → Prop
  | [], m, H, Q => Q .next m H
  | s :: r, m, H, Q => wpS C s m H fun f m' H' => match f with
    | .next => wpSs C r m' H' Q
    | .ret v => Q (.ret v) m' H'
end
set_option tactic.hygienic false


/-! ### one by one -/
theorem ZF : ∀ C r0 H P, wpE C (.none) r0 H P = (P .none H) := fun _ _ _ _ => rfl
theorem ZE : ∀ C b r0 H P, wpE C (.bool b) r0 H P = (P (.bool b) H) := fun _ _ _ _ _ => rfl
theorem ZM : ∀ C i r0 H P, wpE C (.int i) r0 H P = (P (.int i) H) := fun _ _ _ _ _ => rfl
theorem ZO : ∀ C s r0 H P, wpE C (.str s) r0 H P = (P (.str s) H) := fun _ _ _ _ _ => rfl
theorem we_dct : ∀ C r0 H P, wpE C .dct r0 H P = (P .dct H) := fun _ _ _ _ => rfl
theorem ZD : ∀ C u0 r0 r1 r2, wpE C (.glob u0) r0 r1 r2 = (False) := fun _ _ _ _ _ => rfl
theorem ZH : ∀ C i m H P, wpE C (.var i) m H P = (match m[i]? with | some (some v) => P v H | _ => False) := fun _ _ _ _ _ => rfl
theorem Yb : ∀ C op e m H P, wpE C (.un op e) m H P = (wpE C e m H fun v H₁ => wpU op v H₁ P) := fun _ _ _ _ _ _ => rfl
theorem ZN : ∀ C op a b m H P, wpE C (.bin op a b) m H P = (wpE C a m H fun v H₁ => wpE C b m H₁ fun w H₂ => wpB op v w H₂ P) := fun _ _ _ _ _ _ _ => rfl
theorem Zu : ∀ C op₁ op₂ a b c m H P, wpE C (.chain op₁ op₂ a b c) m H P = (wpE C a m H fun v H₁ => wpE C b m H₁ fun w H₂ => wpB op₁ v w H₂ fun t H₃ => match truth t with
    | some true => wpE C c m H₃ fun z H₄ => wpB op₂ w z H₄ P
    | some false => P t H₃
    | Option.none => False) := fun _ _ _ _ _ _ _ _ _ => rfl
theorem ZS : ∀ C e m H P, wpE C (.not e) m H P = (wpE C e m H fun v H₁ => match truth v with | some b => P (.bool !b) H₁ | Option.none => False) := fun _ _ _ _ _ => rfl
theorem ZP : ∀ C a b m H P, wpE C (.and a b) m H P = (wpE C a m H fun v H₁ => match truth v with
    | some true => wpE C b m H₁ P
    | some false => P v H₁
    | Option.none => False) := fun _ _ _ _ _ _ => rfl
theorem ZZ : ∀ C a b m H P, wpE C (.or a b) m H P = (wpE C a m H fun v H₁ => match truth v with
    | some true => P v H₁
    | some false => wpE C b m H₁ P
    | Option.none => False) := fun _ _ _ _ _ _ => rfl
theorem ZQ : ∀ C t a b m H P, wpE C (.ite t a b) m H P = (wpE C t m H fun v H₁ => match truth v with
    | some true => wpE C a m H₁ P
    | some false => wpE C b m H₁ P
    | Option.none => False) := fun _ _ _ _ _ _ _ => rfl
theorem ZA : ∀ C f args m H P, wpE C (.call f args) m H P = (wpEs C args m H fun vs H₁ => C f vs H₁ P) := fun _ _ _ _ _ _ => rfl
theorem ZC : ∀ C es m H P, wpE C (.list es) m H P = (wpEs C es m H fun vs H₁ => P (.ref H₁.length) (H₁ ++ [vs])) := fun _ _ _ _ _ => rfl
theorem ZT : ∀ C es m H P, wpE C (.tup es) m H P = (wpEs C es m H fun vs H₁ => P (.tup vs) H₁) := fun _ _ _ _ _ => rfl
theorem Zt : ∀ C e lo hi m H P, wpE C (.slice e lo hi) m H P = (wpE C e m H fun v H₁ => wpE C lo m H₁ fun a H₂ => wpE C hi m H₂ fun b H₃ => match v, part? a, part? b with
    | .ref k, some l, some h => (match H₃[k]? with
      | some vs => P (.ref H₃.length) (H₃ ++ [picked vs l h])
      | Option.none => False)
    | .tup vs, some l, some h => tupSl vs l h fun us => P (.tup us) H₃
    | _, _, _ => False) := fun _ _ _ _ _ _ _ => rfl
theorem ZB : ∀ C elt n it a b cond m H P, wpE C (.comp elt n it a b cond) m H P = (wpE C a m H fun v H₁ => wpE C b m H₁ fun w H₂ => match items it v w H₂ with
    | some (vs, src) => wpComp (fun x H P => match bound n x with | some l => wpE C cond (m ++ l) H P | Option.none => False)
        (fun x H P => match bound n x with | some l => wpE C elt (m ++ l) H P | Option.none => False) src vs [] H₂ P
    | Option.none => False) := fun _ _ _ _ _ _ _ _ _ _ => rfl
theorem Zs : ∀ C elt a b m H P, wpE C (.zcomp elt a b) m H P = (wpE C a m H fun v H₁ => wpE C b m H₁ fun w H₂ => zipV (fun x y P' => wpE C elt [some (.int x), some (.int y)] [] fun v _ => P' v) v w H₂ P) := fun _ _ _ _ _ _ _ => rfl
theorem wes_nil : ∀ C r0 H P, wpEs C ([]) r0 H P = (P [] H) := fun _ _ _ _ => rfl
theorem wes_cons : ∀ C e r m H P, wpEs C (e :: r) m H P = (wpE C e m H fun v H₁ => wpEs C r m H₁ fun vs H₂ => P (v :: vs) H₂) := fun _ _ _ _ _ _ => rfl
theorem ws_assign : ∀ C i e m H Q, wpS C (.assign i e) m H Q = (wpE C e m H fun v H₁ => Q .next (m.set i (some v)) H₁) := fun _ _ _ _ _ _ => rfl
set_option tactic.hygienic true
theorem ws_unpack : ∀ C is e m H Q, wpS C (.unpack is e) m H Q = (wpE C e m H fun v H₁ => match put is v m with | some m₁ => Q .next m₁ H₁ | Option.none => False) := fun _ _ _ _ _ _ => rfl
set_option tactic.hygienic false

set_option tactic.hygienic true
theorem ws_setItem : ∀ C a i e m H Q, wpS C (.setItem a i e) m H Q = (wpE C e m H fun v H₁ => wpE C a m H₁ fun r H₂ => wpE C i m H₂ fun w H₃ => match r, w with
    | .ref k, .int j => (match H₃[k]? with
      | some vs => 0 ≤ j ∧ j < vs.length ∧ Q .next m (H₃.set k (vs.set j.toNat v))
      | Option.none => False)
    | _, _ => False) := fun _ _ _ _ _ _ _ => rfl
set_option tactic.hygienic false

set_option tactic.hygienic true
theorem ws_append : ∀ C a e m H Q, wpS C (.append a e) m H Q = (wpE C a m H fun r H₁ => match r with
    | .ref k => wpE C e m H₁ fun v H₂ => (match H₂[k]? with
      | some vs => vs.length < room ∧ Q .next m (H₂.set k (vs ++ [v]))
      | Option.none => False)
    | _ => False) := fun _ _ _ _ _ _ => rfl
set_option tactic.hygienic false

theorem ws_expr : ∀ C f as m H Q, wpS C (.expr f as) m H Q = (wpEs C as m H fun vs H₁ => C f vs H₁ fun v H₂ => ended v m H₂ Q) := fun _ _ _ _ _ _ => rfl
theorem ws_ite : ∀ C t b c m H Q, wpS C (.ite t b c) m H Q = (wpE C t m H fun v H₁ => match truth v with
    | some true => wpSs C b m H₁ Q
    | some false => wpSs C c m H₁ Q
    | Option.none => False) := fun _ _ _ _ _ _ _ => rfl
theorem ws_loop : ∀ C t b m H Q, wpS C (.loop t b) m H Q = (∃ n, wpLoop (wpE C t) (fun m H Q => wpSs C b m H Q) Q n m H) := fun _ _ _ _ _ _ => rfl
theorem ws_each : ∀ C is it a c b m H Q, wpS C (.each is it a c b) m H Q = (wpE C a m H fun v H₁ => wpE C c m H₁ fun w H₂ => match items it v w H₂ with
    | some (vs, src) => wpEach is (fun m H Q => wpSs C b m H Q) src Q vs m H₂
    | Option.none => False) := fun _ _ _ _ _ _ _ _ _ => rfl
theorem ws_ret : ∀ C e m H Q, wpS C (.ret e) m H Q = (wpE C e m H fun v H₁ => Q (.ret v) m H₁) := fun _ _ _ _ _ => rfl
theorem ws_raise : ∀ C k r0 r1 r2, wpS C (.raise k) r0 r1 r2 = (False) := fun _ _ _ _ _ => rfl
set_option tactic.hygienic true
theorem wss_nil : ∀ C m H Q, wpSs C ([]) m H Q = (Q .next m H) := fun _ _ _ _ => rfl
set_option tactic.hygienic false

theorem wss_cons : ∀ C s r m H Q, wpSs C (s :: r) m H Q = (wpS C s m H fun f m' H' => match f with
    | .next => wpSs C r m' H' Q
    | .ret v => Q (.ret v) m' H') := fun _ _ _ _ _ _ => rfl

/-! ## functions -/
structure Fn where
  params : Nat
  locals : Nat
  body : List S

noncomputable def entry (f : Fn) (vs : List V) : Loc := vs.map some ++ List.replicate (f.locals - f.params) Option.none

/-- the calls of a table of functions, to a depth -/
noncomputable def run (T : Nat → Option Fn) : Nat → Calls
  | 0, _, _, _, _ => False
  | n + 1, f, vs, H, P => match T f with
    | some d => vs.length = d.params ∧ d.params ≤ d.locals ∧ wpSs (run T n) d.body (entry d vs) H fun fl _ H' => match fl with | .next => P .none H' | .ret v => P v H'
    | Option.none => False

/-! ## raising runs -/
abbrev PX := Nat → Hp → Prop
/-- the calls that raise -/
abbrev Raisers := Nat → List V → Hp → PX → Prop
mutual
noncomputable def rzS (C : Calls) (Z : Raisers) : S → Loc → Hp → PX → Prop
  | .raise k, _, H, R => R k H
  | .expr f as, m, H, R => wpEs C as m H fun vs H₁ => Z f vs H₁ R
  | .ite t b c, m, H, R => wpE C t m H fun v H₁ => match truth v with
    | some true => rzSs C Z b m H₁ R
    | some false => rzSs C Z c m H₁ R
    | Option.none => False
  | .each is it a c b, m, H, R => wpE C a m H fun v H₁ => wpE C c m H₁ fun w H₂ => match items it v w H₂ with
    | some (vs, src) => wpEach is (fun m H Q => rzSs C Z b m H R ∨ wpSs C b m H Q) src (fun _ _ _ => False) vs m H₂
    | Option.none => False
  | .assign _ _, _, _, _ => False
  | .unpack _ _, _, _, _ => False
  | .setItem _ _ _, _, _, _ => False
  | .append _ _, _, _, _ => False
  | .loop _ _, _, _, _ => False
  | .ret _, _, _, _ => False
noncomputable def rzSs (C : Calls) (Z : Raisers) : List S → Loc → Hp → PX → Prop
  | [], _, _, _ => False
  | s :: r, m, H, R => rzS C Z s m H R ∨ wpS C s m H fun f m' H' => match f with
    | .next => rzSs C Z r m' H' R
    | .ret _ => False
end
noncomputable def runZ (T : Nat → Option Fn) : Nat → Raisers
  | 0, _, _, _, _ => False
  | n + 1, f, vs, H, R => match T f with
    | some d => vs.length = d.params ∧ d.params ≤ d.locals ∧ rzSs (run T n) (runZ T n) d.body (entry d vs) H R
    | Option.none => False
theorem run_at {T : Nat → Option Fn} {n k : Nat} {d : Fn} {vs : List V} {H : Hp} {P : PV} (hT : T k = some d) : run T (n + 1) k vs H P = (vs.length = d.params ∧ d.params ≤ d.locals ∧ wpSs (run T n) d.body (entry d vs) H fun fl _ H' => match fl with | .next => P .none H' | .ret v => P v H') := by
  show (match T k with
    | some d => vs.length = d.params ∧ d.params ≤ d.locals ∧ wpSs (run T n) d.body (entry d vs) H fun fl _ H' => match fl with | .next => P .none H' | .ret v => P v H'
    | Option.none => False) = _
  rw [hT]
theorem runZ_at {T : Nat → Option Fn} {n k : Nat} {d : Fn} {vs : List V} {H : Hp} {R : PX} (hT : T k = some d) : runZ T (n + 1) k vs H R = (vs.length = d.params ∧ d.params ≤ d.locals ∧ rzSs (run T n) (runZ T n) d.body (entry d vs) H R) := by
  show (match T k with
    | some d => vs.length = d.params ∧ d.params ≤ d.locals ∧ rzSs (run T n) (runZ T n) d.body (entry d vs) H R
    | Option.none => False) = _
  rw [hT]
theorem it_range {a b : Int} {H : Hp} (hb : -1000000 ≤ a ∧ a ≤ 1000000 ∧ -1000000 ≤ b ∧ b ≤ 1000000) : items .range (.int a) (.int b) H = some (nums a (b - a).toNat, []) := if_pos hb
theorem list_if {α : Type} {o : Option (List V)} {vs : List V} {f : List V → α} (h : o = some vs) : (match (generalizing := false) o with | some vs => some (f vs) | Option.none => Option.none) = some (f vs) := by rw [h]
theorem it_seq {k : Nat} {H : Hp} {vs : List V} (hk : H[k]? = some vs) : items .seq (.ref k) .none H = some (vs, [(k, vs)]) := list_if (f := fun vs => (vs, [(k, vs)])) hk
theorem it_enum {k : Nat} {H : Hp} {vs : List V} (hk : H[k]? = some vs) : items .enum (.ref k) .none H = some (pairs (nums 0 vs.length) vs, [(k, vs)]) := list_if (f := fun vs => (pairs (nums 0 vs.length) vs, [(k, vs)])) hk
theorem it_rev {k : Nat} {H : Hp} {vs : List V} (hk : H[k]? = some vs) : items .rev (.ref k) .none H = some (vs.reverse, [(k, vs)]) := list_if (f := fun vs => (vs.reverse, [(k, vs)])) hk

end Mine

open PySem
namespace Mine

/-! ## from the text to the language -/
structure Tabs where
  fids : List (Str × Nat)
  consts : List (Str × Int)
  zips : Bool := false
  revs : Bool := false
  excs : List (Str × Nat) := []

/-- the slot of a name; the newest name stands first -/
noncomputable def slot : List Str → Str → Option Nat
  | [], _ => none
  | x :: r, y => if x == y then some r.length else slot r y

noncomputable def isVar (sc : Scope) (x : Str) : Bool := match sc.names.lookup x with
  | some .local | some .cell | some .free => true
  | _ => false
noncomputable def isOwn (sc : Scope) (x : Str) : Bool := match sc.names.lookup x with
  | some .local | some .cell => true
  | _ => false
noncomputable def isGlob (sc : Scope) (x : Str) : Bool := match sc.names.lookup x with
  | some .globalImplicit => true
  | _ => false

noncomputable def opOf : Operator → Option B
  | .Add => some .add | .Sub => some .sub | .Mult => some .mul | .Mod => some .mod | .FloorDiv => some .fdiv | .Pow => some .pow
  | _ => none
noncomputable def cmpOf : CmpOp → B
  | .Eq => .eq | .NotEq => .ne | .Lt => .lt | .LtE => .le | .Gt => .gt | .GtE => .ge | .In => .isin | .NotIn => .notin | .Is => .is_ | .IsNot => .isnot

/-- the built-in functions of one argument, of two -/
noncomputable def tab1 : List (Str × U) := [("tuple", .tuple), ("sum", .sum), ("sorted", .sorted), ("abs", .abs), ("str", .text), ("set", .set), ("reversed", .reversed), ("range", .upto), ("enumerate", .enumerate)]
noncomputable def tab2 : List (Str × B) := [("max", .max), ("min", .min), ("range", .range), ("zip", .zip)]
noncomputable def call1 (D : Tabs) (f : Str) (a : X) : Option X :=
  if f == ("len" : Str) then (match a with | .un .set e => some (.un .nset e) | a => some (.un .len a))
  else if f == ("list" : Str) then (match a with | .un .reversed e => if D.revs then some (.un .rev e) else none | a => some (.un .list a))
  else (tab1.lookup f).map fun u => .un u a
noncomputable def isiOf (f : Str) : Option U :=
  if f == ("int" : Str) then some .isInt else if f == ("bool" : Str) then some .isBool else if f == ("list" : Str) then some .isList
  else if f == ("tuple" : Str) then some .isTuple else none
noncomputable def call2 (f : Str) (a b : X) : Option X :=
  if f == ("isinstance" : Str) then (match b with | .glob t => (isiOf t).map fun u => .un u a | _ => none)
  else (tab2.lookup f).map fun o => .bin o a b
noncomputable def mkCall (D : Tabs) (f : Str) (as : List X) : Option X := match D.fids.lookup f with
  | some k => some (.call k as)
  | none => match as with
    | [a] => call1 D f a
    | [a, b] => call2 f a b
    | _ => none

/-- what is walked over -/
noncomputable def itOf : X → It × X × X
  | .un .upto a => (.range, .int 0, a)
  | .bin .range a b => (.range, a, b)
  | .un .enumerate a => (.enum, a, .none)
  | .un .reversed a => (.rev, a, .none)
  | e => (.seq, e, .none)

/-- a comprehension's block has no names of its own but its targets -/
noncomputable def okOwn (csc : Scope) (Γ xs : List Str) : Bool := csc.names.all fun p => match p.2 with
  | .local | .cell => xs.contains p.1 || (slot Γ p.1).isNone
  | _ => true

noncomputable def okIt : It → Nat → Bool
  | .enum, n => n == 2
  | _, n => n == 1

/-- a block's names are told once each; what is free stands in a cell around -/
noncomputable def okScope (sc : Scope) : Bool := sc.kind == .function && sc.names.all fun p => sc.names.lookup p.1 == some p.2
noncomputable def okComp (sc csc : Scope) : Bool := okScope csc && csc.names.all fun p => match p.2 with
  | .free => (match sc.names.lookup p.1 with | some .cell | some .free => true | _ => false)
  | _ => true

inductive Bnd {α β : Type} (a : Option α) (f : α → Option β) (z : β) : Prop where
  | mk (x : α) (h1 : a = some x) (h2 : f x = some z) : Bnd a f z
theorem Zk {α β : Type} {a : Option α} {f : α → Option β} {z : β} (h : a.bind f = some z) : Bnd a f z := by
  cases a with
  | none => cases h
  | some x => exact ⟨x, rfl, h⟩
inductive Mpd {α β : Type} (a : Option α) (f : α → β) (z : β) : Prop where
  | mk (x : α) (h1 : a = some x) (h2 : f x = z) : Mpd a f z
theorem map_some {α β : Type} {a : Option α} {f : α → β} {z : β} (h : a.map f = some z) : Mpd a f z := by
  cases a with
  | none => cases h
  | some x => exact ⟨x, rfl, Option.some.inj h⟩
noncomputable def opt2 {α β γ : Type} (a : Option α) (b : Option β) (f : α → β → Option γ) : Option γ := a.bind fun x => b.bind fun y => f x y
theorem opt2_some {α β γ : Type} {a : Option α} {b : Option β} {f : α → β → Option γ} {z : γ} (h : opt2 a b f = some z) : Ex2 fun x y => And3 (a = some x) (b = some y) (f x y = some z):= by
  cases a with
  | none => cases h
  | some x => cases b with
    | none => cases h
    | some y => exact ⟨x, y, rfl, rfl, h⟩
noncomputable def opt3 {α β γ δ : Type} (a : Option α) (b : Option β) (c : Option δ) (f : α → β → δ → Option γ) : Option γ := opt2 a b fun x y => c.bind fun z => f x y z
theorem opt3_some {α β γ δ : Type} {a : Option α} {b : Option β} {c : Option δ} {f : α → β → δ → Option γ} {z : γ} (h : opt3 a b c f = some z) : Ex3 fun x y w => And4 (a = some x) (b = some y) (c = some w) (f x y w = some z):= by
  obtain ⟨x, y, h1, h2, h3⟩ := opt2_some h
  cases c with
  | none => cases h3
  | some w => exact ⟨x, y, w, h1, h2, rfl, h3⟩
theorem if_some {α : Type} {c : Bool} {x : Option α} {y : α} (h : (if c = true then x else none) = some y) : c = true ∧ x = some y := by
  cases c with
  | false => cases h
  | true => exact ⟨rfl, h⟩
theorem ite_some {α : Type} {c : Prop} [Decidable c] {x : Option α} {y : α} (h : (if c then x else none) = some y) : c ∧ x = some y := by
  by_cases q : c
  · rw [if_pos q] at h; exact ⟨q, h⟩
  · rw [if_neg q] at h; cases h
noncomputable def one? {α : Type} : List α → Option α
  | [] => none
  | a :: r => match r with
    | [] => some a
    | _ :: _ => none
theorem one_eq {α : Type} {l : List α} {a : α} (h : one? l = some a) : l = [a] := by
  cases l with
  | nil => cases h
  | cons b r => cases r with
    | nil => cases h; rfl
    | cons _ _ => cases h
noncomputable def two? {α : Type} : List α → Option (α × α)
  | [] => none
  | a :: r => (one? r).map fun b => (a, b)
theorem two_eq {α : Type} {l : List α} {a b : α} (h : two? l = some (a, b)) : l = [a, b] := by
  cases l with
  | nil => cases h
  | cons c r =>
    obtain ⟨d, h1, h2⟩ := map_some h
    cases h2
    rw [one_eq h1]
theorem Zj {α : Type} {x : α} {M : Prop} (h : none = some x) : M := nomatch h
/-- the trees that are told apart by their form alone -/
noncomputable def sel {α : Type} (e : Expr) (n : Str → Option α) (t : List Expr → Option α) (s : Expr → Expr → Option α) (a : Expr → Str → Pos → Option α) (c : Expr → List Expr → List Keyword → Pos → Option α) : Option α := match e with
  | .Name f _ => n f
  | .Tuple es _ _ => t es
  | .Subscript o i _ => s o i
  | .Attribute o m p => a o m p
  | .Call f args kw p => c f args kw p
  | _ => none
noncomputable def nameOf (e : Expr) : Option Str := sel e some (fun _ => none) (fun _ _ => none) (fun _ _ _ => none) (fun _ _ _ _ => none)
theorem nameOf_eq {e : Expr} {f : Str} (h : nameOf e = some f) : ∃ p, e = .Name f p:= by
  cases e with
  | Name g p => cases h; exact ⟨p, rfl⟩
  | _ => exact Zj h
noncomputable def tupOf (e : Expr) : Option (List Expr) := sel e (fun _ => none) some (fun _ _ => none) (fun _ _ _ => none) (fun _ _ _ _ => none)
theorem tupOf_eq {e : Expr} {es : List Expr} (h : tupOf e = some es) : Ex2 fun k p => e = .Tuple es k p:= by
  cases e with
  | Tuple es k p => cases h; exact ⟨k, p, rfl⟩
  | _ => exact Zj h
noncomputable def subOf (e : Expr) : Option (Expr × Expr) := sel e (fun _ => none) (fun _ => none) (fun o i => some (o, i)) (fun _ _ _ => none) (fun _ _ _ _ => none)
theorem subOf_eq {e o i : Expr} (h : subOf e = some (o, i)) : ∃ p, e = .Subscript o i p:= by
  cases e with
  | Subscript o i p => cases h; exact ⟨p, rfl⟩
  | _ => exact Zj h
noncomputable def attrOf (e : Expr) : Option (Expr × Str × Pos) := sel e (fun _ => none) (fun _ => none) (fun _ _ => none) (fun o m p => some (o, m, p)) (fun _ _ _ _ => none)
theorem attrOf_eq {e o : Expr} {m : Str} {p : Pos} (h : attrOf e = some (o, m, p)) : e = .Attribute o m p := by
  cases e with
  | Attribute o m p => cases h; rfl
  | _ => exact Zj h
/-- a call without keywords -/
noncomputable def callOf (e : Expr) : Option (Expr × List Expr × Pos) := sel e (fun _ => none) (fun _ => none) (fun _ _ => none) (fun _ _ _ => none) fun f args kw p => match kw with
  | [] => some (f, args, p)
  | _ :: _ => none
theorem callOf_eq {e f : Expr} {args : List Expr} {p : Pos} (h : callOf e = some (f, args, p)) : e = .Call f args [] p := by
  cases e with
  | Call f args kw p => cases kw with
    | nil => cases h; rfl
    | cons _ _ => exact Zj h
  | _ => exact Zj h
noncomputable def pairOf (e : Expr) : Option (Str × Str) := (tupOf e).bind fun es => (two? es).bind fun p => opt2 (nameOf p.1) (nameOf p.2) fun x y => some (x, y)
theorem pairOf_eq {e : Expr} {x y : Str} (h : pairOf e = some (x, y)) : Ex4 fun p q k p' => e = .Tuple [.Name x p, .Name y q] k p':= by
  obtain ⟨es, h1, h⟩ := Zk h
  obtain ⟨⟨a, b⟩, h2, h⟩ := Zk h
  obtain ⟨x', y', h3, h4, h⟩ := opt2_some h
  cases h
  obtain ⟨k, p', rfl⟩ := tupOf_eq h1
  obtain ⟨p, rfl⟩ := nameOf_eq h3
  obtain ⟨q, rfl⟩ := nameOf_eq h4
  rw [two_eq h2]
  exact ⟨p, q, k, p', rfl⟩
/-- the names of a target -/
noncomputable def tgts (e : Expr) : Option (List Str) := match nameOf e with
  | some x => some [x]
  | none => (pairOf e).bind fun p => if p.1 == p.2 then none else some [p.1, p.2]
noncomputable def slots (Γ : List Str) : List Str → Option (List Nat)
  | [] => some []
  | x :: r => match slot Γ x, slots Γ r with | some i, some is => some (i :: is) | _, _ => none

noncomputable def cConst : Const → Option X
  | .none => some .none
  | .bool b => some (.bool b)
  | .int i => some (.int i)
  | .str s => some (.str s)
  | _ => none
noncomputable def cName (D : Tabs) (sc : Scope) (Γ : List Str) (x : Str) : Option X :=
  if x == ("__debug__" : Str) || x == ("__classdict__" : Str) then none
    else if isVar sc x then (slot Γ x).map .var
    else if isGlob sc x then (match D.consts.lookup x with | some i => some (.int i) | none => some (.glob x)) else none
noncomputable def cUn (op : PySem.UnaryOp) (x : Option X) : Option X := match op with
  | .USub => x.map (.un .neg)
  | .Not => x.map .not
  | _ => none
noncomputable def cBool (op : PySem.BoolOp) (v a o : Option X) : Option X := match op with
  | .And => opt2 v a fun x y => some (.and x y)
  | .Or => opt2 v o fun x y => some (.or x y)
noncomputable def zipOf : X → Option (X × X)
  | .bin o a b => if o = .zip then some (a, b) else none
  | _ => none
theorem zipOf_eq {x a b : X} (h : zipOf x = some (a, b)) : x = .bin .zip a b := by
  cases x with
  | bin o a b => obtain ⟨rfl, h⟩ := ite_some h; cases h; rfl
  | _ => exact Zj h
noncomputable def cComp (D : Tabs) (sc : Scope) (Γ : List Str) (_elt tg _iter : Expr) (ifs : List Expr) (csc : Scope) (it : Option X) (ez ci ei : List Str → Option X) : Option X := opt2 (tgts tg) it fun xs ix =>
  if okComp sc csc && okOwn csc Γ xs && xs.all (isOwn csc) then match zipOf ix with
    | some p => if D.zips && xs.length == 2 && ifs.isEmpty then (ez xs).map fun e => .zcomp e p.1 p.2 else none
    | none => if xs.length == 1 && okIt (itOf ix).1 xs.length then opt2 (ci xs) (ei xs) fun c e => some (.comp e xs.length (itOf ix).1 (itOf ix).2.1 (itOf ix).2.2 c) else none
  else none
theorem cComp_cases {D : Tabs} {sc : Scope} {Γ : List Str} {elt tg iter : Expr} {ifs : List Expr} {csc : Scope} {it : Option X} {ez ci ei : List Str → Option X} {x : X} (h : cComp D sc Γ elt tg iter ifs csc it ez ci ei = some x) :
    ∃ xs, tgts tg = some xs ∧ (okComp sc csc = true ∧ okOwn csc Γ xs = true ∧ ∀ z ∈ xs, isOwn csc z = true) ∧
      ((Ex3 fun a b e => And7 (it = some (.bin .zip a b)) (D.zips = true) (xs.length = 2) (ifs = []) (ez xs = some e) (True) (x = .zcomp e a b)) ∨
      Ex3 fun ix c e => And6 (it = some ix) (xs.length = 1) (okIt (itOf ix).1 xs.length = true) (ci xs = some c) (ei xs = some e) (x = .comp e xs.length (itOf ix).1 (itOf ix).2.1 (itOf ix).2.2 c)):= by
  obtain ⟨xs, ix, h1, h2, h⟩ := opt2_some h
  obtain ⟨hc, h⟩ := if_some h
  simp only [Bool.and_eq_true, List.all_eq_true] at hc
  refine ⟨xs, h1, ⟨hc.1.1, hc.1.2, hc.2⟩, ?_⟩
  cases hz : zipOf ix with
  | some p =>
    rw [hz] at h
    obtain ⟨hd, h⟩ := if_some h
    simp only [Bool.and_eq_true, beq_iff_eq, List.isEmpty_iff] at hd
    obtain ⟨e, q1, q2⟩ := map_some h
    exact .inl ⟨p.1, p.2, e, by rw [h2, zipOf_eq hz], hd.1.1, hd.1.2, hd.2, q1, trivial, q2.symm⟩
  | none =>
    rw [hz] at h
    obtain ⟨hd, h⟩ := if_some h
    simp only [Bool.and_eq_true, beq_iff_eq] at hd
    obtain ⟨c, e, q1, q2, q3⟩ := opt2_some h
    exact .inr ⟨ix, c, e, h2, hd.1, hd.2, q1, q2, (Option.some.inj q3).symm⟩
noncomputable def cCmp (ops : List CmpOp) (l : Option X) (rs : Option (List X)) : Option X := opt2 l rs fun a bs => match one? ops with
  | some op => (one? bs).bind fun b => some (.bin (cmpOf op) a b)
  | none => opt2 (two? ops) (two? bs) fun o p => some (.chain (cmpOf o.1) (cmpOf o.2) a p.1 p.2)
/-- the table {1: 2} -/
noncomputable def isNum (n : Int) : Expr → Bool
  | .Constant (.int i) _ _ => i == n
  | _ => false
theorem isNum_eq {n : Int} {e : Expr} (h : isNum n e = true) : Ex2 fun k p => e = .Constant (.int n) k p:= by
  cases e with
  | Constant c k p => cases c with
    | int i => exact ⟨k, p, by rw [eq_of_beq (show (i == n) = true from h)]⟩
    | _ => exact absurd h Bool.false_ne_true
  | _ => exact absurd h Bool.false_ne_true
noncomputable def cDict (ks : List (Option Expr)) (vs : List Expr) : Option X := (one? ks).bind fun k => k.bind fun k => (one? vs).bind fun v => if isNum 1 k && isNum 2 v then some .dct else none
theorem cDict_eq {ks : List (Option Expr)} {vs : List Expr} {x : X} (h : cDict ks vs = some x) : Ex4 fun k1 p1 k2 p2 => And3 (ks = [some (.Constant (.int 1) k1 p1)]) (vs = [.Constant (.int 2) k2 p2]) (x = .dct):= by
  obtain ⟨k, hk, h⟩ := Zk h
  obtain ⟨k', hk', h⟩ := Zk h
  obtain ⟨v, hv, h⟩ := Zk h
  obtain ⟨hc, h⟩ := if_some h
  cases h
  rw [Bool.and_eq_true] at hc
  obtain ⟨k1, p1, e1⟩ := isNum_eq hc.1
  obtain ⟨k2, p2, e2⟩ := isNum_eq hc.2
  exact ⟨k1, p1, k2, p2, by rw [one_eq hk, hk', e1], by rw [one_eq hv, e2], rfl⟩
mutual
noncomputable def cE (D : Tabs) (sc : Scope) (Γ : List Str) : Expr → Option X
  | .Constant c _ _ => cConst c
  | .Dict ks vs _ => cDict ks vs
  | .Name x _ => cName D sc Γ x
  | .BinOp l op r _ => opt3 (opOf op) (cE D sc Γ l) (cE D sc Γ r) fun o a b => some (.bin o a b)
  | .UnaryOp op e _ => cUn op (cE D sc Γ e)
  | .BoolOp op vs _ => match vs with
    | v :: vs => cBool op (cE D sc Γ v) (cAnd D sc Γ vs) (cOr D sc Γ vs)
    | [] => none
  | .IfExp t a b _ => opt3 (cE D sc Γ t) (cE D sc Γ a) (cE D sc Γ b) fun t a b => some (.ite t a b)
  | .Compare l ops rs _ => cCmp ops (cE D sc Γ l) (cEs D sc Γ rs)
  | .List es _ => if es.length ≤ 1000 then (cEs D sc Γ es).map .list else none
  | .Tuple es _ _ => if es.length ≤ 1000 then (cEs D sc Γ es).map .tup else none
  | .Subscript e i _ => match i with
    | .Slice lo hi st _ => match st with
      | none => opt3 (cE D sc Γ e) (cO D sc Γ lo) (cO D sc Γ hi) fun a l h => some (.slice a l h)
      | some _ => none
    | i => opt2 (cE D sc Γ e) (cE D sc Γ i) fun a b => some (.bin .item a b)
  | .Call f args kw _ => match kw with
    | [] => (nameOf f).bind fun f => if !(f == ("__debug__" : Str)) && isGlob sc f then (cEs D sc Γ args).bind fun as => mkCall D f as else none
    | _ :: _ => none
  | .ListComp elt gens csc _ => match gens with
    | [] => none
    | ⟨tg, iter, ifs, as⟩ :: r => match r with
      | [] => if as == 0 then cComp D sc Γ elt tg iter ifs csc (cE D sc Γ iter) (fun xs => cE D csc xs.reverse elt) (fun xs => cIf D csc (xs.reverse ++ Γ) ifs) (fun xs => cE D csc (xs.reverse ++ Γ) elt) else none
      | _ :: _ => none
  | _ => none
noncomputable def cO (D : Tabs) (sc : Scope) (Γ : List Str) : Option Expr → Option X
  | none => some .none
  | some e => cE D sc Γ e
noncomputable def cIf (D : Tabs) (sc : Scope) (Γ : List Str) : List Expr → Option X
  | [] => some (.bool true)
  | [e] => cE D sc Γ e
  | _ => none
noncomputable def cEs (D : Tabs) (sc : Scope) (Γ : List Str) : List Expr → Option (List X)
  | [] => some []
  | e :: r => opt2 (cE D sc Γ e) (cEs D sc Γ r) fun a as => some (a :: as)
noncomputable def cAnd (D : Tabs) (sc : Scope) (Γ : List Str) : List Expr → Option X
  | [] => none
  | [e] => cE D sc Γ e
  | e :: r => opt2 (cE D sc Γ e) (cAnd D sc Γ r) fun a b => some (.and a b)
noncomputable def cOr (D : Tabs) (sc : Scope) (Γ : List Str) : List Expr → Option X
  | [] => none
  | [e] => cE D sc Γ e
  | e :: r => opt2 (cE D sc Γ e) (cOr D sc Γ r) fun a b => some (.or a b)
end

section
variable {D : Tabs} {sc : Scope} {Γ : List Str}
theorem cEs_nil : cEs D sc Γ [] = some [] := rfl
theorem cEs_two {e : Expr} {r : List Expr} : cEs D sc Γ (e :: r) = opt2 (cE D sc Γ e) (cEs D sc Γ r) fun a as => some (a :: as) := rfl
theorem cO_none : cO D sc Γ none = some .none := rfl
theorem cIf_nil : cIf D sc Γ [] = some (.bool true) := rfl
theorem cIf_one {e : Expr} : cIf D sc Γ [e] = cE D sc Γ e := rfl
theorem cIf_two {e e' : Expr} {r : List Expr} : cIf D sc Γ (e :: e' :: r) = none := rfl
theorem cAnd_nil : cAnd D sc Γ [] = none := rfl
theorem cAnd_one {e : Expr} : cAnd D sc Γ [e] = cE D sc Γ e := rfl
theorem cAnd_two {e e' : Expr} {r : List Expr} : cAnd D sc Γ (e :: e' :: r) = opt2 (cE D sc Γ e) (cAnd D sc Γ (e' :: r)) fun a b => some (.and a b) := rfl
theorem cOr_nil : cOr D sc Γ [] = none := rfl
theorem cOr_one {e : Expr} : cOr D sc Γ [e] = cE D sc Γ e := rfl
theorem cOr_two {e e' : Expr} {r : List Expr} : cOr D sc Γ (e :: e' :: r) = opt2 (cE D sc Γ e) (cOr D sc Γ (e' :: r)) fun a b => some (.or a b) := rfl
end

noncomputable def plainBase (e : Expr) : Bool := (nameOf e).isSome || (subOf e).isSome

/-- a pair of names is told by a call alone (a written pair would exchange the stores) -/
noncomputable def plainPair (e : Expr) : Bool := (callOf e).isSome

noncomputable def cA1 (D : Tabs) (sc : Scope) (Γ : List Str) (x : Str) (v : Expr) : Option S := if isOwn sc x then opt2 (slot Γ x) (cE D sc Γ v) fun i e => some (.assign i e) else none
noncomputable def cA2 (D : Tabs) (sc : Scope) (Γ : List Str) (o i v : Expr) : Option S := opt3 (cE D sc Γ v) (cE D sc Γ o) (cE D sc Γ i) fun e a j => some (.setItem a j e)
noncomputable def cA3 (D : Tabs) (sc : Scope) (Γ : List Str) (x y : Str) (v : Expr) : Option S := if isOwn sc x && isOwn sc y && !(x == y) && plainPair v then opt3 (slot Γ x) (slot Γ y) (cE D sc Γ v) fun i j e => some (.unpack [i, j] e) else none
noncomputable def cAssign (D : Tabs) (sc : Scope) (Γ : List Str) (tgs : List Expr) (v : Expr) : Option S := (one? tgs).bind fun t => match nameOf t with
  | some x => cA1 D sc Γ x v
  | none => match subOf t with
    | some oi => cA2 D sc Γ oi.1 oi.2 v
    | none => (pairOf t).bind fun p => cA3 D sc Γ p.1 p.2 v
theorem cAssign_elim {D : Tabs} {sc : Scope} {Γ : List Str} {M : List Expr → S → Prop} {v : Expr} {tgs : List Expr} {x : S} (h1 : ∀ y p i e, isOwn sc y = true → slot Γ y = some i → cE D sc Γ v = some e → M [.Name y p] (.assign i e))
    (h2 : ∀ o k p e a j, cE D sc Γ v = some e → cE D sc Γ o = some a → cE D sc Γ k = some j → M [.Subscript o k p] (.setItem a j e))
    (h3 : ∀ y z p q k p' i j e, isOwn sc y = true → isOwn sc z = true → y ≠ z → plainPair v = true → slot Γ y = some i → slot Γ z = some j → cE D sc Γ v = some e → M [.Tuple [.Name y p, .Name z q] k p'] (.unpack [i, j] e))
    (h : cAssign D sc Γ tgs v = some x) : M tgs x := by
  obtain ⟨t, ht, hd⟩ := Zk h
  cases one_eq ht
  cases hn : nameOf t with
  | some y =>
    obtain ⟨p, rfl⟩ := nameOf_eq hn
    obtain ⟨q1, q⟩ := if_some (show cA1 D sc Γ y v = some x from hd)
    obtain ⟨i, e, q2, q3, q⟩ := opt2_some q
    cases q
    exact h1 _ _ _ _ q1 q2 q3
  | none => cases hs : subOf t with
    | some oi =>
      obtain ⟨o, k⟩ := oi
      obtain ⟨p, rfl⟩ := subOf_eq hs
      obtain ⟨e, a, j, q1, q2, q3, q⟩ := opt3_some (show cA2 D sc Γ o k v = some x from hd)
      cases q
      exact h2 _ _ _ _ _ _ q1 q2 q3
    | none =>
      rw [hn, hs] at hd
      obtain ⟨⟨y, z⟩, hp, hd⟩ := Zk hd
      obtain ⟨p, q, k, p', rfl⟩ := pairOf_eq hp
      obtain ⟨hc, hd⟩ := if_some (show cA3 D sc Γ y z v = some x from hd)
      obtain ⟨hc, q4⟩ := Bool.and_eq_true_iff.mp hc
      obtain ⟨hc, q3⟩ := Bool.and_eq_true_iff.mp hc
      obtain ⟨q1, q2⟩ := Bool.and_eq_true_iff.mp hc
      obtain ⟨i, j, e, g1, g2, g3, q⟩ := opt3_some hd
      cases q
      exact h3 _ _ _ _ _ _ _ _ _ q1 q2 (fun e => by rw [e, beq_self_eq_true] at q3; cases q3) q4 g1 g2 g3
noncomputable def callX : X → Option S
  | .call k as => some (.expr k as)
  | _ => none
theorem callX_eq {x : X} {y : S} (h : callX x = some y) : Ex2 fun k as => x = .call k as ∧ y = .expr k as:= by
  cases x with
  | call k as => cases h; exact ⟨_, _, rfl, rfl⟩
  | _ => exact Zj h
noncomputable def wordX (k : Nat) : X → Option S
  | .str _ => some (.raise k)
  | _ => none
theorem wordX_eq {k : Nat} {x : X} {y : S} (h : wordX k x = some y) : ∃ s, x = .str s ∧ y = .raise k:= by
  cases x with
  | str s => cases h; exact ⟨_, rfl, rfl⟩
  | _ => exact Zj h
noncomputable def cApp (D : Tabs) (sc : Scope) (Γ : List Str) (o : Expr) (mth : Str) (l : Bool) (args : List Expr) : Option S := (one? args).bind fun g => if mth == ("append" : Str) && l && plainBase o then opt2 (cE D sc Γ o) (cE D sc Γ g) fun a e => some (.append a e) else none
theorem cApp_eq {D : Tabs} {sc : Scope} {Γ : List Str} {o : Expr} {mth : Str} {l : Bool} {args : List Expr} {x : S} (h : cApp D sc Γ o mth l args = some x) : Ex3 fun g a e => And7 (mth = "append") (args = [g]) (l = true) (plainBase o = true) (cE D sc Γ o = some a) (cE D sc Γ g = some e) (x = .append a e):= by
  obtain ⟨g, hg, hd⟩ := Zk h
  obtain ⟨hc, hd⟩ := if_some hd
  obtain ⟨hc, q3⟩ := Bool.and_eq_true_iff.mp hc
  obtain ⟨q1, q2⟩ := Bool.and_eq_true_iff.mp hc
  obtain ⟨a, e, g1, g2, q⟩ := opt2_some hd
  exact ⟨g, a, e, eq_of_beq q1, one_eq hg, q2, q3, g1, g2, (Option.some.inj q).symm⟩
noncomputable def cExpr (D : Tabs) (sc : Scope) (Γ : List Str) (e : Expr) : Option S := (callOf e).bind fun c => match attrOf c.1 with
  | some a => cApp D sc Γ a.1 a.2.1 (a.2.2.endLine == c.2.2.line) c.2.1
  | none => (nameOf c.1).bind fun _ => (cE D sc Γ e).bind callX
theorem cExpr_elim {D : Tabs} {sc : Scope} {Γ : List Str} {M : Expr → S → Prop} {e : Expr} {x : S} (h1 : ∀ o ap g cp a e, (ap.endLine == cp.line) = true → plainBase o = true → cE D sc Γ o = some a → cE D sc Γ g = some e → M (.Call (.Attribute o "append" ap) [g] [] cp) (.append a e))
    (h2 : ∀ f fp args cp k as, cE D sc Γ (.Call (.Name f fp) args [] cp) = some (.call k as) → M (.Call (.Name f fp) args [] cp) (.expr k as)) (h : cExpr D sc Γ e = some x) : M e x := by
  obtain ⟨⟨fe, args, cp⟩, he, hd⟩ := Zk h
  cases callOf_eq he
  cases ha : attrOf fe with
  | some am =>
    obtain ⟨o, mth, ap⟩ := am
    cases attrOf_eq ha
    obtain ⟨g, a, e, rfl, rfl, q1, q2, g1, g2, rfl⟩ := cApp_eq hd
    exact h1 _ _ _ _ _ _ q1 q2 g1 g2
  | none =>
    rw [ha] at hd
    obtain ⟨f, hf, hd⟩ := Zk hd
    obtain ⟨fp, rfl⟩ := nameOf_eq hf
    obtain ⟨e, he, hd⟩ := Zk hd
    obtain ⟨k, as, rfl, rfl⟩ := callX_eq hd
    exact h2 _ _ _ _ _ _ he
/-- an exception of the text's own, with words -/
noncomputable def cRaise (D : Tabs) (sc : Scope) (Γ : List Str) (e c : Option Expr) : Option S := if c.isNone then (e.bind callOf).bind fun q => (nameOf q.1).bind fun f => if isGlob sc f && !(f == ("__debug__" : Str)) then opt2 (D.excs.lookup f) ((one? q.2.1).bind (cE D sc Γ)) fun k x => wordX k x else none else none
theorem cRaise_is {D : Tabs} {sc : Scope} {Γ : List Str} {e c : Option Expr} {x : S} (h : cRaise D sc Γ e c = some x) : ∃ k, x = .raise k:= by
  unfold cRaise at h
  obtain ⟨_, h⟩ := if_some h
  obtain ⟨q, _, h⟩ := Zk h
  obtain ⟨f, _, h⟩ := Zk h
  obtain ⟨_, h⟩ := if_some h
  obtain ⟨k, x', _, _, h⟩ := opt2_some h
  obtain ⟨_, _, h⟩ := wordX_eq h
  exact ⟨k, h⟩
mutual
noncomputable def cS (D : Tabs) (sc : Scope) (Γ : List Str) : Stmt → Option S
  | .Assign tgs v _ => cAssign D sc Γ tgs v
  | .Expr e _ => cExpr D sc Γ e
  | .If t b c _ => opt3 (cE D sc Γ t) (cSs D sc Γ b) (cSs D sc Γ c) fun t b c => some (.ite t b c)
  | .While t b el _ => match el with
    | [] => opt2 (cE D sc Γ t) (cSs D sc Γ b) fun t b => some (.loop t b)
    | _ :: _ => none
  | .For tg iter b el _ => match el with
    | [] => opt3 (tgts tg) (cE D sc Γ iter) (cSs D sc Γ b) fun xs ix b => if xs.all (isOwn sc) && okIt (itOf ix).1 xs.length then (slots Γ xs).bind fun is => some (.each is (itOf ix).1 (itOf ix).2.1 (itOf ix).2.2 b) else none
    | _ :: _ => none
  | .Return e _ => e.bind fun e => (cE D sc Γ e).map .ret
  | .Raise e c _ => cRaise D sc Γ e c
  | _ => none
noncomputable def cSs (D : Tabs) (sc : Scope) (Γ : List Str) : List Stmt → Option (List S)
  | [] => some []
  | s :: r => opt2 (cS D sc Γ s) (cSs D sc Γ r) fun a as => some (a :: as)
end

theorem cSs_nil {D : Tabs} {sc : Scope} {Γ : List Str} : cSs D sc Γ [] = some [] := rfl
theorem cSs_two {D : Tabs} {sc : Scope} {Γ : List Str} {e : Stmt} {r : List Stmt} : cSs D sc Γ (e :: r) = opt2 (cS D sc Γ e) (cSs D sc Γ r) fun a as => some (a :: as) := rfl

/-- the names of a def's own, the newest first -/
noncomputable def ownNames (sc : Scope) : List Str := ((sc.names.filter fun p => p.2 == .local || p.2 == .cell).map (·.1)).reverse
noncomputable def cFn (D : Tabs) (sc : Scope) (params : List Str) (body : List Stmt) : Option Fn :=
  if okScope sc && !sc.isGenerator && !sc.isCoroutine && (ownNames sc).reverse.take params.length == params && sc.names.all (fun p => p.2 != .free) && decide (ownNames sc).Nodup then
    (cSs D sc (ownNames sc) body).map fun b => ⟨params.length, (ownNames sc).length, b⟩
  else none
/-- a compiled comprehension -/
theorem inv_comp {D : Tabs} {sc : Scope} {Γ : List Str} {elt : Expr} {gens : List Comprehension} {csc : Scope} {p : Pos} {x : X} (h : cE D sc Γ (.ListComp elt gens csc p) = some x) :
    Ex3 fun tg iter ifs => gens = [⟨tg, iter, ifs, 0⟩] ∧ cComp D sc Γ elt tg iter ifs csc (cE D sc Γ iter) (fun xs => cE D csc xs.reverse elt) (fun xs => cIf D csc (xs.reverse ++ Γ) ifs) (fun xs => cE D csc (xs.reverse ++ Γ) elt) = some x:= by
  cases gens with
  | nil => exact Zj h
  | cons g r =>
    obtain ⟨tg, iter, ifs, as⟩ := g
    cases r with
    | nil =>
      obtain ⟨q, h⟩ := if_some (show (if (as == 0) = true then cComp D sc Γ elt tg iter ifs csc (cE D sc Γ iter) (fun xs => cE D csc xs.reverse elt) (fun xs => cIf D csc (xs.reverse ++ Γ) ifs) (fun xs => cE D csc (xs.reverse ++ Γ) elt) else none) = some x from h)
      cases eq_of_beq q
      exact ⟨tg, iter, ifs, rfl, h⟩
    | cons _ _ => exact Zj h
section
variable {D : Tabs} {sc : Scope} {Γ : List Str}
/-- the cases of a compiled tree -/
theorem cE_elim {M : Expr → X → Prop} (h0 : ∀ k1 p1 k2 p2 p, M (.Dict [some (.Constant (.int 1) k1 p1)] [.Constant (.int 2) k2 p2] p) .dct) (h1 : ∀ c k p x, cConst c = some x → M (.Constant c k p) x) (h2 : ∀ y p x, cName D sc Γ y = some x → M (.Name y p) x)
    (h3 : ∀ l op r p o a b, opOf op = some o → cE D sc Γ l = some a → cE D sc Γ r = some b → M (.BinOp l op r p) (.bin o a b))
    (h4 : ∀ op e p x, cUn op (cE D sc Γ e) = some x → M (.UnaryOp op e p) x) (h5 : ∀ op v vs p x, cBool op (cE D sc Γ v) (cAnd D sc Γ vs) (cOr D sc Γ vs) = some x → M (.BoolOp op (v :: vs) p) x)
    (h6 : ∀ t a b p t' a' b', cE D sc Γ t = some t' → cE D sc Γ a = some a' → cE D sc Γ b = some b' → M (.IfExp t a b p) (.ite t' a' b'))
    (h7 : ∀ l ops rs p x, cCmp ops (cE D sc Γ l) (cEs D sc Γ rs) = some x → M (.Compare l ops rs p) x)
    (h8 : ∀ es p xs, es.length ≤ 1000 → cEs D sc Γ es = some xs → M (.List es p) (.list xs)) (h9 : ∀ es k p xs, es.length ≤ 1000 → cEs D sc Γ es = some xs → M (.Tuple es k p) (.tup xs))
    (h10 : ∀ e lo hi q p a l h, cE D sc Γ e = some a → cO D sc Γ lo = some l → cO D sc Γ hi = some h → M (.Subscript e (.Slice lo hi none q) p) (.slice a l h))
    (h11 : ∀ e i p a b, (∀ lo hi q, i ≠ .Slice lo hi none q) → cE D sc Γ e = some a → cE D sc Γ i = some b → M (.Subscript e i p) (.bin .item a b))
    (h12 : ∀ f p args pos as x, (f == ("__debug__" : Str)) = false → isGlob sc f = true → cEs D sc Γ args = some as → mkCall D f as = some x → M (.Call (.Name f p) args [] pos) x)
    (h13 : ∀ elt tg iter ifs csc p x, cComp D sc Γ elt tg iter ifs csc (cE D sc Γ iter) (fun xs => cE D csc xs.reverse elt) (fun xs => cIf D csc (xs.reverse ++ Γ) ifs) (fun xs => cE D csc (xs.reverse ++ Γ) elt) = some x → M (.ListComp elt [⟨tg, iter, ifs, 0⟩] csc p) x) :
    ∀ e x, cE D sc Γ e = some x → M e x := fun e x h => by
  cases e with
  | Dict ks vs p => obtain ⟨k1, p1, k2, p2, rfl, rfl, rfl⟩ := cDict_eq (show cDict ks vs = some x from h); exact h0 _ _ _ _ _
  | Constant c k p => exact h1 _ _ _ _ h
  | Name y p => exact h2 _ _ _ h
  | BinOp l op r p => obtain ⟨_, _, _, q1, q2, q3, q4⟩ := opt3_some (show opt3 (opOf op) (cE D sc Γ l) (cE D sc Γ r) (fun o a b => some (.bin o a b)) = some x from h); cases q4; exact h3 _ _ _ _ _ _ _ q1 q2 q3
  | UnaryOp op e p => exact h4 _ _ _ _ h
  | BoolOp op vs p => cases vs with
    | nil => exact Zj h
    | cons v vs => exact h5 _ _ _ _ _ h
  | IfExp t a b p => obtain ⟨_, _, _, q1, q2, q3, q4⟩ := opt3_some (show opt3 (cE D sc Γ t) (cE D sc Γ a) (cE D sc Γ b) (fun t a b => some (.ite t a b)) = some x from h); cases q4; exact h6 _ _ _ _ _ _ _ q1 q2 q3
  | Compare l ops rs p => exact h7 _ _ _ _ _ h
  | List es p =>
    obtain ⟨hz, h⟩ := ite_some (show (if es.length ≤ 1000 then (cEs D sc Γ es).map X.list else none) = some x from h)
    obtain ⟨xs, hxs, rfl⟩ := map_some h
    exact h8 _ _ _ hz hxs
  | Tuple es k p =>
    obtain ⟨hz, h⟩ := ite_some (show (if es.length ≤ 1000 then (cEs D sc Γ es).map X.tup else none) = some x from h)
    obtain ⟨xs, hxs, rfl⟩ := map_some h
    exact h9 _ _ _ _ hz hxs
  | Subscript e i p =>
    have item : (∀ lo hi st q, i ≠ .Slice lo hi st q) → opt2 (cE D sc Γ e) (cE D sc Γ i) (fun a b => some (.bin .item a b)) = some x → M (.Subscript e i p) x := fun hns h => by
      obtain ⟨_, _, q1, q2, q3⟩ := opt2_some h; cases q3; exact h11 _ _ _ _ _ (fun lo hi q e => hns lo hi none q e) q1 q2
    cases i with
    | Slice lo hi st q => cases st with
      | none => obtain ⟨_, _, _, q1, q2, q3, q4⟩ := opt3_some (show opt3 (cE D sc Γ e) (cO D sc Γ lo) (cO D sc Γ hi) (fun a l h => some (.slice a l h)) = some x from h); cases q4; exact h10 _ _ _ _ _ _ _ _ q1 q2 q3
      | some _ => exact Zj h
    | _ => exact item (fun _ _ _ _ => Expr.noConfusion) h
  | Call f args kw p => cases kw with
    | cons _ _ => exact Zj h
    | nil =>
      obtain ⟨f, hf, h⟩ := Zk (show ((nameOf f).bind fun f => if !(f == ("__debug__" : Str)) && isGlob sc f then (cEs D sc Γ args).bind fun as => mkCall D f as else none) = some x from h)
      obtain ⟨p, rfl⟩ := nameOf_eq hf
      obtain ⟨hn, h⟩ := if_some h
      obtain ⟨as, has, h⟩ := Zk h
      simp only [Bool.and_eq_true, Bool.not_eq_true'] at hn
      exact h12 _ _ _ _ _ _ hn.1 hn.2 has h
  | ListComp elt gens csc p =>
    obtain ⟨tg, iter, ifs, rfl, q⟩ := inv_comp h
    exact h13 _ _ _ _ _ _ _ q
  | _ => exact Zj h
end
theorem cEs_cons {D : Tabs} {sc : Scope} {Γ : List Str} {e : Expr} {r : List Expr} {xs : List X} (h : cEs D sc Γ (e :: r) = some xs) : Ex2 fun a as => And3 (cE D sc Γ e = some a) (cEs D sc Γ r = some as) (xs = a :: as):= by
  rw [cEs_two] at h
  obtain ⟨a, as, h1, h2, h3⟩ := opt2_some h
  cases h3
  exact ⟨a, as, h1, h2, rfl⟩
theorem cSs_cons {D : Tabs} {sc : Scope} {Γ : List Str} {e : Stmt} {r : List Stmt} {xs : List S} (h : cSs D sc Γ (e :: r) = some xs) : Ex2 fun a as => And3 (cS D sc Γ e = some a) (cSs D sc Γ r = some as) (xs = a :: as):= by
  rw [cSs_two] at h
  obtain ⟨a, as, h1, h2, h3⟩ := opt2_some h
  cases h3
  exact ⟨a, as, h1, h2, rfl⟩
/-- the cases of a compiled statement -/
theorem cS_elim {D : Tabs} {sc : Scope} {Γ : List Str} {M : Stmt → S → Prop} (h1 : ∀ tgs v p x, cAssign D sc Γ tgs v = some x → M (.Assign tgs v p) x) (h2 : ∀ e p x, cExpr D sc Γ e = some x → M (.Expr e p) x)
    (h3 : ∀ t b c p t' b' c', cE D sc Γ t = some t' → cSs D sc Γ b = some b' → cSs D sc Γ c = some c' → M (.If t b c p) (.ite t' b' c'))
    (h4 : ∀ t b p t' b', cE D sc Γ t = some t' → cSs D sc Γ b = some b' → M (.While t b [] p) (.loop t' b'))
    (h5 : ∀ tg iter b p xs ix b' is, tgts tg = some xs → cE D sc Γ iter = some ix → cSs D sc Γ b = some b' → (xs.all (isOwn sc) && okIt (itOf ix).1 xs.length) = true → slots Γ xs = some is → M (.For tg iter b [] p) (.each is (itOf ix).1 (itOf ix).2.1 (itOf ix).2.2 b'))
    (h6 : ∀ e p e', cE D sc Γ e = some e' → M (.Return (some e) p) (.ret e')) (h7 : ∀ a b p x, cRaise D sc Γ a b = some x → M (.Raise a b p) x) :
    ∀ s x, cS D sc Γ s = some x → M s x := fun s x h => by
  cases s with
  | Assign tgs v p => exact h1 _ _ _ _ h
  | Expr e p => exact h2 _ _ _ h
  | If t b c p => obtain ⟨_, _, _, q1, q2, q3, q4⟩ := opt3_some (show opt3 (cE D sc Γ t) (cSs D sc Γ b) (cSs D sc Γ c) (fun t b c => some (.ite t b c)) = some x from h); cases q4; exact h3 _ _ _ _ _ _ _ q1 q2 q3
  | While t b el p => cases el with
    | nil => obtain ⟨_, _, q1, q2, q3⟩ := opt2_some (show opt2 (cE D sc Γ t) (cSs D sc Γ b) (fun t b => some (.loop t b)) = some x from h); cases q3; exact h4 _ _ _ _ _ q1 q2
    | cons _ _ => exact Zj h
  | For tg iter b el p => cases el with
    | nil =>
      obtain ⟨_, _, _, q1, q2, q3, q4⟩ := opt3_some (show opt3 (tgts tg) (cE D sc Γ iter) (cSs D sc Γ b) (fun xs ix b => if xs.all (isOwn sc) && okIt (itOf ix).1 xs.length then (slots Γ xs).bind fun is => some (.each is (itOf ix).1 (itOf ix).2.1 (itOf ix).2.2 b) else none) = some x from h)
      obtain ⟨q5, q6⟩ := if_some q4
      obtain ⟨is, q7, q8⟩ := Zk q6
      cases q8
      exact h5 _ _ _ _ _ _ _ _ q1 q2 q3 q5 q7
    | cons _ _ => exact Zj h
  | Return e p => cases e with
    | none => exact Zj h
    | some e =>
      obtain ⟨e', q1, rfl⟩ := map_some (show (cE D sc Γ e).map S.ret = some x from h)
      exact h6 _ _ _ q1
  | Raise a b p => exact h7 _ _ _ _ h
  | _ => exact Zj h
theorem Zl {α : Type} {l l' : List α} (p : l <+: l') {k : Nat} {a : α} (e : l[k]? = some a) : l'[k]? = some a := by
  obtain ⟨t, rfl⟩ := p
  have hk : k < l.length := by
    rcases Nat.lt_or_ge k l.length with q | q
    · exact q
    · rw [List.getElem?_eq_none q] at e; cases e
  rw [List.getElem?_append_left hk]; exact e
end Mine

open PySem
namespace Mine

/-! ## how the machine's heap bears the abstract values -/
/-- the table {1: 2} -/
noncomputable def DctObj (o : Obj) : Prop := o.cls = .type "dict" ∧ Ex4 fun hs t u n => o.data = .dict #[⟨hs, .int 1 t, .int 2 u⟩] n
mutual
noncomputable def Rep (base : Heap) (φ : List Addr) (h : Heap) : V → Value → Prop
  | .none, v => v = .none
  | .bool b, v => v = .bool b
  | .int i, v => ∃ t, v = .int i t
  | .str s, v => ∃ t, v = .str s t
  | .ref k, v => ∃ a, v = .ref a ∧ φ[k]? = some a
  | .tup xs, v => Ex2 fun a vs => And4 (v = .ref a) (h.IsTuple a vs.toArray) (RepL base φ h xs vs) (xs.length ≤ room)
  | .frz xs, v => Ex2 fun a vs => And4 (v = .ref a) (base.IsList a vs.toArray) (PyProof.Rows.IntsAre vs xs) (xs.length ≤ room)
  | .dct, v => Ex2 fun a o => And4 (v = .ref a) (a ≠ sysModules) (h.get? a = some o) (DctObj o)
noncomputable def RepL (base : Heap) (φ : List Addr) (h : Heap) : List V → List Value → Prop
  | [], vs => vs = []
  | x :: xs, vs => Ex2 fun v r => And3 (vs = v :: r) (Rep base φ h x v) (RepL base φ h xs r)
end

noncomputable def TupObj (o : Obj) : Prop := (o.cls = .type "tuple" ∧ Ex2 fun vs n => o.data = .seq vs n) ∨ DctObj o
theorem TupObj.not_list {o : Obj} (t : TupObj o) : o.cls ≠ .type "list" := fun q => by
  rcases t with ⟨c, _⟩ | ⟨c, _⟩ <;> (rw [c] at q; simp at q)
theorem TupObj.not_fields {o : Obj} (t : TupObj o) {fs : Array Value} : o.data ≠ .fields fs := fun q => by
  rcases t with ⟨_, _, _, d⟩ | ⟨_, _, _, _, _, d⟩ <;> (rw [d] at q; cases q)
theorem TupObj.not_ns {o : Obj} (t : TupObj o) {es : Array DictEntry} {n : Nat} (d : o.data = .dict es n) : ¬ StrKeys es := fun q => by
  rcases t with ⟨_, _, _, d'⟩ | ⟨_, hs, t, u, n', d'⟩
  · rw [d'] at d; cases d
  · rw [d'] at d; cases d
    obtain ⟨_, _, e⟩ := q ⟨hs, .int 1 t, .int 2 u⟩ (by simp)
    cases e

section
variable {base : Heap} {φ φ' : List Addr} {h h' : Heap}


mutual
theorem Rep.mono (hφ : φ <+: φ') (ht : ∀ a o, h.get? a = some o → TupObj o → h'.get? a = some o) :
    ∀ (x : V) (v : Value), Rep base φ h x v → Rep base φ' h' x v
  | .none, _, r => r
  | .bool _, _, r => r
  | .int _, _, r => r
  | .str _, _, r => r
  | .ref _, _, ⟨a, e, k⟩ => ⟨a, e, Zl hφ k⟩
  | .tup xs, _, ⟨a, vs, e, ⟨o, ho, hc, n, hd⟩, r, z⟩ => ⟨a, vs, e, ⟨o, ht a o ho (.inl ⟨hc, _, n, hd⟩), hc, n, hd⟩, RepL.mono hφ ht xs vs r, z⟩
  | .frz _, _, r => r
  | .dct, _, ⟨a, o, e, hn, ho, d⟩ => ⟨a, o, e, hn, ht a o ho (.inr d), d⟩
theorem RepL.mono (hφ : φ <+: φ') (ht : ∀ a o, h.get? a = some o → TupObj o → h'.get? a = some o) :
    ∀ (xs : List V) (vs : List Value), RepL base φ h xs vs → RepL base φ' h' xs vs
  | [], _, r => r
  | x :: xs, _, ⟨v, r, e, hv, hr⟩ => ⟨v, r, e, Rep.mono hφ ht x v hv, RepL.mono hφ ht xs r hr⟩
end

theorem RepL.length : ∀ {xs : List V} {vs : List Value}, RepL base φ h xs vs → vs.length = xs.length
  | [], _, r => by rw [show _ = [] from r]; rfl
  | _ :: _, _, ⟨_, _, e, _, hr⟩ => by rw [e, List.length_cons, List.length_cons, RepL.length hr]

theorem RepL.get : ∀ {xs : List V} {vs : List Value}, RepL base φ h xs vs → ∀ {i : Nat} {x : V}, xs[i]? = some x → ∃ v, vs[i]? = some v ∧ Rep base φ h x v
  | [], _, _, _, _, e => by simp at e
  | _ :: _, _, ⟨v, r, e, hv, hr⟩, 0, x, q => by
    simp only [List.getElem?_cons_zero, Option.some.injEq] at q
    subst q; subst e; exact ⟨v, rfl, hv⟩
  | _ :: _, _, ⟨v, r, e, hv, hr⟩, i + 1, x, q => by
    simp only [List.getElem?_cons_succ] at q
    subst e
    obtain ⟨w, hw, rw⟩ := RepL.get hr q
    exact ⟨w, by simpa using hw, rw⟩

theorem RepL.append : ∀ {xs ys : List V} {vs ws : List Value}, RepL base φ h xs vs → RepL base φ h ys ws → RepL base φ h (xs ++ ys) (vs ++ ws)
  | [], _, _, _, r, r' => by rw [show _ = [] from r]; exact r'
  | _ :: _, _, _, _, ⟨v, r, e, hv, hr⟩, r' => by subst e; exact ⟨v, _, rfl, hv, RepL.append hr r'⟩

theorem RepL.set : ∀ {xs : List V} {vs : List Value}, RepL base φ h xs vs → ∀ {i : Nat} {x : V} {v : Value}, Rep base φ h x v → RepL base φ h (xs.set i x) (vs.set i v)
  | [], _, r, _, _, _, _ => by rw [show _ = [] from r]; rfl
  | _ :: _, _, ⟨v, r, e, hv, hr⟩, 0, x, w, hw => by subst e; exact ⟨w, r, rfl, hw, hr⟩
  | _ :: _, _, ⟨v, r, e, hv, hr⟩, i + 1, x, w, hw => by subst e; exact ⟨v, _, rfl, hv, RepL.set hr hw⟩

theorem RepL.take : ∀ (n : Nat) {xs : List V} {vs : List Value}, RepL base φ h xs vs → RepL base φ h (xs.take n) (vs.take n)
  | 0, _, _, _ => rfl
  | n + 1, [], _, r => by rw [show _ = [] from r]; rfl
  | n + 1, _ :: _, _, ⟨v, r, e, hv, hr⟩ => by subst e; exact ⟨v, _, rfl, hv, RepL.take n hr⟩
theorem RepL.drop : ∀ (n : Nat) {xs : List V} {vs : List Value}, RepL base φ h xs vs → RepL base φ h (xs.drop n) (vs.drop n)
  | 0, _, _, r => by simpa using r
  | n + 1, [], _, r => by rw [show _ = [] from r]; rfl
  | n + 1, _ :: _, _, ⟨v, r, e, hv, hr⟩ => by subst e; simpa using RepL.drop n hr
theorem RepL.reverse : ∀ {xs : List V} {vs : List Value}, RepL base φ h xs vs → RepL base φ h xs.reverse vs.reverse
  | [], _, r => by rw [show _ = [] from r]; rfl
  | _ :: _, _, ⟨v, r, e, hv, hr⟩ => by
    subst e
    rw [List.reverse_cons, List.reverse_cons]
    exact RepL.append (RepL.reverse hr) ⟨v, [], rfl, hv, rfl⟩
theorem RepL.replicate {x : V} {v : Value} (r : Rep base φ h x v) : ∀ n : Nat, RepL base φ h (List.replicate n x) (List.replicate n v)
  | 0 => rfl
  | n + 1 => ⟨v, _, rfl, r, RepL.replicate r n⟩

theorem ints_areL {xs : List V} : ∀ {is : List Int} {vs : List Value}, zl? xs = some is → RepL base φ h xs vs → PyProof.Rows.IntsAre vs is := by
  induction xs with
  | nil => intro is vs e r; cases e; rw [show vs = [] from r]; exact .nil
  | cons x xs ih =>
    rintro is _ e ⟨v, r, rfl, hx, hr⟩
    cases x with
    | int i =>
      obtain ⟨js, hjs, rfl⟩ := map_some (show (zl? xs).map (i :: ·) = some is from e)
      obtain ⟨t, rfl⟩ := hx
      exact .cons _ _ (ih hjs hr)
    | _ => exact Zj e
theorem ints_repL {is : List Int} {vs : List Value} (r : PyProof.Rows.IntsAre vs is) : RepL base φ h (zl is) vs := by
  induction r with
  | nil => rfl
  | cons _ _ _ ih => exact ⟨_, _, rfl, ⟨_, rfl⟩, ih⟩
end

theorem nodup_get {α : Type} : ∀ {l : List α}, l.Nodup → ∀ {i j : Nat} {a : α}, l[i]? = some a → l[j]? = some a → i = j
  | [], _, _, _, _, e, _ => by simp at e
  | x :: r, N, 0, 0, _, _, _ => rfl
  | x :: r, N, 0, j + 1, a, e, e' => by
    simp only [List.getElem?_cons_zero, Option.some.injEq, List.getElem?_cons_succ] at e e'
    subst e; exact absurd (List.mem_of_getElem? e') (List.nodup_cons.mp N).1
  | x :: r, N, i + 1, 0, a, e, e' => by
    simp only [List.getElem?_cons_zero, Option.some.injEq, List.getElem?_cons_succ] at e e'
    subst e'; exact absurd (List.mem_of_getElem? e) (List.nodup_cons.mp N).1
  | x :: r, N, i + 1, j + 1, a, e, e' => by
    simp only [List.getElem?_cons_succ] at e e'
    rw [nodup_get (List.nodup_cons.mp N).2 e e']

/-! ## the relation -/
structure Rel (base : Heap) (φ : List Addr) (H : Hp) (h : Heap) : Prop where
  keep : ∀ a o, base.get? a = some o → h.get? a = some o
  len : φ.length = H.length
  nodup : φ.Nodup
  fresh : ∀ a ∈ φ, base.get? a = none
  small : ∀ xs ∈ H, xs.length ≤ room
  lists : ∀ (k : Nat) (a : Addr), φ[k]? = some a → Ex3 fun vs n xs => And3 (h.get? a = some ⟨.type "list", none, .seq vs.toArray n, #[]⟩) (H[k]? = some xs) (RepL base φ h xs vs)

/-- from a state to a later one: the lists φ and what is `own` may turn, all else stays -/
structure Step (own φ φ' : List Addr) (s s' : Shared) : Prop where
  pre : φ <+: φ'
  new : ∀ a ∈ φ', a ∉ φ → s.heap.get? a = none
  evo : ∀ a o, s.heap.get? a = some o → a ∉ φ → a ∉ own → s'.heap.get? a = some o
  live : ∀ a, (s.heap.get? a).isSome → (s'.heap.get? a).isSome
  same : ∃ h tk, s' = { s with heap := h, toks := tk }

theorem Step.refl (own φ : List Addr) (s : Shared) : Step own φ φ s s :=
  ⟨List.prefix_refl _, fun _ h h' => absurd h h', fun _ _ e _ _ => e, fun _ e => e, ⟨s.heap, s.toks, rfl⟩⟩

theorem Step.trans {own φ φ' φ'' : List Addr} {s s' s'' : Shared} (x : Step own φ φ' s s') (y : Step own φ' φ'' s' s'') : Step own φ φ'' s s'' := by
  have old : ∀ a ∈ φ'', a ∉ φ → s.heap.get? a = none := fun a ha hn => by
    by_cases h' : a ∈ φ'
    · exact x.new a h' hn
    · cases q : s.heap.get? a with
      | none => rfl
      | some o =>
        have := x.live a (by rw [q]; rfl)
        rw [y.new a ha h'] at this; cases this
  refine ⟨x.pre.trans y.pre, old, fun a o e hn ho => ?_, fun a e => y.live a (x.live a e), ?_⟩
  · refine y.evo a o (x.evo a o e hn ho) (fun q => ?_) ho
    have := x.new a q hn
    rw [e] at this; cases this
  · obtain ⟨h, t, e⟩ := x.same
    obtain ⟨h', t', e'⟩ := y.same
    exact ⟨h', t', by rw [e', e]⟩

theorem Step.weaken {own own' φ φ' : List Addr} {s s' : Shared} (x : Step own φ φ' s s') (h : ∀ a ∈ own, a ∈ own') : Step own' φ φ' s s' :=
  ⟨x.pre, x.new, fun a o e h1 h2 => x.evo a o e h1 fun q => h2 (h a q), x.live, x.same⟩

/-- nothing but new things -/
theorem Step.grow {own φ : List Addr} {s : Shared} {h : Heap} {tk : Nat} (hk : ∀ a o, s.heap.get? a = some o → h.get? a = some o) : Step own φ φ s { s with heap := h, toks := tk } :=
  ⟨List.prefix_refl _, fun _ h h' => absurd h h', fun a o e _ _ => hk a o e, fun a e => by
    obtain ⟨o, ho⟩ := Option.isSome_iff_exists.mp e
    rw [show ({ s with heap := h, toks := tk } : Shared).heap.get? a = some o from hk a o ho]; rfl, ⟨h, tk, rfl⟩⟩

/-- a new list -/
theorem Step.alloc {own φ : List Addr} {s : Shared} {h : Heap} {tk : Nat} {a : Addr} (hk : ∀ a o, s.heap.get? a = some o → h.get? a = some o) (hn : s.heap.get? a = none) : Step own φ (φ ++ [a]) s { s with heap := h, toks := tk } :=
  ⟨List.prefix_append _ _, fun b hb hb' => by
    rcases List.mem_append.mp hb with q | q
    · exact absurd q hb'
    · simp only [List.mem_singleton] at q; rw [q]; exact hn, (Step.grow (own := own) (φ := φ) (tk := tk) hk).evo, (Step.grow (own := own) (φ := φ) (tk := tk) hk).live, ⟨h, tk, rfl⟩⟩

/-- one of the lists turned -/
theorem Step.turn {own φ : List Addr} {s : Shared} {h : Heap} {tk : Nat} {a : Addr} (ha : a ∈ φ) (hs : (h.get? a).isSome) (hk : ∀ b o, b ≠ a → s.heap.get? b = some o → h.get? b = some o) : Step own φ φ s { s with heap := h, toks := tk } :=
  ⟨List.prefix_refl _, fun _ h h' => absurd h h', fun b o e hb _ => hk b o (fun q => hb (q ▸ ha)) e, fun b e => by
    by_cases q : b = a
    · rw [q]; exact hs
    · obtain ⟨o, ho⟩ := Option.isSome_iff_exists.mp e
      rw [show ({ s with heap := h, toks := tk } : Shared).heap.get? b = some o from hk b o q ho]; rfl, ⟨h, tk, rfl⟩⟩

section
variable {base : Heap} {φ φ' : List Addr} {H H' : Hp} {h h' h'' : Heap} {own : List Addr}

theorem Rel.list (R : Rel base φ H h) {k : Nat} {xs : List V} {v : Value} (hk : H[k]? = some xs) (hv : Rep base φ h (.ref k) v) :
    Ex3 fun a vs n => And4 (v = .ref a) (φ[k]? = some a) (h.get? a = some ⟨.type "list", none, .seq vs.toArray n, #[]⟩) (RepL base φ h xs vs):= by
  obtain ⟨a, rfl, ha⟩ := hv
  obtain ⟨vs, n, ys, h1, h2, h3⟩ := R.lists k a ha
  rw [hk] at h2; cases h2
  exact ⟨a, vs, n, rfl, ha, h1, h3⟩

theorem Rel.mem_list (R : Rel base φ H h) {a : Addr} (ha : a ∈ φ) : Ex2 fun vs n => h.get? a = some ⟨.type "list", none, .seq vs n, #[]⟩:= by
  obtain ⟨k, hk, e⟩ := List.getElem_of_mem ha
  obtain ⟨vs, n, _, q, _⟩ := R.lists k a (by rw [List.getElem?_eq_getElem hk, e])
  exact ⟨_, n, q⟩

/-- a tuple is no list -/
theorem Rel.tuple_not (R : Rel base φ H h) {a : Addr} {o : Obj} (ho : h.get? a = some o) (hc : TupObj o) : a ∉ φ := fun ha => by
  obtain ⟨_, _, q⟩ := R.mem_list ha
  rw [ho] at q; cases q
  exact hc.not_list rfl

theorem Rel.none_not (R : Rel base φ H h) {a : Addr} (ho : h.get? a = none) : a ∉ φ := fun ha => by
  obtain ⟨_, _, q⟩ := R.mem_list ha
  rw [ho] at q; cases q

/-- what is borne stays borne -/
theorem Rel.mono {s s' : Shared} (R : Rel base φ H s.heap) (st : Step [] φ φ' s s') {x : V} {v : Value} (r : Rep base φ s.heap x v) : Rep base φ' s'.heap x v :=
  Rep.mono st.pre (fun a o e c => st.evo a o e (R.tuple_not e c) (by simp)) x v r
theorem Rel.monoL {s s' : Shared} (R : Rel base φ H s.heap) (st : Step [] φ φ' s s') {xs : List V} {vs : List Value} (r : RepL base φ s.heap xs vs) : RepL base φ' s'.heap xs vs :=
  RepL.mono st.pre (fun a o e c => st.evo a o e (R.tuple_not e c) (by simp)) xs vs r

/-- nothing but new things: the lists stay too -/
theorem Rel.grow (R : Rel base φ H h) (hk : ∀ a o, h.get? a = some o → h'.get? a = some o) : Rel base φ H h' :=
  ⟨fun a o e => hk a o (R.keep a o e), R.len, R.nodup, R.fresh, R.small, fun k a e => by
    obtain ⟨vs, n, xs, h1, h2, h3⟩ := R.lists k a e
    exact ⟨vs, n, xs, hk _ _ h1, h2, RepL.mono (List.prefix_refl _) (fun a o e _ => hk a o e) xs vs h3⟩⟩

/-- a new list -/
theorem Rel.alloc (R : Rel base φ H h) (hk : ∀ a o, h.get? a = some o → h'.get? a = some o) {a : Addr} {vs : List Value} {n : Nat} {xs : List V}
    (hnew : h.get? a = none) (ha : h'.get? a = some ⟨.type "list", none, .seq vs.toArray n, #[]⟩) (hr : RepL base φ h xs vs) (hz : xs.length ≤ room) :
    Rel base (φ ++ [a]) (H ++ [xs]) h' ∧ Rep base (φ ++ [a]) h' (.ref H.length) (.ref a) := by
  have hna : a ∉ φ := R.none_not hnew
  have hp : φ <+: φ ++ [a] := List.prefix_append _ _
  have mono : ∀ {ys : List V} {ws : List Value}, RepL base φ h ys ws → RepL base (φ ++ [a]) h' ys ws := fun {ys ws} r => RepL.mono hp (fun a o e _ => hk a o e) ys ws r
  refine ⟨⟨fun b o e => hk b o (R.keep b o e), by simp [R.len], ?_, ?_, fun ys hy => ?_, fun k b e => ?_⟩, ⟨a, rfl, ?_⟩⟩
  · exact List.nodup_append.mpr ⟨R.nodup, by simp, fun x hx y hy => by
      simp only [List.mem_singleton] at hy; subst hy; intro q; exact hna (q ▸ hx)⟩
  · intro b hb
    rcases List.mem_append.mp hb with q | q
    · exact R.fresh b q
    · simp only [List.mem_singleton] at q; subst q
      cases hq : base.get? b with
      | none => rfl
      | some o => rw [R.keep b o hq] at hnew; cases hnew
  · rcases List.mem_append.mp hy with q | q
    · exact R.small ys q
    · simp only [List.mem_singleton] at q; rw [q]; exact hz
  · rcases Nat.lt_or_ge k φ.length with q | q
    · rw [List.getElem?_append_left q] at e
      obtain ⟨ws, m, ys, h1, h2, h3⟩ := R.lists k b e
      exact ⟨ws, m, ys, hk _ _ h1, by rw [List.getElem?_append_left (by have := R.len; lia)]; exact h2, mono h3⟩
    · rw [List.getElem?_append_right q] at e
      have hk0 : k = φ.length := by
        rcases Nat.lt_or_ge φ.length k with z | z
        · rw [List.getElem?_eq_none (by simp; lia)] at e; cases e
        · lia
      subst hk0
      simp only [Nat.sub_self, List.getElem?_cons_zero, Option.some.injEq] at e
      subst e
      refine ⟨vs, n, xs, ha, ?_, mono hr⟩
      rw [R.len, List.getElem?_append_right (Nat.le_refl _)]; simp
  · rw [← R.len, List.getElem?_append_right (Nat.le_refl _)]; simp

/-- a list turned -/
theorem Rel.turn (R : Rel base φ H h) {k : Nat} {a : Addr} {vs : List Value} {n : Nat} {xs : List V} (hk : φ[k]? = some a)
    (ha : h'.get? a = some ⟨.type "list", none, .seq vs.toArray n, #[]⟩) (hb : ∀ b o, b ≠ a → h.get? b = some o → h'.get? b = some o) (hr : RepL base φ h xs vs) (hz : xs.length ≤ room) :
    Rel base φ (H.set k xs) h' := by
  have hmem : a ∈ φ := List.mem_of_getElem? hk
  have mono : ∀ {ys : List V} {ws : List Value}, RepL base φ h ys ws → RepL base φ h' ys ws := fun {ys ws} r =>
    RepL.mono (List.prefix_refl _) (fun b o e c => hb b o (fun q => R.tuple_not e c (q ▸ hmem)) e) ys ws r
  refine ⟨fun b o e => hb b o (fun q => ?_) (R.keep b o e), by simp [R.len], R.nodup, R.fresh, fun ys hy => ?_, fun j b e => ?_⟩
  · have := R.fresh a hmem; rw [← q, e] at this; cases this
  · rcases List.mem_or_eq_of_mem_set hy with q | q
    · exact R.small ys q
    · rw [q]; exact hz
  · by_cases q : j = k
    · subst q
      rw [hk] at e; cases e
      obtain ⟨_, _, ys, _, h2, _⟩ := R.lists j a hk
      refine ⟨vs, n, xs, ha, ?_, mono hr⟩
      rw [List.getElem?_set_self]
      rcases Nat.lt_or_ge j H.length with y | y
      · exact y
      · rw [List.getElem?_eq_none y] at h2; cases h2
    · obtain ⟨ws, m, ys, h1, h2, h3⟩ := R.lists j b e
      have hne : b ≠ a := fun z => q (nodup_get R.nodup e (by rw [z]; exact hk))
      exact ⟨ws, m, ys, hb _ _ hne h1, by rw [List.getElem?_set_ne (Ne.symm q)]; exact h2, mono h3⟩

/-- something turned that is neither a list of ours, nor a tuple, nor the base's -/
theorem Rel.but (R : Rel base φ H h) {a : Addr} (ha : a ∉ φ) (hb : base.get? a = none) (hk : ∀ b o, b ≠ a → h.get? b = some o → h'.get? b = some o)
    (hn : ∀ o, h.get? a = some o → ¬ TupObj o) : Rel base φ H h' :=
  ⟨fun b o e => hk b o (fun q => by rw [q, hb] at e; cases e) (R.keep b o e), R.len, R.nodup, R.fresh, R.small, fun k b e => by
    obtain ⟨vs, n, xs, h1, h2, h3⟩ := R.lists k b e
    exact ⟨vs, n, xs, hk _ _ (fun q => ha (q ▸ List.mem_of_getElem? e)) h1, h2, RepL.mono (List.prefix_refl _) (fun c o e c' => hk c o (fun q => hn o (q ▸ e) c') e) xs vs h3⟩⟩
theorem Rep.but {a : Addr} (hk : ∀ b o, b ≠ a → h.get? b = some o → h'.get? b = some o) (hn : ∀ o, h.get? a = some o → ¬ TupObj o) {x : V} {v : Value} (r : Rep base φ h x v) : Rep base φ h' x v :=
  Rep.mono (List.prefix_refl _) (fun c o e c' => hk c o (fun q => hn o (q ▸ e) c') e) x v r
theorem Step.but {φ : List Addr} {s : Shared} {h : Heap} {tk : Nat} {a : Addr} {own : List Addr} (ha : a ∈ own) (hs : (h.get? a).isSome) (hk : ∀ b o, b ≠ a → s.heap.get? b = some o → h.get? b = some o) : Step own φ φ s { s with heap := h, toks := tk } :=
  ⟨List.prefix_refl _, fun _ h h' => absurd h h', fun b o e _ hb => hk b o (fun q => hb (q ▸ ha)) e, fun b e => by
    by_cases q : b = a
    · rw [q]; exact hs
    · obtain ⟨o, ho⟩ := Option.isSome_iff_exists.mp e
      rw [show ({ s with heap := h, toks := tk } : Shared).heap.get? b = some o from hk b o q ho]; rfl, ⟨h, tk, rfl⟩⟩
end
end Mine

open PySem
namespace Mine

/-! ## the frame -/
noncomputable def KindOk : Option NameKind → Option NameKind → Prop
  | some .local, k => k = some .local
  | some .cell, k => k = some .cell
  | some .free, k => k = some .cell ∨ k = some .free
  | some .globalImplicit, k => k = some .globalImplicit
  | _, _ => True

noncomputable def own (env : Env) : List Addr := env.locals :: env.cells.map (·.2)

structure EnvR (base : Heap) (φ : List Addr) (sc : Scope) (env : Env) (Γ : List Str) (m : Loc) (h : Heap) : Prop where
  kind : env.scope.kind = .function
  glob : env.globals = mainGlobals
  blt : env.builtins = builtinsNs
  len : m.length = Γ.length
  kinds : ∀ x, KindOk (sc.names.lookup x) (env.kindOf x)
  fresh : base.get? env.locals = none
  ns : ∃ mm, h.Ns env.locals mm ∧ ∀ x i v, slot Γ x = some i → m[i]? = some (some v) → env.kindOf x = some .local → ∃ w, mm x = some w ∧ Rep base φ h v w
  cellat : ∀ p ∈ env.cells, base.get? p.2 = none ∧ ∃ v, h.IsCell p.2 v
  cellv : ∀ x i v, slot Γ x = some i → m[i]? = some (some v) → (env.kindOf x = some .cell ∨ env.kindOf x = some .free) → Ex2 fun c w => And3 (env.cells.lookup x = some c) (h.IsCell c (some w)) (Rep base φ h v w)
  inj : ∀ x y c, env.cells.lookup x = some c → env.cells.lookup y = some c → x = y
  has : ∀ x, (env.kindOf x = some .cell ∨ env.kindOf x = some .free) → ∃ c, env.cells.lookup x = some c

theorem slot_lt : ∀ {Γ : List Str} {x : Str} {i : Nat}, slot Γ x = some i → i < Γ.length
  | y :: r, x, i, e => by
    unfold slot at e
    split at e
    · cases e; simp
    · have := slot_lt e; simp; lia
set_option tactic.hygienic true
theorem slot_inj : ∀ {Γ : List Str} {x y : Str} {i : Nat}, slot Γ x = some i → slot Γ y = some i → x = y
  | z :: r, x, y, i, e, e' => by
    unfold slot at e e'
    split at e <;> split at e'
    · rename_i h h'; rw [← beq_iff_eq.mp h, ← beq_iff_eq.mp h']
    · cases e; have := slot_lt e'; lia
    · cases e'; have := slot_lt e; lia
    · exact slot_inj e e'
set_option tactic.hygienic false

theorem ns_not_tup {h : Heap} {a : Addr} {mm : Str → Option Value} (n : h.Ns a mm) : ∀ o, h.get? a = some o → ¬ TupObj o := fun o e q => by
  obtain ⟨o', es, ep, ho, hd', hs, _⟩ := n
  rw [e] at ho; cases ho; exact q.not_ns hd' hs
theorem cell_not_tup {h : Heap} {a : Addr} {v : Option Value} (n : h.IsCell a v) : ∀ o, h.get? a = some o → ¬ TupObj o := fun o e q => by
  obtain ⟨o', ho, hd'⟩ := n
  rw [e] at ho; cases ho
  rcases q with ⟨_, _, _, d⟩ | ⟨_, _, _, _, _, d⟩ <;> (rw [d] at hd'; cases hd')

section
variable {base : Heap} {φ φ' : List Addr} {H H' : Hp} {sc : Scope} {env : Env} {Γ : List Str} {m : Loc}

theorem Rel.ns_not {h : Heap} (R : Rel base φ H h) {a : Addr} {mm : Str → Option Value} (n : h.Ns a mm) : a ∉ φ := fun ha => by
  obtain ⟨_, _, q⟩ := R.mem_list ha
  obtain ⟨o', es, ep, ho, hd', _⟩ := n
  rw [q] at ho; cases ho; cases hd'
theorem Rel.cell_not {h : Heap} (R : Rel base φ H h) {a : Addr} {v : Option Value} (n : h.IsCell a v) : a ∉ φ := fun ha => by
  obtain ⟨_, _, q⟩ := R.mem_list ha
  obtain ⟨o', ho, hd'⟩ := n
  rw [q] at ho; cases ho; cases hd'

/-- an expression's step leaves the frame -/
theorem EnvR.step {s s' : Shared} (W : EnvR base φ sc env Γ m s.heap) (R : Rel base φ H s.heap) (st : Step [] φ φ' s s') : EnvR base φ' sc env Γ m s'.heap := by
  obtain ⟨mm, hn, hm⟩ := W.ns
  have hL := R.ns_not hn
  have cell : ∀ {c : Addr} {v : Option Value}, s.heap.IsCell c v → s'.heap.IsCell c v := fun {c v} hc => by
    obtain ⟨o, ho, hd⟩ := hc
    exact ⟨o, st.evo c o ho (R.cell_not ⟨o, ho, hd⟩) (by simp), hd⟩
  refine ⟨W.kind, W.glob, W.blt, W.len, W.kinds, W.fresh, ⟨mm, ?_, fun x i v h1 h2 h3 => ?_⟩, fun p e => ?_, fun x i v h1 h2 h3 => ?_, W.inj, W.has⟩
  · obtain ⟨o, es, ep, ho, r⟩ := hn
    exact ⟨o, es, ep, st.evo _ o ho hL (by simp), r⟩
  · obtain ⟨w, e, r⟩ := hm x i v h1 h2 h3
    exact ⟨w, e, R.mono st r⟩
  · obtain ⟨h1, v, hv⟩ := W.cellat p e
    exact ⟨h1, v, cell hv⟩
  · obtain ⟨c, w, e, hc, r⟩ := W.cellv x i v h1 h2 h3
    exact ⟨c, w, e, cell hc, R.mono st r⟩

theorem own_cell {x : Str} {c : Addr} (e : env.cells.lookup x = some c) : c ∈ own env :=
  List.mem_cons_of_mem _ (List.mem_map.mpr ⟨(x, c), mem_of_lookup e, rfl⟩)

/-- the frame's name x stands for v -/
noncomputable def Stands (env : Env) (h : Heap) (x : Str) (v : Value) : Prop := ∃ mm, h.Ns env.locals mm ∧ mm x = some v
theorem Stands.step {s s' : Shared} {x : Str} {v : Value} (t : Stands env s.heap x v) (R : Rel base φ H s.heap) (st : Step [] φ φ' s s') : Stands env s'.heap x v := by
  obtain ⟨mm, hn, hx⟩ := t
  have hL := R.ns_not hn
  obtain ⟨o, es, ep, ho, r⟩ := hn
  exact ⟨mm, ⟨o, es, ep, st.evo _ o ho hL (by simp), r⟩, hx⟩
theorem ns_one {h : Heap} {a : Addr} {m m' : Str → Option Value} (x : h.Ns a m) (y : h.Ns a m') : m = m' := by
  obtain ⟨o, es, ep, e, d, _, f⟩ := x
  obtain ⟨o', es', ep', e', d', _, f'⟩ := y
  rw [e] at e'; cases e'; rw [d] at d'; cases d'
  exact funext fun n => (f n).symm.trans (f' n)

set_option tactic.hygienic true
/-- a name is stored -/
theorem EnvR.storeT {M : Model} {A : Around} {E : Value → Shared → Prop} {s : Shared} {Q : Unit → Shared → Prop} {x : Str} {i : Nat} {v : V} {w : Value}
    (W : EnvR base φ sc env Γ m s.heap) (R : Rel base φ H s.heap) (hx : isOwn sc x = true) (hi : slot Γ x = some i) (rv : Rep base φ s.heap v w)
    (h : ∀ s' a, (a = env.locals ∨ (env.kindOf x = some .cell ∧ env.cells.lookup x = some a)) → Step [a] φ φ s s' → (∀ b o, b ≠ a → s.heap.get? b = some o → s'.heap.get? b = some o) → Rel base φ H s'.heap → EnvR base φ sc env Γ (m.set i (some v)) s'.heap → (∀ y u, y ≠ x → Stands env s.heap y u → Stands env s'.heap y u) → Q () s') : wpAny M A (storeName env x w) Q E s := by
  obtain ⟨mm, hn, hm⟩ := W.ns
  have hil : i < m.length := by rw [W.len]; exact slot_lt hi
  have hget : ∀ (j : Nat) (u : V), (m.set i (some v))[j]? = some (some u) → (j = i ∧ u = v) ∨ (j ≠ i ∧ m[j]? = some (some u)) := fun j u e => by
    by_cases q : j = i
    · subst q; rw [List.getElem?_set_self hil] at e
      exact .inl ⟨rfl, by simpa using e.symm⟩
    · rw [List.getElem?_set_ne (Ne.symm q)] at e; exact .inr ⟨q, e⟩
  have kd := W.kinds x
  have hk : env.kindOf x = some .local ∨ env.kindOf x = some .cell := by
    unfold isOwn at hx
    split at hx
    · rename_i e; rw [e] at kd; exact .inl kd
    · rename_i e; rw [e] at kd; exact .inr kd
    · cases hx
  rcases hk with hk | hk
  · refine wpAny_storeName_local hk hn (fun h' hn' hs => ?_) (by rw [W.kind]; rfl)
    have hL := R.ns_not hn
    have nt := ns_not_tup hn
    have kp : ∀ b o, b ≠ env.locals → s.heap.get? b = some o → h'.get? b = some o := hs.extBut
    refine h _ env.locals (.inl rfl) (Step.but (List.mem_cons_self ..) (by obtain ⟨o, _, _, ho, _⟩ := hn'; rw [ho]; rfl) kp) kp (R.but hL W.fresh kp nt) ?_ fun y u hy ⟨m1, hn1, h1⟩ => ⟨_, hn', by rw [ns_one hn1 hn] at h1; simp [hy, h1]⟩
    have cell : ∀ {c : Addr} {v : Option Value}, s.heap.IsCell c v → h'.IsCell c v := fun {c v} hc => by
      obtain ⟨o, ho, hd⟩ := hc
      refine ⟨o, kp c o (fun q => ?_) ho, hd⟩
      obtain ⟨o', es, ep, ho', hd', _⟩ := hn
      rw [← q, ho] at ho'; cases ho'; rw [hd] at hd'; cases hd'
    refine ⟨W.kind, W.glob, W.blt, by simp [W.len], W.kinds, W.fresh, ⟨_, hn', fun y j u h1 h2 h3 => ?_⟩, fun p e => ?_, fun y j u h1 h2 h3 => ?_, W.inj, W.has⟩
    · rcases hget j u h2 with ⟨q, rfl⟩ | ⟨q, e⟩
      · subst q
        have := slot_inj h1 hi; subst this
        exact ⟨w, by simp, rv.but kp nt⟩
      · have hy : y ≠ x := fun z => q (by rw [z, hi] at h1; exact (Option.some.inj h1).symm)
        obtain ⟨u', e', r⟩ := hm y j u h1 e h3
        exact ⟨u', by simp [hy, e'], r.but kp nt⟩
    · obtain ⟨h1, v, hv⟩ := W.cellat p e
      exact ⟨h1, v, cell hv⟩
    · rcases hget j u h2 with ⟨q, rfl⟩ | ⟨q, e⟩
      · subst q
        have := slot_inj h1 hi; subst this
        rw [hk] at h3; rcases h3 with h3 | h3 <;> cases h3
      · obtain ⟨c, w', e', hc, r⟩ := W.cellv y j u h1 e h3
        exact ⟨c, w', e', cell hc, r.but kp nt⟩
  · obtain ⟨c, hc⟩ := W.has x (.inl hk)
    obtain ⟨hb, v₀, hv₀⟩ := W.cellat (x, c) (mem_of_lookup hc)
    refine wpAny_storeName_cell W.kind hk hc hv₀ fun h' hc' hs => ?_
    have hL := R.cell_not hv₀
    have nt := cell_not_tup hv₀
    have kp : ∀ b o, b ≠ c → s.heap.get? b = some o → h'.get? b = some o := hs.extBut
    have hLc : env.locals ≠ c := fun q => by
      obtain ⟨o', es, ep, ho', hd', _⟩ := hn
      obtain ⟨o, ho, hd⟩ := hv₀
      rw [q, ho] at ho'; cases ho'; rw [hd] at hd'; cases hd'
    refine h { s with heap := h' } c (.inr ⟨hk, hc⟩) (Step.but (tk := s.toks) (List.mem_cons_self ..) (by obtain ⟨o, ho, _⟩ := hc'; rw [ho]; rfl) kp) kp (R.but hL hb kp nt) ?_ fun y u hy ⟨m1, hn1, h1⟩ => ⟨m1, hn1.sameBut hs hLc, h1⟩
    refine ⟨W.kind, W.glob, W.blt, by simp [W.len], W.kinds, W.fresh, ⟨mm, hn.sameBut hs hLc, fun y j u h1 h2 h3 => ?_⟩, fun p e => ?_, fun y j u h1 h2 h3 => ?_, W.inj, W.has⟩
    · rcases hget j u h2 with ⟨q, rfl⟩ | ⟨q, e⟩
      · subst q
        have := slot_inj h1 hi; subst this
        rw [hk] at h3; cases h3
      · obtain ⟨u', e', r⟩ := hm y j u h1 e h3
        exact ⟨u', e', r.but kp nt⟩
    · obtain ⟨h1, u, hu⟩ := W.cellat p e
      by_cases q : p.2 = c
      · exact ⟨h1, _, q ▸ hc'⟩
      · obtain ⟨o, ho, hd⟩ := hu
        exact ⟨h1, u, o, kp _ o q ho, hd⟩
    · rcases hget j u h2 with ⟨q, rfl⟩ | ⟨q, e⟩
      · subst q
        have := slot_inj h1 hi; subst this
        exact ⟨c, w, hc, hc', rv.but kp nt⟩
      · have hy : y ≠ x := fun z => q (by rw [z, hi] at h1; exact (Option.some.inj h1).symm)
        obtain ⟨d, w', e', ⟨o, ho, hd⟩, r⟩ := W.cellv y j u h1 e h3
        have hne : d ≠ c := fun q => hy (W.inj y x c (q ▸ e') hc)
        exact ⟨d, w', e', ⟨o, kp d o hne ho, hd⟩, r.but kp nt⟩
set_option tactic.hygienic false

/-- a name is stored -/
theorem EnvR.store {M : Model} {A : Around} {E : Value → Shared → Prop} {s : Shared} {Q : Unit → Shared → Prop} {x : Str} {i : Nat} {v : V} {w : Value}
    (W : EnvR base φ sc env Γ m s.heap) (R : Rel base φ H s.heap) (hx : isOwn sc x = true) (hi : slot Γ x = some i) (rv : Rep base φ s.heap v w)
    (h : ∀ s' a, (a = env.locals ∨ (env.kindOf x = some .cell ∧ env.cells.lookup x = some a)) → Step [a] φ φ s s' → (∀ b o, b ≠ a → s.heap.get? b = some o → s'.heap.get? b = some o) → Rel base φ H s'.heap → EnvR base φ sc env Γ (m.set i (some v)) s'.heap → Q () s') : wpAny M A (storeName env x w) Q E s :=
  W.storeT R hx hi rv fun s' a ha st kp R' W' _ => h s' a ha st kp R' W'

theorem own_of {x : Str} {a : Addr} (h : a = env.locals ∨ (env.kindOf x = some .cell ∧ env.cells.lookup x = some a)) : a ∈ own env :=
  h.elim (fun e => by rw [e]; exact List.mem_cons_self ..) fun e => own_cell e.2

set_option tactic.hygienic true
/-- a name is read -/
theorem EnvR.load {M : Model} {A : Around} {E : Value → Shared → Prop} {s : Shared} {Q : Value → Shared → Prop} {x : Str} {i : Nat} {v : V}
    (W : EnvR base φ sc env Γ m s.heap) (hx : isVar sc x = true) (hn : (x == ("__classdict__" : Str)) = false) (hi : slot Γ x = some i) (hv : m[i]? = some (some v))
    (h : ∀ w, Rep base φ s.heap v w → Q w s) : wpAny M A (loadName env x) Q E s := by
  have kd := W.kinds x
  have hk : env.kindOf x = some .local ∨ env.kindOf x = some .cell ∨ env.kindOf x = some .free := by
    unfold isVar at hx
    split at hx
    · rename_i e; rw [e] at kd; exact .inl kd
    · rename_i e; rw [e] at kd; exact .inr (.inl kd)
    · rename_i e; rw [e] at kd; exact .inr kd
    · cases hx
  rcases hk with hk | hk | hk
  · obtain ⟨mm, hn, hm⟩ := W.ns
    obtain ⟨w, e, r⟩ := hm x i v hi hv hk
    exact wpAny_loadName_local W.kind hk hn e (h w r)
  · obtain ⟨c, w, e, hc, r⟩ := W.cellv x i v hi hv (.inl hk)
    exact wpAny_loadName_cell W.kind hk e hc (h w r)
  · obtain ⟨c, w, e, hc, r⟩ := W.cellv x i v hi hv (.inr hk)
    exact wpAny_loadName_free W.kind hk e hc (h w r) hn
set_option tactic.hygienic false

end
end Mine

open PySem
namespace Mine

/-- what an expression hands on -/
noncomputable def Cont (base : Heap) (φ : List Addr) (s : Shared) (P : PV) (Q : Value → Shared → Prop) : Prop :=
  ∀ v w φ' H' s', P v H' → Step [] φ φ' s s' → Rel base φ' H' s'.heap → Rep base φ' s'.heap v w → Q w s'

section
variable {base : Heap} {φ φ' : List Addr} {H : Hp} {s s' : Shared} {P : PV} {Q : Value → Shared → Prop}

theorem Cont.after (K : Cont base φ s P Q) (st : Step [] φ φ' s s') : Cont base φ' s' P Q :=
  fun v w φ'' H' s'' hp st' R r => K v w φ'' H' s'' hp (st.trans st') R r

theorem Step.tok (φ : List Addr) (s : Shared) (t : Nat) : Step [] φ φ s { s with toks := t } := Step.grow (h := s.heap) fun _ _ e => e

theorem Cont.tok (K : Cont base φ s P Q) (t : Nat) (R : Rel base φ H s.heap) {v : V} {w : Value} (hp : P v H) (r : Rep base φ s.heap v w) : Q w { s with toks := t } :=
  K v w φ H _ hp (Step.tok φ s t) R r
theorem Cont.here (K : Cont base φ s P Q) (R : Rel base φ H s.heap) {v : V} {w : Value} (hp : P v H) (r : Rep base φ s.heap v w) : Q w s :=
  K v w φ H _ hp (Step.refl [] φ s) R r

/-- nothing but new things, and a value without an address -/
theorem Cont.grow (K : Cont base φ s P Q) (R : Rel base φ H s.heap) {h : Heap} {tk : Nat} (hk : ∀ a o, s.heap.get? a = some o → h.get? a = some o) {v : V} {w : Value} (hp : P v H) (r : Rep base φ h v w) : Q w { s with heap := h, toks := tk } :=
  K v w φ H _ hp (Step.grow hk) (R.grow hk) r

/-- a new list -/
theorem Cont.list (K : Cont base φ s P Q) (R : Rel base φ H s.heap) {h : Heap} {tk : Nat} {a : Addr} {n : Nat} {vs : List Value} {xs : List V}
    (hk : ∀ a o, s.heap.get? a = some o → h.get? a = some o) (hn : s.heap.get? a = none) (ha : h.get? a = some ⟨.type "list", none, .seq vs.toArray n, #[]⟩) (hr : RepL base φ s.heap xs vs) (hz : xs.length ≤ room)
    (hp : P (.ref H.length) (H ++ [xs])) : Q (.ref a) { s with heap := h, toks := tk } := by
  obtain ⟨R', r⟩ := R.alloc hk hn ha hr hz
  exact K _ _ (φ ++ [a]) _ _ hp (Step.alloc hk hn) R' r

theorem get_size (h : Heap) : h.get? h.objs.size = none := by
  cases e : h.get? h.objs.size with
  | none => rfl
  | some o => exact absurd (Heap.lt_size e) (Nat.lt_irrefl _)
theorem get_ge (h : Heap) {a : Addr} (ha : h.objs.size ≤ a) : h.get? a = none := by
  cases e : h.get? a with
  | none => rfl
  | some o => exact absurd (Heap.lt_size e) (Nat.not_lt.mpr ha)

/-- a new list, pushed -/
theorem Cont.pushList (K : Cont base φ s P Q) (R : Rel base φ H s.heap) {vs : List Value} {xs : List V} (hr : RepL base φ s.heap xs vs) (hz : xs.length ≤ room)
    (hp : P (.ref H.length) (H ++ [xs])) : Q (.ref s.heap.objs.size) { s with heap := s.heap.push { cls := .type "list", data := .seq vs.toArray } } :=
  K.list (tk := s.toks) R (fun _ _ e => Heap.get?_push_of_some _ e) (get_size _) (Heap.get?_push_size _ rfl) hr hz hp

/-- a new tuple, pushed -/
theorem Cont.pushTup (K : Cont base φ s P Q) (R : Rel base φ H s.heap) {vs : List Value} {xs : List V} (hr : RepL base φ s.heap xs vs) (hz : xs.length ≤ room)
    (hp : P (.tup xs) H) : Q (.ref s.heap.objs.size) { s with heap := s.heap.push { cls := .type "tuple", data := .seq vs.toArray } } :=
  K.grow (tk := s.toks) R (fun _ _ e => Heap.get?_push_of_some _ e) hp
    ⟨_, vs, rfl, ⟨_, Heap.get?_push_size _ rfl, rfl, 0, rfl⟩, RepL.mono (List.prefix_refl _) (fun _ _ e _ => Heap.get?_push_of_some _ e) xs vs hr, hz⟩
end

set_option tactic.hygienic true
theorem small_bits {a : Int} (h : Small a) : Builtin.Int.intBits a ≤ 64 := by
  obtain ⟨h1, h2⟩ := h
  have hn : a.natAbs < 2 ^ 64 := by lia
  show (if a == 0 then 0 else a.natAbs.log2 + 1) ≤ 64
  split
  · lia
  · rename_i h0
    have : a.natAbs ≠ 0 := by simpa using h0
    have := (Nat.log2_lt this).mpr hn
    lia
set_option tactic.hygienic false

section
variable {prog : Program} {w : World} {A : Around} {E : Value → Shared → Prop} {base : Heap} {φ : List Addr} {H : Hp} {s : Shared} {P : PV} {Q : Value → Shared → Prop} {a b : V} {x y : Value}

theorem fdiv_pos {a b : Int} (h : 0 < b) : a.fdiv b = a / b := Int.fdiv_eq_ediv_of_nonneg a (by lia)
theorem fmod_pos {a b : Int} (h : 0 < b) : a.fmod b = a % b := Int.fmod_eq_emod_of_nonneg a (by lia)

theorem rep_ref {k : Nat} {v : Value} {xs : List V} (R : Rel base φ H s.heap) (r : Rep base φ s.heap (.ref k) v) (e : H[k]? = some xs) :
    Ex3 fun l vs n => And4 (v = .ref l) (φ[k]? = some l) (s.heap.get? l = some ⟨.type "list", none, .seq vs.toArray n, #[]⟩) (RepL base φ s.heap xs vs):= R.list e r

/-- two tuples make one -/
theorem addT {xs ys : List V} (ra : Rep base φ s.heap (.tup xs) x) (rb : Rep base φ s.heap (.tup ys) y) (hz : xs.length + ys.length ≤ room) (R : Rel base φ H s.heap) (hp : P (.tup (xs ++ ys)) H) (K : Cont base φ s P Q) : wpAny (model prog w) A (binaryOp .Add x y) Q E s := by
  obtain ⟨t, vs, rfl, ht, hx, zx⟩ := ra
  obtain ⟨b, ws, rfl, hb, hy, zy⟩ := rb
  have h1 := hx.length
  have h2 := hy.length
  obtain ⟨⟨cls, dd, data, sl⟩, ho, hc, n, hd⟩ := id ht
  obtain ⟨⟨cls2, dd2, data2, sl2⟩, ho2, hc2, n2, hd2⟩ := id hb
  simp only at hc hd hc2 hd2
  subst hc hd hc2 hd2
  by_cases hv : vs = []
  · subst hv
    have e : xs = [] := List.length_eq_zero_iff.mp (by simpa using h1.symm)
    subst e
    exact concat_meets ⟨_, ho, rfl⟩ ⟨_, ho2, rfl⟩ noFill_tuple_add seq_tuple_add PySem.F.slot_tuple_add PySem.F.entry_tuple_add (PySem.F.args_tuple_add_2 _ _)
      (PyProof.Rows.tuple_addW0 t b _ ws.toArray n n2 dd dd2 sl sl2 (by simp)) ⟨ho, ho2, K.here R hp ⟨b, ws, rfl, hb, hy, zy⟩⟩
  · by_cases hw : ws = []
    · subst hw
      have e : ys = [] := List.length_eq_zero_iff.mp (by simpa using h2.symm)
      subst e
      rw [List.append_nil] at hp
      exact concat_meets ⟨_, ho, rfl⟩ ⟨_, ho2, rfl⟩ noFill_tuple_add seq_tuple_add PySem.F.slot_tuple_add PySem.F.entry_tuple_add (PySem.F.args_tuple_add_2 _ _)
        (PyProof.Rows.tuple_addW1 t b vs.toArray _ n n2 dd dd2 sl sl2 (by simpa using hv) (by simp)) ⟨ho, ho2, K.here R hp ⟨t, vs, rfl, ht, hx, zx⟩⟩
    · refine concat_meets ⟨_, ho, rfl⟩ ⟨_, ho2, rfl⟩ noFill_tuple_add seq_tuple_add PySem.F.slot_tuple_add PySem.F.entry_tuple_add (PySem.F.args_tuple_add_2 _ _)
        (PyProof.Rows.tuple_addW2 t b vs.toArray ws.toArray n n2 dd dd2 sl sl2 (by simpa using hv) (by simpa using hw) (by rw [List.size_toArray, List.size_toArray]; simp only [sizeLine]; unfold room at hz; lia)) ⟨ho, ho2, ?_⟩
      have := K.pushTup R (hx.append hy) (by rw [List.length_append]; exact hz) hp
      simpa using this

/-- two numbers -/
theorem ints2 {F : Int → Int → Prop} (ra : Rep base φ s.heap a x) (rb : Rep base φ s.heap b y) (hw : intV a fun i => intV b fun j => F i j) : Ex4 fun i j t u => And3 (x = .int i t) (y = .int j u) (F i j):= by
  obtain ⟨i, rfl, h1⟩ := intV_elim hw
  obtain ⟨j, rfl, h2⟩ := intV_elim h1
  obtain ⟨t, rfl⟩ := ra; obtain ⟨u, rfl⟩ := rb
  exact ⟨i, j, t, u, rfl, rfl, h2⟩
theorem mulL {k : Nat} (R : Rel base φ H s.heap) (ra : Rep base φ s.heap (.ref k) x) (rb : Rep base φ s.heap b y) (hw : mulV (.ref k) b H P) (K : Cont base φ s P Q) : wpAny (model prog w) A (binaryOp .Mult x y) Q E s := by
  replace hw := optV_elim hw
  obtain ⟨xs, hk, hw⟩ := hw
  replace hw := optV_elim hw
  obtain ⟨x₀, hx₀, hw⟩ := hw
  replace hx₀ := lone_eq hx₀
  subst hx₀
  replace hw := intV_elim hw
  obtain ⟨i, rfl, hw⟩ := hw
  obtain ⟨p, vs, n, rfl, _, hp, hx⟩ := rep_ref R ra hk
  obtain ⟨u, rfl⟩ := rb
  obtain ⟨h0, h1, hw⟩ := hw
  obtain ⟨v₀, r₀, e₀, hv₀, hr₀⟩ := hx
  rw [show r₀ = [] from hr₀] at e₀
  subst e₀
  refine wpAny_binaryOp_repeat_ref (T := "list") (U := "int") (by decide) ⟨_, hp, rfl⟩ (fun s' => typeIs_int s' i u) noFill_list_mul F.fills_int_mul F.slot_int_rmul repeat_list F.slot_int_index.lookup
    (call_meets F.slot_int_rmul (typeIs_int s i u) F.entry_int_rmul (F.args_int_rmul_2 _ _) (lm_int_rmul_list_any i u p _ n none #[])
      ⟨hp, rfl, ⟨_, hp, rfl⟩, call_meets F.slot_list_mul ⟨_, hp, rfl⟩ F.entry_list_mul (F.args_list_mul_2 _ _)
        (lm_list_mul_any p _ n none #[] i u (by simp [Builtin.List.listFitsIndex]; lia) (by simp; lia) (by simp [Builtin.List.listTooLong, sizeLine]; lia)) ⟨hp, ?_⟩⟩)
  have e : List.foldl (fun x1 x2 => x1 ++ x2) #[] (List.replicate (if ([v₀] : List Value).toArray.isEmpty = true then 0 else i.toNat) ([v₀] : List Value).toArray) = (List.replicate i.toNat v₀).toArray := by
    simp only [List.isEmpty_toArray, List.isEmpty_cons, Bool.false_eq_true, if_false]
    have : ∀ (n : Nat) (acc : Array Value), List.foldl (fun x1 x2 => x1 ++ x2) acc (List.replicate n ([v₀] : List Value).toArray) = acc ++ (List.replicate n v₀).toArray := by
      intro n
      induction n with
      | zero => intro acc; simp
      | succ n ih => intro acc; rw [List.replicate_succ, List.foldl_cons, ih, List.replicate_succ]; apply Array.ext'; simp
    rw [this]; simp
  rw [e]
  exact K.pushList R (RepL.replicate hv₀ _) (by rw [List.length_replicate]; unfold room; lia) hw
/-- the arithmetic -/
theorem soundA {op : Operator} {o : B} (ho : opOf op = some o) (R : Rel base φ H s.heap) (ra : Rep base φ s.heap a x) (rb : Rep base φ s.heap b y) (hw : wpB o a b H P)
    (K : Cont base φ s P Q) : wpAny (model prog w) A (binaryOp op x y) Q E s := by
  cases op with
  | Add =>
    cases ho
    change addV a b H P at hw
    cases a with
    | int i =>
      replace hw := intV_elim hw
      obtain ⟨j, rfl, hw⟩ := hw
      obtain ⟨t, rfl⟩ := ra; obtain ⟨u, rfl⟩ := rb
      exact PyProof.Rows.add_int (K.tok _ R hw ⟨_, rfl⟩)
    | ref k =>
      replace hw := optV_elim hw
      obtain ⟨xs, hk, hw⟩ := hw
      replace hw := refV_elim hw
      obtain ⟨l, ys, rfl, hl, hw⟩ := hw
      obtain ⟨p, vs, n, rfl, _, hp, hx⟩ := rep_ref R ra hk
      obtain ⟨q, us, n', rfl, _, hq, hy⟩ := rep_ref R rb hl
      refine PySem.P.add_list hp hq ?_ ?_
      · have := K.pushList R (hx.append hy) (by rw [List.length_append]; exact hw.1) hw.2
        simpa using this
      · have h1 := hx.length; have h2 := hy.length; have h3 := hw.1
        simp only [List.size_toArray, sizeLine]; unfold room at h3; lia
    | str x =>
      replace hw := optV_elim hw
      obtain ⟨y, hy, hz, hw⟩ := hw
      have hy := str_eq hy
      subst hy
      obtain ⟨t, rfl⟩ := ra; obtain ⟨u, rfl⟩ := rb
      exact PySem.SB.add (fun t' k => K.tok _ R hw ⟨_, rfl⟩) (by simp only [sizeLine]; lia)
    | tup xs =>
      replace hw := optV_elim hw
      obtain ⟨ys, hy, hz, hw⟩ := hw
      have hy := tup_eq hy
      subst hy
      exact addT ra rb hz R hw K
    | none => exact hw.elim
    | bool _ => exact hw.elim
    | frz _ => exact hw.elim
    | dct => exact hw.elim
  | Sub =>
    cases ho
    obtain ⟨i, j, t, u, rfl, rfl, hw⟩ := ints2 ra rb hw
    exact PyProof.Rows.sub_int (K.tok _ R hw ⟨_, rfl⟩)
  | Mult =>
    cases ho
    change mulV a b H P at hw
    cases a with
    | int i =>
      replace hw := intV_elim hw
      obtain ⟨j, rfl, hw⟩ := hw
      obtain ⟨t, rfl⟩ := ra; obtain ⟨u, rfl⟩ := rb
      refine PyProof.Rows.mul_int (K.tok _ R hw.2 ⟨_, rfl⟩) ?_
      rcases hw.1 with h | h
      · exact .of_left (small_bits h)
      · exact .of_right (small_bits h)
    | ref k => exact mulL R ra rb hw K
    | _ => exact hw.elim
  | Mod =>
    cases ho
    obtain ⟨i, j, t, u, rfl, rfl, hw⟩ := ints2 ra rb hw
    refine PyProof.Rows.mod_int' (by lia) ?_
    rw [fmod_pos hw.1]
    exact K.tok _ R hw.2 ⟨_, rfl⟩
  | Pow =>
    cases ho
    obtain ⟨i, j, t, u, rfl, rfl, hw⟩ := ints2 ra rb hw
    obtain ⟨rfl, rfl, hw⟩ := hw
    exact PyProof.Rows.pow_int (by decide) (by decide +kernel) (K.tok _ R hw ⟨_, rfl⟩)
  | FloorDiv =>
    cases ho
    obtain ⟨i, j, t, u, rfl, rfl, hw⟩ := ints2 ra rb hw
    obtain ⟨h0, h1, hw⟩ := hw
    refine PyProof.Rows.floordiv_int (by lia) ?_ (.inl (PyProof.noPylong_small (by lia)))
    rw [fdiv_pos h0]
    exact K.tok _ R hw ⟨_, rfl⟩
  | _ => exact Zj ho
end
end Mine

open PySem
namespace Mine

inductive All2 {α β : Type} (R : α → β → Prop) : List α → List β → Prop
  | nil : All2 R [] []
  | cons {a : α} {b : β} {as : List α} {bs : List β} : R a b → All2 R as bs → All2 R (a :: as) (b :: bs)

/-! ## equality -/
theorem deep_leaf {t : Bool} {H : Hp} {n : Nat} {v : V} {d : PyData} (h : leafD t v = some d) : deepG t H n v = some d := by
  cases n with
  | zero => exact h
  | succ n => cases v with
    | tup _ => exact Zj h
    | ref _ => exact Zj h
    | _ => exact h
theorem two_some {a : Option PyData} {b : Option (List PyData)} {z : List PyData} (h : (match a, b with | some x, some xs => some (x :: xs) | _, _ => none) = some z) : Ex2 fun x xs => And3 (a = some x) (b = some xs) (x :: xs = z):= by
  cases a with
  | none => exact Zj h
  | some x => cases b with
    | none => exact Zj h
    | some y => cases h; exact ⟨x, y, rfl, rfl, rfl⟩
theorem deepL_all {f : V → Option PyData} {M : V → PyData → Prop} (ih : ∀ v d, f v = some d → M v d) (xs : List V) : ∀ ds, deepL f xs = some ds → All2 M xs ds := by
  induction xs with
  | nil => intro ds e; cases e; exact .nil
  | cons x xs q =>
    intro ds e
    obtain ⟨d, ds', h1, h2, rfl⟩ := two_some e
    exact .cons (ih _ _ h1) (q _ h2)
theorem deep_ind {t : Bool} {H : Hp} {M : Nat → V → PyData → Prop} (h0 : ∀ n, M n .none .none) (h1 : ∀ n b, M n (.bool b) (.bool b)) (h2 : ∀ n i, M n (.int i) (.int i)) (h3 : t = true → ∀ n s, M n (.str s) (.str s))
    (h4 : ∀ n xs ds, All2 (M n) xs ds → M (n + 1) (.tup xs) (.tuple ds)) (h5 : ∀ n k xs ds, H[k]? = some xs → All2 (M n) xs ds → M (n + 1) (.ref k) (.list ds)) (n : Nat) : ∀ (v : V) (d : PyData), deepG t H n v = some d → M n v d := by
  have leaf : ∀ n v d, leafD t v = some d → M n v d := fun n v d e => by
    cases v with
    | none => cases e; exact h0 n
    | bool b => cases e; exact h1 n b
    | int i => cases e; exact h2 n i
    | str s => obtain ⟨q, e⟩ := if_some e; cases e; exact h3 q n s
    | _ => exact Zj e
  induction n with
  | zero => exact leaf 0
  | succ n ih =>
    intro v d e
    cases v with
    | tup xs =>
      obtain ⟨ds, h, rfl⟩ := map_some (show Option.map PyData.tuple (deepL (deepG t H n) xs) = some d from e)
      exact h4 n xs ds (deepL_all ih _ _ h)
    | ref k =>
      cases hk : H[k]? with
      | none => rw [show deepG t H (n + 1) (.ref k) = (match H[k]? with | some vs => (deepL (deepG t H n) vs).map PyData.list | none => none) from rfl, hk] at e; exact Zj e
      | some xs =>
        rw [show deepG t H (n + 1) (.ref k) = (match H[k]? with | some vs => (deepL (deepG t H n) vs).map PyData.list | none => none) from rfl, hk] at e
        obtain ⟨ds, h, rfl⟩ := map_some e
        exact h5 n k xs ds hk (deepL_all ih _ _ h)
    | _ => exact leaf _ _ _ e

theorem all_shape {n : Nat} {xs : List V} {ds : List PyData} (h : All2 (fun _ d => d.canLay0 = true ∧ d.depth ≤ n) xs ds) : PyData.canLayAll0 ds = true ∧ PyData.depthAll ds ≤ n := by
  induction h with
  | nil => exact ⟨rfl, Nat.zero_le _⟩
  | cons h1 _ h2 => exact ⟨by rw [PyData.canLayAll0, h1.1, h2.1]; rfl, by rw [PyData.depthAll]; exact Nat.max_le.mpr ⟨h1.2, h2.2⟩⟩
theorem deep_shape (H : Hp) (n : Nat) (v : V) (d : PyData) (e : deep n H v = some d) : d.canLay0 = true ∧ d.depth ≤ n := by
  refine deep_ind (t := false) (M := fun n _ d => d.canLay0 = true ∧ d.depth ≤ n) (fun n => ⟨rfl, Nat.zero_le _⟩) (fun n b => ⟨rfl, Nat.zero_le _⟩) (fun n i => ⟨rfl, Nat.zero_le _⟩) (fun q => nomatch q) (fun n xs ds h => ?_) (fun n k xs ds _ h => ?_) n v d e
  · have := all_shape h
    exact ⟨by rw [PyData.canLay0]; exact this.1, by rw [PyData.depth]; lia⟩
  · have := all_shape h
    exact ⟨by rw [PyData.canLay0]; exact this.1, by rw [PyData.depth]; lia⟩

section
variable {base : Heap} {φ : List Addr} {H : Hp} {h : Heap}
theorem all_reads {xs : List V} {ds : List PyData} (r : All2 (fun v d => ∀ w, Rep base φ h v w → ∃ as, Reads h w d as) xs ds) : ∀ ws, RepL base φ h xs ws → ∃ as, ReadsAll h ws ds as:= by
  induction r with
  | nil => intro ws r; rw [show ws = [] from r]; exact ⟨[], .nil⟩
  | cons hd _ ih =>
    rintro ws ⟨x, r, rfl, hv, hr⟩
    obtain ⟨as, h1⟩ := hd _ hv
    obtain ⟨bs, h2⟩ := ih _ hr
    exact ⟨as ++ bs, .cons h1 h2⟩
theorem deepG_reads (R : Rel base φ H h) {t : Bool} (n : Nat) (v : V) (d : PyData) (w : Value) (e : deepG t H n v = some d) (r : Rep base φ h v w) : ∃ as, Reads h w d as:= by
  refine deep_ind (M := fun _ v d => ∀ w, Rep base φ h v w → ∃ as, Reads h w d as) (fun n w r => ?_) (fun n b w r => ?_) (fun n i w r => ?_) (fun _ n s w r => ?_) (fun n xs ds q w r => ?_) (fun n k xs ds hk q w r => ?_) n v d e w r
  · rw [show w = .none from r]; exact ⟨_, .none⟩
  · rw [show w = .bool _ from r]; exact ⟨_, .bool _⟩
  · obtain ⟨t, rfl⟩ := r; exact ⟨_, .int _ _⟩
  · obtain ⟨t, rfl⟩ := r; exact ⟨_, .str _ _⟩
  · obtain ⟨a, vs, rfl, ⟨o, ho, hc, k, hk⟩, hr, _⟩ := r
    obtain ⟨as, q⟩ := all_reads q _ hr
    exact ⟨_, .tuple ho hc hk q⟩
  · obtain ⟨a, vs, n', rfl, _, ho, hr⟩ := R.list hk r
    obtain ⟨as, q⟩ := all_reads q _ hr
    exact ⟨_, .list ho rfl rfl q⟩
end

/-! to be shown -/
theorem allS_depth {n : Nat} {xs : List V} {ds : List PyData} (h : All2 (fun _ d => d.depth ≤ n + 1 ∧ d.hasDict = false) xs ds) : PyData.depthAll ds ≤ n + 1 ∧ PyData.hasDictAll ds = false := by
  induction h with
  | nil => exact ⟨Nat.zero_le _, rfl⟩
  | cons h1 _ h2 => exact ⟨by rw [PyData.depthAll]; exact Nat.max_le.mpr ⟨h1.1, h2.1⟩, by rw [PyData.hasDictAll, h1.2, h2.2]; rfl⟩
theorem deepS_depth (H : Hp) (n : Nat) (v : V) (d : PyData) (e : deepS n H v = some d) : d.depth ≤ n + 1 ∧ d.hasDict = false := by
  refine deep_ind (M := fun n _ d => d.depth ≤ n + 1 ∧ d.hasDict = false) (fun n => ⟨Nat.zero_le _, rfl⟩) (fun n b => ⟨Nat.zero_le _, rfl⟩) (fun n i => ⟨Nat.zero_le _, rfl⟩) (fun _ n s => ⟨Nat.zero_le _, rfl⟩) (fun n xs ds h => ?_) (fun n k xs ds _ h => ?_) n v d e
  · have := allS_depth h
    exact ⟨by rw [PyData.depth]; lia, by rw [PyData.hasDict]; exact this.2⟩
  · have := allS_depth h
    exact ⟨by rw [PyData.depth]; lia, by rw [PyData.hasDict]; exact this.2⟩

section
variable {prog : Program} {w : World} {A : Around} {E : Value → Shared → Prop} {base : Heap} {φ : List Addr} {H : Hp} {s : Shared} {P : PV} {Q : Value → Shared → Prop} {a b : V} {x y : Value}

noncomputable def isThe (i : Int) (y : Value) : Bool := match y with | .int j _ => j == i | _ => false
theorem any_ints {i : Int} {vs : List Value} {is : List Int} (h : PyProof.Rows.IntsAre vs is) : (vs.toArray.any (isThe i)) = decide (i ∈ is) := by
  induction h with
  | nil => simp
  | cons j u r ih =>
    rw [List.any_toArray] at ih ⊢
    rw [List.any_cons, ih, show isThe i (.int j u) = (j == i) from rfl, Bool.eq_iff_iff, Bool.or_eq_true, beq_iff_eq, decide_eq_true_eq, decide_eq_true_eq, List.mem_cons]
    exact or_congr_left eq_comm

/-- what is read to its depth; a number and a row of numbers -/
theorem deep_shaped {d : PyData} (h : deep 4 H a = some d) : SeqAt.shaped d = true := by
  have q := deep_shape H _ _ _ h
  rw [SeqAt.shaped, q.1, Bool.true_and]; exact decide_eq_true (Nat.le_trans q.2 (by decide))
theorem deep2 {F : PyData → PyData → Prop} (R : Rel base φ H s.heap) (ra : Rep base φ s.heap a x) (rb : Rep base φ s.heap b y) (hw : optV (deep 4 H a) fun d => optV (deep 4 H b) fun d' => F d d') : Ex4 fun d d' as bs => And5 (Reads s.heap x d as) (Reads s.heap y d' bs) (SeqAt.shaped d = true) (SeqAt.shaped d' = true) (F d d'):= by
  obtain ⟨d, h1, w1⟩ := optV_elim hw
  obtain ⟨d', h2, w2⟩ := optV_elim w1
  obtain ⟨as, r1⟩ := deepG_reads R _ _ _ _ h1 ra
  obtain ⟨bs, r2⟩ := deepG_reads R _ _ _ _ h2 rb
  exact ⟨d, d', as, bs, r1, r2, deep_shaped h1, deep_shaped h2, w2⟩
theorem in_ints {F : Int → List Int → Prop} (R : Rel base φ H s.heap) (ra : Rep base φ s.heap a x) (rb : Rep base φ s.heap b y) (hw : intV a fun i => refV b H fun vs => optV (zl? vs) fun is => F i is) :
    Ex5 fun (i : Int) (t : Tok) (l : Addr) (ws : List Value) (is : List Int) => And6 (x = .int i t) (y = .ref l) (s.heap.IsList l ws.toArray) ((∀ z, z ∈ ws.toArray → SeqAt.EqAt A.in1 s z x (isThe i z))) (ws.toArray.any (isThe i) = decide (i ∈ is)) (F i is):= by
  obtain ⟨i, rfl, h1⟩ := intV_elim hw
  obtain ⟨k, vs, rfl, hk, h2⟩ := refV_elim h1
  obtain ⟨is, hi, h3⟩ := optV_elim h2
  obtain ⟨t, rfl⟩ := ra
  obtain ⟨l, ws, n, rfl, _, hl, hr⟩ := R.list hk rb
  have hI := ints_areL hi hr
  refine ⟨i, t, l, ws, is, rfl, rfl, ⟨_, hl, rfl, n, rfl⟩, fun z hz => ?_, any_ints hI, h3⟩
  obtain ⟨j, u, rfl⟩ := hI.all _ (by simpa using hz)
  exact fun prog w E Q hq => wpAny_eqBool_int hq
/-- the comparisons -/
theorem soundCmp {op : CmpOp} (hu : A.units + 64 < cLine) (R : Rel base φ H s.heap) (ra : Rep base φ s.heap a x) (rb : Rep base φ s.heap b y) (hw : wpB (cmpOf op) a b H P)
    (K : Cont base φ s P Q) : wpAny (model prog w) A (compareOp op x y) Q E s := by
  cases op with
  | Eq =>
    cases q : str? a with
    | some x' =>
      rw [show wpB (cmpOf .Eq) a b H P = (match str? a with | some x => optV (str? b) fun y => P (.bool (decide (x = y))) H | none => optV (deep 4 H a) fun x => optV (deep 4 H b) fun y => P (.bool (PyData.eqv x y)) H) from rfl, q] at hw
      cases str_eq q
      obtain ⟨y', hy, hw⟩ := optV_elim hw
      cases str_eq hy
      obtain ⟨t, rfl⟩ := ra; obtain ⟨u, rfl⟩ := rb
      refine PyProof.Rows.eq_str ?_
      rw [show (x' == y') = decide (x' = y') by by_cases h : x' = y' <;> simp [h]]
      exact K.here R hw rfl
    | none =>
      rw [show wpB (cmpOf .Eq) a b H P = (match str? a with | some x => optV (str? b) fun y => P (.bool (decide (x = y))) H | none => optV (deep 4 H a) fun x => optV (deep 4 H b) fun y => P (.bool (PyData.eqv x y)) H) from rfl, q] at hw
      obtain ⟨d, d', as, bs, r1, r2, s1, s2, hw⟩ := deep2 R ra rb hw
      exact SeqAt.compareEq_shaped r1 r2 s1 s2 hu (K.here R hw rfl)
  | NotEq =>
    obtain ⟨d, d', as, bs, r1, r2, s1, s2, hw⟩ := deep2 R ra rb hw
    exact SeqAt.compareNe_shaped r1 r2 s1 s2 hu (K.here R hw rfl)
  | Lt => obtain ⟨i, j, t, u, rfl, rfl, hw⟩ := ints2 ra rb hw; exact PyProof.Rows.lt_int (K.here R hw rfl)
  | LtE => obtain ⟨i, j, t, u, rfl, rfl, hw⟩ := ints2 ra rb hw; exact PyProof.Rows.le_int (K.here R hw rfl)
  | Gt => obtain ⟨i, j, t, u, rfl, rfl, hw⟩ := ints2 ra rb hw; exact PyProof.Rows.gt_int (K.here R hw rfl)
  | GtE => obtain ⟨i, j, t, u, rfl, rfl, hw⟩ := ints2 ra rb hw; exact PyProof.Rows.ge_int (K.here R hw rfl)
  | Is =>
    obtain ⟨hb, hw⟩ := hw
    cases b with
    | none =>
      rw [show y = .none from rb]
      refine is_none (K.here R hw ?_)
      show _ = Value.bool _
      cases a <;> first | (rw [show x = .none from ra]; rfl) | (rw [show x = .bool _ from ra]; rfl) | (obtain ⟨t, rfl⟩ := ra; rfl) | (obtain ⟨p, rfl, _⟩ := ra; rfl) | (obtain ⟨p, _, rfl, _⟩ := ra; rfl)
    | _ => exact absurd hb Bool.false_ne_true
  | IsNot => exact False.elim hw
  | In =>
    obtain ⟨i, t, l, ws, is, rfl, rfl, hl, he, ha, hw⟩ := in_ints (A := A) R ra rb hw
    exact SeqAt.in_listAt (isThe i) hl he (by rw [ha]; exact K.here R hw rfl)
  | NotIn =>
    obtain ⟨i, t, l, ws, is, rfl, rfl, hl, he, ha, hw⟩ := in_ints (A := A) R ra rb hw
    exact SeqAt.notIn_listAt (isThe i) hl he (by rw [ha]; exact K.here R hw rfl)
end
end Mine

open PySem
namespace Mine

section
variable {prog : Program} {w : World} {A : Around} {E : Value → Shared → Prop} {base : Heap} {φ : List Addr} {H : Hp} {s : Shared} {P : PV} {Q : Value → Shared → Prop} {a b : V} {x y : Value}

theorem Rel.short (R : Rel base φ H s.heap) {k : Nat} {xs : List V} (e : H[k]? = some xs) : xs.length ≤ room := R.small xs (List.mem_of_getElem? e)
theorem Rel.frz {h : Heap} (R : Rel base φ H h) {l : Addr} {items : Array Value} (x : base.IsList l items) : h.IsList l items :=
  let ⟨o, ho, r⟩ := x; ⟨o, R.keep _ _ ho, r⟩
theorem isTup {h : Heap} {l : Addr} {items : Array Value} (x : h.IsTuple l items) : PyProof.Rows.IsTup h l items := x

theorem sNeg (R : Rel base φ H s.heap) (ra : Rep base φ s.heap a x) (hw : wpU .neg a H P) (K : Cont base φ s P Q) : wpAny (model prog w) A (unaryOp .USub x) Q E s := by
  replace hw := intV_elim hw
  obtain ⟨i, rfl, hw⟩ := hw
  obtain ⟨t, rfl⟩ := ra
  exact PyProof.Rows.neg_int (K.tok _ R hw ⟨_, rfl⟩)

theorem sAbs (R : Rel base φ H s.heap) (ra : Rep base φ s.heap a x) (hw : wpU .abs a H P) (K : Cont base φ s P Q) : wpAny (model prog w) A (call (.builtin "abs") [x]) Q E s := by
  replace hw := intV_elim hw
  obtain ⟨i, rfl, hw⟩ := hw
  obtain ⟨t, rfl⟩ := ra
  exact PyProof.Rows.call_abs_int fun u tk => K.tok _ R hw ⟨_, rfl⟩

theorem sLen (R : Rel base φ H s.heap) (ra : Rep base φ s.heap a x) (hw : wpU .len a H P) (K : Cont base φ s P Q) : wpAny (model prog w) A (call (.builtin "len") [x]) Q E s := by
  cases a with
  | tup xs =>
    obtain ⟨l, vs, rfl, ht, hr, hz⟩ := ra
    have hl := hr.length
    refine PyProof.Rows.len_tuple (isTup ht) (by simp only [List.size_toArray, hl]; unfold room at hz; lia) ?_
    rw [show vs.toArray.size = vs.length from rfl, hl]
    exact K.tok _ R hw ⟨_, rfl⟩
  | ref k =>
    replace hw := optV_elim hw
    obtain ⟨xs, hk, hw⟩ := hw
    obtain ⟨l, vs, n, rfl, _, hp, hr⟩ := rep_ref R ra hk
    have hl := hr.length
    have hz := R.short hk
    refine Calls.call_len_list ⟨_, hp, rfl, n, rfl⟩ (by simp only [List.size_toArray, hl]; unfold room at hz; lia) ?_
    rw [show vs.toArray.size = vs.length from rfl, hl]
    exact K.tok _ R hw ⟨_, rfl⟩
  | frz xs =>
    obtain ⟨l, vs, rfl, hp, hr, hz⟩ := ra
    have hl := hr.length
    refine Calls.call_len_list (R.frz hp) (by simp only [List.size_toArray, hl]; unfold room at hz; lia) ?_
    rw [show vs.toArray.size = vs.length from rfl, hl]
    exact K.tok _ R hw ⟨_, rfl⟩
  | _ => exact hw.elim

theorem sList (R : Rel base φ H s.heap) (ra : Rep base φ s.heap a x) (hw : wpU .list a H P) (K : Cont base φ s P Q) : wpAny (model prog w) A (call (.type "list") [x]) Q E s := by
  cases a with
  | tup xs =>
    obtain ⟨l, vs, rfl, ⟨o, ho, hc, n, hd⟩, hr, hz⟩ := ra
    refine call_list_seq l (.inr rfl) ho hc hd (fun h' c' hk ha => K.list (tk := s.toks) R hk (get_size _) ha hr hz hw) ?_
    have := hr.length; simp only [List.size_toArray, sizeLine]; unfold room at hz; lia
  | ref k =>
    replace hw := optV_elim hw
    obtain ⟨xs, hk, hw⟩ := hw
    obtain ⟨l, vs, n, rfl, _, hp, hr⟩ := rep_ref R ra hk
    have hz := R.short hk
    refine call_list_seq l (.inl rfl) hp rfl rfl (fun h' c' hk ha => K.list (tk := s.toks) R hk (get_size _) ha hr hz hw) ?_
    have := hr.length; simp only [List.size_toArray, sizeLine]; unfold room at hz; lia
  | _ => exact hw.elim

theorem sTuple (R : Rel base φ H s.heap) (ra : Rep base φ s.heap a x) (hw : wpU .tuple a H P) (K : Cont base φ s P Q) : wpAny (model prog w) A (call (.type "tuple") [x]) Q E s := by
  replace hw := refV_elim hw
  obtain ⟨k, xs, rfl, hk, hw⟩ := hw
  obtain ⟨l, vs, n, rfl, _, hp, hr⟩ := rep_ref R ra hk
  have hz := R.short hk
  refine call_tuple_list ⟨_, hp, rfl, n, rfl⟩ (fun h' hk' => ?_) ?_
  · have kp : ∀ b o, s.heap.get? b = some o → (h'.push { cls := .type "tuple", data := .seq vs.toArray }).get? b = some o := fun b o e => Heap.get?_push_of_some _ (hk' b o e)
    exact K.grow (tk := s.toks) R kp hw ⟨_, vs, rfl, ⟨_, Heap.get?_push_size _ rfl, rfl, 0, rfl⟩, RepL.mono (List.prefix_refl _) (fun b o e _ => kp b o e) xs vs hr, hz⟩
  · have := hr.length; simp only [List.size_toArray, sizeLine]; unfold room at hz; lia

theorem sSum (hh : A.handled = none) (R : Rel base φ H s.heap) (ra : Rep base φ s.heap a x) (hw : wpU .sum a H P) (K : Cont base φ s P Q) : wpAny (model prog w) A (call (.builtin "sum") [x]) Q E s := by
  replace hw := refV_elim hw
  obtain ⟨k, xs, rfl, hk, hw⟩ := hw
  replace hw := optV_elim hw
  obtain ⟨is, hi, hw⟩ := hw
  · · skip
      obtain ⟨l, vs, n, rfl, _, hp, hr⟩ := rep_ref R ra hk
      have hI := ints_areL hi hr
      obtain ⟨ps, e⟩ := hI.allInts.items
      have hn := hI.numsOf
      rw [show vs = (vs.toArray).toList from rfl, e] at hn
      rw [nums_intItems] at hn
      refine sum_intListG hh (xs := ps) (e ▸ ⟨_, hp, rfl, n, rfl⟩) fun h' tk t' hk' => ?_
      rw [preSum_eq, List.take_of_length_le (by simp), hn]
      exact K.grow R hk' hw ⟨_, rfl⟩

theorem sSorted (R : Rel base φ H s.heap) (ra : Rep base φ s.heap a x) (hw : wpU .sorted a H P) (K : Cont base φ s P Q) : wpAny (model prog w) A (call (.builtin "sorted") [x]) Q E s := by
  replace hw := refV_elim hw
  obtain ⟨k, xs, rfl, hk, hw⟩ := hw
  replace hw := optV_elim hw
  obtain ⟨is, hi, hw⟩ := hw
  · · skip
      obtain ⟨l, vs, n, rfl, _, hp, hr⟩ := rep_ref R ra hk
      have hI := ints_areL hi hr
      obtain ⟨h64, hw⟩ := hw
      have hlen := hI.length
      refine PyProof.Rows.sorted_ints ⟨_, hp, rfl, n, rfl⟩ hI (by lia) fun out ns' hI' hperm hpw => ?_
      obtain ⟨e, he⟩ := PyProof.Rows.sortedAll_at s.heap vs out
      refine K.list (tk := s.toks) (vs := out.toList) (n := e) R (fun b o hb => PyProof.Rows.sortedAll_old hb) (get_ge _ (Nat.le_succ _)) (by simpa using he) (ints_repL hI') ?_ (hw ns' hperm hpw)
      simp only [zl, List.length_map, hperm.length_eq]; unfold room; lia

theorem sMax (hh : A.handled = none) (R : Rel base φ H s.heap) (ra : Rep base φ s.heap a x) (rb : Rep base φ s.heap b y) (hw : wpB .max a b H P) (K : Cont base φ s P Q) :
    wpAny (model prog w) A (call (.builtin "max") [x, y]) Q E s := by
  replace hw := intV_elim hw
  obtain ⟨i, rfl, hw⟩ := hw
  replace hw := intV_elim hw
  obtain ⟨j, rfl, hw⟩ := hw
  · obtain ⟨t, rfl⟩ := ra; obtain ⟨u, rfl⟩ := rb
    refine max_two_ints hh fun h' tk hk => K.grow R hk hw ?_
    by_cases q : i < j
    · rw [if_pos q, if_pos q]; exact ⟨_, rfl⟩
    · rw [if_neg q, if_neg q]; exact ⟨_, rfl⟩
theorem firstMet_nodup (val : Nat → Int) : ∀ n : Nat, ((List.range n).map val).Nodup → (PyProof.Rows.firstMet val n).length = n
  | 0, _ => by rw [PyProof.Rows.firstMet_zero]; rfl
  | n + 1, h => by
    rw [List.range_succ, List.map_append, List.nodup_append] at h
    obtain ⟨h1, _, h3⟩ := h
    rw [PyProof.Rows.firstMet_succ, PyProof.Rows.step_dedup, PyProof.Rows.firstMet_any]
    have : (((List.range n).map val).any (· == val n)) = false := by
      rw [List.any_eq_false]
      intro y hy
      simp only [beq_iff_eq]
      exact h3 y hy (val n) (by simp)
    rw [this]
    simp [firstMet_nodup val n h1]
theorem firstMet_dup (val : Nat → Int) : ∀ n : Nat, ¬ ((List.range n).map val).Nodup → (PyProof.Rows.firstMet val n).length < n
  | 0, h => absurd (by simp) h
  | n + 1, h => by
    rw [PyProof.Rows.firstMet_succ, PyProof.Rows.step_dedup, PyProof.Rows.firstMet_any]
    by_cases q : ((List.range n).map val).Nodup
    · have : (((List.range n).map val).any (· == val n)) = true := by
        rw [List.any_eq_true]
        refine Classical.byContradiction fun hc => h ?_
        rw [List.range_succ, List.map_append, List.nodup_append]
        refine ⟨q, by simp, fun y hy z hz e => hc ⟨y, hy, ?_⟩⟩
        simp only [List.map_cons, List.map_nil, List.mem_singleton] at hz
        simp [e, hz]
      rw [this]
      have := PyProof.Rows.firstMet_length_le val n
      simp only [if_true]; lia
    · have := firstMet_dup val n q
      split
      · lia
      · simp; lia
theorem range_getD (ns : List Int) : (List.range ns.length).map (fun i => ns.getD i 0) = ns := by
  apply List.ext_getElem
  · simp
  · intro i h1 h2; simp at h1 h2 ⊢; simp [h2]

theorem sNset (hh : A.handled = none) (R : Rel base φ H s.heap) (ra : Rep base φ s.heap a x) (hw : wpU .nset a H P) (K : Cont base φ s P Q) :
    wpAny (model prog w) A (call (.type "set") [x]) (fun v s₁ => wpAny (model prog w) A (call (.builtin "len") [v]) Q E s₁) E s := by
  replace hw := refV_elim hw
  obtain ⟨k, xs, rfl, hk, hw⟩ := hw
  replace hw := optV_elim hw
  obtain ⟨is, hi, hw⟩ := hw
  · · skip
      obtain ⟨l, vs, n, rfl, _, hp, hr⟩ := rep_ref R ra hk
      have hI := ints_areL hi hr
      obtain ⟨hb, hw⟩ := hw
      have hlen := hI.length
      refine call_set_list hh (items := vs.toArray) ⟨_, hp, rfl, n, rfl⟩ hI (by simp only [List.size_toArray, scanBound]; lia) fun h' tk hS hk' => ?_
      obtain ⟨o, es, ep, t, ho, hex, hd, _, _, hbd, hf, hsz⟩ := hS
      have kp : ∀ b o, s.heap.get? b = some o → h'.get? b = some o := fun b o e => hk' b o (Heap.lt_size e) e
      refine call_len_set ho hex hd hf (by unfold scanBound at hbd; lia) ?_
      have : es.size = (PyProof.Rows.firstMet (fun i => is.getD i 0) is.length).length := by rw [hsz, List.size_toArray, hlen]
      rw [this]
      refine K.grow (h := h') R kp (hw _ (fun hn => ?_) fun hn => ?_) ⟨_, rfl⟩
      · exact firstMet_nodup _ _ (by rw [range_getD]; exact hn)
      · exact firstMet_dup _ _ (by rw [range_getD]; exact hn)

theorem sIsi {t : String} {u : U} (ht : (t = "int" ∧ u = .isInt) ∨ (t = "bool" ∧ u = .isBool) ∨ (t = "list" ∧ u = .isList) ∨ (t = "tuple" ∧ u = .isTuple))
    (R : Rel base φ H s.heap) (ra : Rep base φ s.heap a x) (hw : wpU u a H P) (K : Cont base φ s P Q) : wpAny (model prog w) A (call (.builtin "isinstance") [x, .type t]) Q E s := by
  have lst : ∀ {k : Nat}, Rep base φ s.heap (.ref k) x → ∃ l o, x = .ref l ∧ s.heap.get? l = some o ∧ o.cls = .type "list" := fun {k} r => by
    obtain ⟨l, rfl, hl⟩ := r
    obtain ⟨vs, n, _, h, _⟩ := R.lists k l hl
    exact ⟨l, _, rfl, h, rfl⟩
  cases a
  · rw [show x = .none from ra]
    rcases ht with ⟨rfl, rfl⟩ | ⟨rfl, rfl⟩ | ⟨rfl, rfl⟩ | ⟨rfl, rfl⟩
    · exact IsiPair.NoneType_int (K.tok _ R hw rfl)
    · exact IsiPair.NoneType_bool (K.tok _ R hw rfl)
    · exact IsiPair.NoneType_list (K.tok _ R hw rfl)
    · exact IsiPair.NoneType_tuple (K.tok _ R hw rfl)
  · rw [show x = .bool _ from ra]
    rcases ht with ⟨rfl, rfl⟩ | ⟨rfl, rfl⟩ | ⟨rfl, rfl⟩ | ⟨rfl, rfl⟩
    · exact IsiPair.bool_int (K.here R hw rfl)
    · exact IsiPair.bool_bool (K.here R hw rfl)
    · exact IsiPair.bool_list (K.tok _ R hw rfl)
    · exact IsiPair.bool_tuple (K.tok _ R hw rfl)
  · obtain ⟨tk, rfl⟩ := ra
    rcases ht with ⟨rfl, rfl⟩ | ⟨rfl, rfl⟩ | ⟨rfl, rfl⟩ | ⟨rfl, rfl⟩
    · exact IsiPair.int_int (K.here R hw rfl)
    · exact IsiPair.int_bool (K.tok _ R hw rfl)
    · exact IsiPair.int_list (K.tok _ R hw rfl)
    · exact IsiPair.int_tuple (K.tok _ R hw rfl)
  · obtain ⟨tk, rfl⟩ := ra
    rcases ht with ⟨rfl, rfl⟩ | ⟨rfl, rfl⟩ | ⟨rfl, rfl⟩ | ⟨rfl, rfl⟩
    · exact IsiPair.str_int (K.tok _ R hw rfl)
    · exact IsiPair.str_bool (K.tok _ R hw rfl)
    · exact IsiPair.str_list (K.tok _ R hw rfl)
    · exact IsiPair.str_tuple (K.tok _ R hw rfl)
  · obtain ⟨l, vs, rfl, ⟨o, ho, hc, _⟩, _⟩ := ra
    rcases ht with ⟨rfl, rfl⟩ | ⟨rfl, rfl⟩ | ⟨rfl, rfl⟩ | ⟨rfl, rfl⟩
    · exact IsiPair.tuple_int ho hc (K.tok _ R hw rfl)
    · exact IsiPair.tuple_bool ho hc (K.tok _ R hw rfl)
    · exact IsiPair.tuple_list ho hc (K.tok _ R hw rfl)
    · exact IsiPair.tuple_tuple ho hc (K.here R hw rfl)
  · obtain ⟨l, o, rfl, ho, hc⟩ := lst ra
    rcases ht with ⟨rfl, rfl⟩ | ⟨rfl, rfl⟩ | ⟨rfl, rfl⟩ | ⟨rfl, rfl⟩
    · exact IsiPair.list_int ho hc (K.tok _ R hw rfl)
    · exact IsiPair.list_bool ho hc (K.tok _ R hw rfl)
    · exact IsiPair.list_list ho hc (K.here R hw rfl)
    · exact IsiPair.list_tuple ho hc (K.tok _ R hw rfl)
  · obtain ⟨l, vs, rfl, hl, _⟩ := ra
    obtain ⟨o, ho, hc, _⟩ := R.frz hl
    rcases ht with ⟨rfl, rfl⟩ | ⟨rfl, rfl⟩ | ⟨rfl, rfl⟩ | ⟨rfl, rfl⟩
    · exact IsiPair.list_int ho hc (K.tok _ R hw rfl)
    · exact IsiPair.list_bool ho hc (K.tok _ R hw rfl)
    · exact IsiPair.list_list ho hc (K.here R hw rfl)
    · exact IsiPair.list_tuple ho hc (K.tok _ R hw rfl)
  · obtain ⟨l, o, rfl, _, ho, hc, _⟩ := ra
    rcases ht with ⟨rfl, rfl⟩ | ⟨rfl, rfl⟩ | ⟨rfl, rfl⟩ | ⟨rfl, rfl⟩
    · exact IsiPair.dict_int ho hc (K.tok _ R hw rfl)
    · exact IsiPair.dict_bool ho hc (K.tok _ R hw rfl)
    · exact IsiPair.dict_list ho hc (K.tok _ R hw rfl)
    · exact IsiPair.dict_tuple ho hc (K.tok _ R hw rfl)

/-- the text of a value -/
theorem sTextD (hg : A.guards = some []) (hu : A.units + 64 < cLine) (R : Rel base φ H s.heap) {l : Addr} (ra : Rep base φ s.heap a (.ref l)) (hw : textD a H P) (K : Cont base φ s P Q) : wpAny (model prog w) A (call (.type "str") [.ref l]) Q E s := by
  replace hw := optV_elim hw
  obtain ⟨d, hd, h1, h2, hw⟩ := hw
  obtain ⟨as, r⟩ := deepG_reads R _ _ _ _ hd ra
  have sh := deepS_depth H _ _ _ hd
  refine str_of_reads r h1 (PyData.noDict_hsm sh.2) hg (by have := sh.1; lia) (fun _ _ e => e) (fun h' u tk hk => K.grow R hk hw ⟨_, rfl⟩) (by simp only [sizeLine]; lia)
theorem sText (hg : A.guards = some []) (hu : A.units + 64 < cLine) (R : Rel base φ H s.heap) (ra : Rep base φ s.heap a x) (hw : wpU .text a H P) (K : Cont base φ s P Q) : wpAny (model prog w) A (call (.type "str") [x]) Q E s := by
  change textV a H P at hw
  cases a with
  | str y => obtain ⟨t, rfl⟩ := ra; exact PySem.P.str_of_str (K.here R hw ⟨_, rfl⟩)
  | dct =>
    obtain ⟨l, o, rfl, hn, ho, hc, hs, t, u, k, hd⟩ := ra
    have r : Reads s.heap (.ref l) dct0 ([l] ++ [] ++ [] ++ ([] ++ [])) := .dict ho hc hd (.cons (.int _ _) .nil) (.cons (.int _ _) .nil)
    have hdp : dct0.depth = 1 := by decide +kernel
    refine str_of_reads r (by decide +kernel) (fun _ q => ?_) hg (by rw [hdp]; lia) (fun _ _ e => e) (fun h' u tk hk => K.grow R hk hw ⟨_, rfl⟩) (by decide +kernel)
    simp at q; exact hn q.symm
  | none =>
    replace hw := optV_elim (show optV (deepS 4 H .none) (fun d => d.showable = true ∧ d.shown.length ≤ 100000 ∧ P (.str d.shown) H) from hw)
    obtain ⟨d, hd, h1, h2, hw⟩ := hw
    cases hd
    rw [show x = .none from ra]
    exact PySem.P.str_of_none (K.tok _ R hw ⟨_, rfl⟩)
  | bool b =>
    replace hw := optV_elim (show optV (deepS 4 H (.bool b)) (fun d => d.showable = true ∧ d.shown.length ≤ 100000 ∧ P (.str d.shown) H) from hw)
    obtain ⟨d, hd, h1, h2, hw⟩ := hw
    cases hd
    rw [show x = .bool b from ra]
    exact PySem.P.str_of_bool (K.tok _ R hw ⟨_, rfl⟩)
  | int i =>
    replace hw := optV_elim (show optV (deepS 4 H (.int i)) (fun d => d.showable = true ∧ d.shown.length ≤ 100000 ∧ P (.str d.shown) H) from hw)
    obtain ⟨d, hd, h1, h2, hw⟩ := hw
    cases hd
    obtain ⟨t, rfl⟩ := ra
    exact PySem.P.str_of_int (of_decide_eq_true h1) (K.tok _ R hw ⟨_, rfl⟩)
  | tup vs =>
    obtain ⟨l, ws, rfl, h⟩ := id ra
    exact sTextD hg hu R ra hw K
  | ref k =>
    obtain ⟨l, rfl, h⟩ := id ra
    exact sTextD hg hu R ra hw K
  | frz _ => exact hw.elim
end
end Mine

open PySem
namespace Mine

set_option tactic.hygienic true
theorem place_lt {i : Int} {n j : Nat} (h : place i n = some j) : j < n ∧ ((0 ≤ i ∧ i < n ∧ j = i.toNat) ∨ (i < 0 ∧ -(n : Int) ≤ i ∧ j = (i + n).toNat)) := by
  unfold place at h
  split at h
  · rename_i q; cases h; lia
  · split at h
    · rename_i q; cases h; lia
    · cases h
set_option tactic.hygienic false

section
variable {prog : Program} {w : World} {A : Around} {E : Value → Shared → Prop} {base : Heap} {φ : List Addr} {H : Hp} {s : Shared} {P : PV} {Q : Value → Shared → Prop} {a b : V} {x y : Value}

theorem sItem {value slice : Expr} (hs : ∀ o i, subscripted slice false o i = operate [o, i] (getItem o i)) (R : Rel base φ H s.heap) (ra : Rep base φ s.heap a x) (rb : Rep base φ s.heap b y)
    (hw : wpB .item a b H P) (K : Cont base φ s P Q) : wpAny (model prog w) A (PyProof.Rows.subscriptTail value slice x y) Q E s := by
  replace hw := intV_elim hw
  obtain ⟨i, rfl, hw⟩ := hw
  change itemV a i H P at hw
  cases a with
  | ref k =>
    replace hw := optV_elim hw
    obtain ⟨xs, hk, hw⟩ := hw
    replace hw := optV_elim hw
    obtain ⟨j, hj, hw⟩ := hw
    replace hw := optV_elim hw
    obtain ⟨v, hv, hw⟩ := hw
    obtain ⟨l, vs, n, rfl, _, hp, hr⟩ := rep_ref R ra hk
    obtain ⟨t, rfl⟩ := rb
    obtain ⟨u, hu, ru⟩ := hr.get hv
    have hz := R.short hk
    have hl := hr.length
    have hT : s.heap.IsList l vs.toArray := ⟨_, hp, rfl, n, rfl⟩
    refine PyProof.Rows.tail_any hT.typeIs slot_list_getitem.lookup ?_ (hs _ _)
    obtain ⟨hjl, ⟨h0, h1, e⟩ | ⟨h0, h1, e⟩⟩ := place_lt hj
    · exact wpAny_getItem_list hT h0 (by unfold room at hz; lia) (by subst e; simpa using hu) (K.here R hw ru)
    · exact wpAny_getItem_list_neg hT h0 (by simp only [List.size_toArray, hl]; exact h1) (by unfold room at hz; lia) (by subst e; simpa [hl] using hu) (K.here R hw ru)
  | tup xs =>
    replace hw := optV_elim hw
    obtain ⟨j, hj, hw⟩ := hw
    replace hw := optV_elim hw
    obtain ⟨v, hv, hw⟩ := hw
    obtain ⟨l, vs, rfl, ht, hr, hz⟩ := ra
    obtain ⟨t, rfl⟩ := rb
    obtain ⟨u, hu, ru⟩ := hr.get hv
    have hl := hr.length
    obtain ⟨hjl, hc⟩ := place_lt hj
    have hT : s.TypeIs (.ref l) "tuple" := by obtain ⟨o, ho, hc, _⟩ := ht; exact ⟨o, ho, hc⟩
    refine PyProof.Rows.tail_any hT PyProof.Rows.slot_tuple_getitem.lookup ?_ (hs _ _)
    refine PyProof.Rows.getItem_tuple (isTup ht) (by unfold room at hz; lia) (by unfold room at hz; lia) (j := j) ?_ (by simpa using hu) (K.here R hw ru)
    simp only [List.size_toArray, hl]
    rcases hc with ⟨h0, h1, e⟩ | ⟨h0, h1, e⟩
    · rw [e]; exact seqIndex_of h0 h1
    · rw [e]; exact seqIndex_neg h0 h1
  | frz xs =>
    replace hw := optV_elim hw
    obtain ⟨j, hj, hw⟩ := hw
    replace hw := optV_elim hw
    obtain ⟨v, hv, hw⟩ := hw
    obtain ⟨l, vs, rfl, hb, hI, hz⟩ := ra
    obtain ⟨t, rfl⟩ := rb
    have hT := R.frz hb
    obtain ⟨u, hu, t', rfl⟩ := (ints_repL (base := base) (φ := φ) (h := s.heap) hI).get (i := j) (x := .int v) (by simp [zl, hv])
    have hl := hI.length
    refine PyProof.Rows.tail_any hT.typeIs slot_list_getitem.lookup ?_ (hs _ _)
    obtain ⟨hjl, ⟨h0, h1, e⟩ | ⟨h0, h1, e⟩⟩ := place_lt hj
    · exact wpAny_getItem_list hT h0 (by unfold room at hz; lia) (by subst e; simpa using hu) (K.here R hw ⟨_, rfl⟩)
    · exact wpAny_getItem_list_neg hT h0 (by simp only [List.size_toArray, hl]; exact h1) (by unfold room at hz; lia) (by subst e; simpa [hl] using hu) (K.here R hw ⟨_, rfl⟩)
  | _ => exact hw.elim

theorem part_is {v : V} {x : Value} {lo : Option Int} (e : part? v = some lo) (r : Rep base φ s.heap v x) : IsPart x lo := by
  cases v with
  | none => cases e; rw [show x = .none from r]; exact .none
  | int i => cases e; obtain ⟨t, rfl⟩ := r; exact .int _ _
  | _ => exact Zj e

/-- a cut of a list -/
theorem picked_rep {xs : List V} {vs : List Value} {lo hi : Option Int} (hr : RepL base φ s.heap xs vs) : ∃ (us : List Value), slicePick vs.toArray lo hi none = us.toArray ∧ RepL base φ s.heap (picked xs lo hi) us:= by
  refine ⟨_, slicePick_plain vs.toArray lo hi, ?_⟩
  have hl := hr.length
  unfold picked
  simp only [List.size_toArray, hl]
  exact RepL.take _ (RepL.drop _ hr)
theorem picked_len (xs : List V) (lo hi : Option Int) : (picked xs lo hi).length ≤ xs.length := by
  unfold picked; simp only [List.length_take, List.length_drop]; lia
end
end Mine

open PySem
namespace Mine

/-! ## the ground: what the top has left -/
noncomputable def biTab : List (Str × Value) :=
  [("len", .builtin "len"), ("list", .type "list"), ("tuple", .type "tuple"), ("sum", .builtin "sum"), ("sorted", .builtin "sorted"), ("abs", .builtin "abs"),
   ("set", .type "set"), ("reversed", .type "reversed"), ("range", .type "range"), ("enumerate", .type "enumerate"), ("isinstance", .builtin "isinstance"),
   ("int", .type "int"), ("bool", .type "bool"), ("max", .builtin "max"), ("min", .builtin "min"), ("zip", .type "zip"), ("str", .type "str"), ("ValueError", .type "ValueError")]
theorem bt {p : Str × Value} (n : Nat) (h : biTab[n]? = some p) : p ∈ biTab := List.mem_of_getElem? h

structure FnAt (base : Heap) (D : Tabs) (T : Nat → Option Fn) (a : Addr) (k : Nat) (o : Obj) (fd : FuncData) (body : List Stmt) (d : Fn) (params : List Str) : Prop where
  obj : base.get? a = some o
  dat : o.data = .func fd
  bod : fd.body = .stmts body
  code : base.CodeRec fd.code fd.qualname
  glob : fd.globals = mainGlobals
  clos : fd.closure = []
  blt : fd.builtins = builtinsNs
  tab : T k = some d
  comp : cFn D fd.scope params body = some d
  bind : ∀ vs : List Value, vs.length = params.length → bindArgs fd ⟨vs, []⟩ = pure (params.zip vs)

structure Ground (base : Heap) (D : Tabs) (T : Nat → Option Fn) (mg mb : Str → Option Value) : Prop where
  glob : base.Ns mainGlobals mg
  blt : base.Ns builtinsNs mb
  nolim : base.NoLimit
  sys : ∃ o, base.get? sysModules = some o
  const : ∀ x i, D.consts.lookup x = some i → ∃ t, mg x = some (.int i t)
  bi : ∀ p ∈ biTab, mg p.1 = none ∧ mb p.1 = some p.2
  fn : ∀ f k, D.fids.lookup f = some k → Ex6 fun a o fd body d params => mg f = some (.ref a) ∧ FnAt base D T a k o fd body d params

/-- the calls of the text's own functions are sound -/
noncomputable def SoundC (prog : Program) (w : World) (base : Heap) (D : Tabs) (T : Nat → Option Fn) (C : Calls) (A : Around) : Prop :=
  ∀ (k : Nat) (a : Addr) (o : Obj) (fd : FuncData) (body : List Stmt) (d : Fn) (params : List Str) (vs : List V) (ws : List Value) (H : Hp) (P : PV) (φ : List Addr) (s : Shared) (Q : Value → Shared → Prop) (E : Value → Shared → Prop), FnAt base D T a k o fd body d params → Rel base φ H s.heap → RepL base φ s.heap vs ws → C k vs H P → Cont base φ s P Q → wpAny (model prog w) A (call (.ref a) ws []) Q E s

section
variable {prog : Program} {w : World} {base : Heap} {D : Tabs} {T : Nat → Option Fn} {mg mb : Str → Option Value} {C : Calls} {A : Around}

/-- an expression is sound -/
noncomputable def SE (prog : Program) (w : World) (base : Heap) (C : Calls) (A : Around) (e : Expr) (x : X) (sc : Scope) (Γ : List Str) (env : Env) : Prop :=
  ∀ (m : Loc) (φ : List Addr) (H : Hp) (s : Shared) (P : PV) (Q : Value → Shared → Prop) (E : Value → Shared → Prop), Rel base φ H s.heap → EnvR base φ sc env Γ m s.heap → wpE C x m H P → Cont base φ s P Q → wpAny (model prog w) A (eval e env) Q E s

/-- as a test -/
noncomputable def ST (prog : Program) (w : World) (base : Heap) (C : Calls) (A : Around) (e : Expr) (x : X) (sc : Scope) (Γ : List Str) (env : Env) : Prop :=
  ∀ (m : Loc) (φ : List Addr) (H : Hp) (s : Shared) (P : PV) (Q : Bool → Shared → Prop) (E : Value → Shared → Prop), Rel base φ H s.heap → EnvR base φ sc env Γ m s.heap → wpE C x m H P → (∀ v b φ' H' s', P v H' → truth v = some b → Step [] φ φ' s s' → Rel base φ' H' s'.heap → Q b s') → (∀ v H', P v H' → ∃ b, truth v = some b) → wpAny (model prog w) A (isTrue e env (eval e env)) Q E s

variable {sc : Scope} {Γ : List Str} {env : Env}

theorem truth_sound {base : Heap} {φ : List Addr} {M : Model} {E : Value → Shared → Prop} {s : Shared} {v : V} {x : Value} {b : Bool} {Q : Bool → Shared → Prop} (r : Rep base φ s.heap v x) (e : truth v = some b) (h : Q b s) :
    wpAny M A (truthy x) Q E s := by
  cases v with
  | none => cases e; rw [show x = .none from r]; exact PyProof.Rows.truthy_none h
  | bool c => cases e; rw [show x = .bool _ from r]; exact wpAny_truthy_bool h
  | _ => exact Zj e

theorem not_star {e : Expr} {x : X} (h : cE D sc Γ e = some x) (rest : List Expr) : starEach (e :: rest) env = (false, eval e env) :: starEach rest env := by
  exact cE_elim (M := fun e _ => starEach (e :: rest) env = (false, eval e env) :: starEach rest env) (by intros; rfl) (by intros; rfl) (by intros; rfl) (by intros; rfl) (by intros; rfl) (by intros; rfl) (by intros; rfl) (by intros; rfl) (by intros; rfl) (by intros; rfl) (by intros; rfl) (by intros; rfl) (by intros; rfl) (by intros; rfl) e x h

theorem se_args {pos : Pos} : ∀ (args : List Expr) (xs : List X), cEs D sc Γ args = some xs → (∀ e ∈ args, ∀ x, cE D sc Γ e = some x → SE prog w base C A e x sc Γ env) →
    ∀ (m : Loc) (φ : List Addr) (H : Hp) (s : Shared) (P : List V → Hp → Prop) (Q : List Value → Shared → Prop) (E : Value → Shared → Prop), Rel base φ H s.heap → EnvR base φ sc env Γ m s.heap → wpEs C xs m H P →
    (∀ vs ws φ' H' s', P vs H' → Step [] φ φ' s s' → Rel base φ' H' s'.heap → RepL base φ' s'.heap vs ws → vs.length = args.length → Q ws s') → wpAny (model prog w) A (spliced (backTo pos (starEach args env))) Q E s
  | [], xs, hc, _, m, φ, H, s, P, Q, E, R, W, hw, K => by
    rw [cEs_nil] at hc; cases hc
    exact wpAny_items_nil (K [] [] φ H s hw (Step.refl _ _ _) R rfl rfl)
  | e :: r, xs, hc, IH, m, φ, H, s, P, Q, E, R, W, hw, K => by
    rcases cEs_cons hc with ⟨a, as, h1, h2, rfl⟩
    · skip
      simp only [wes_nil, wes_cons] at hw
      refine wpAny_items_cons (IH e (.head _) a h1 m φ H s _ _ E R W hw fun v x φ₁ H₁ s₁ hp st R₁ rv => ?_) (not_star h1 r)
      refine se_args r as h2 (fun e' he => IH e' (.tail _ he)) m φ₁ H₁ s₁ _ _ E R₁ (W.step R st) hp fun vs ws φ₂ H₂ s₂ hp₂ st₂ R₂ rvs hl => ?_
      exact K (v :: vs) (x :: ws) φ₂ H₂ s₂ hp₂ (st.trans st₂) R₂ ⟨x, ws, rfl, R₁.mono st₂ rv, rvs⟩ (by simp [hl])

set_option tactic.hygienic true
/-- a global name of the top's -/
theorem glob_name (G : Ground base D T mg mb) {x : Str} {pos : Pos} {φ : List Addr} {H : Hp} {m : Loc} {s : Shared} {v : Value} {Q : Value → Shared → Prop} {E : Value → Shared → Prop} (R : Rel base φ H s.heap) (W : EnvR base φ sc env Γ m s.heap)
    (hx : isGlob sc x = true) (hd : (x == ("__debug__" : Str)) = false) (hv : mg x = some v) (h : Q v s) : wpAny (model prog w) A (eval (.Name x pos) env) Q E s := by
  have kd := W.kinds x
  have hk : env.kindOf x = some .globalImplicit := by
    unfold isGlob at hx
    split at hx
    · rename_i e; rw [e] at kd; exact kd
    · cases hx
  exact PySem.Calls.Name_function_global W.kind hk (PySem.Calls.loadGlobal_global (mg := mg) (by rw [W.glob]; exact G.glob.keeps R.keep) hv h) hd
set_option tactic.hygienic false

set_option tactic.hygienic true
theorem blt_name (G : Ground base D T mg mb) {x : Str} {pos : Pos} {φ : List Addr} {H : Hp} {m : Loc} {s : Shared} {v : Value} {Q : Value → Shared → Prop} {E : Value → Shared → Prop} (R : Rel base φ H s.heap) (W : EnvR base φ sc env Γ m s.heap)
    (hx : isGlob sc x = true) (hd : (x == ("__debug__" : Str)) = false) (hv : (x, v) ∈ biTab) (h : Q v s) : wpAny (model prog w) A (eval (.Name x pos) env) Q E s := by
  have kd := W.kinds x
  have hk : env.kindOf x = some .globalImplicit := by
    unfold isGlob at hx
    split at hx
    · rename_i e; rw [e] at kd; exact kd
    · cases hx
  obtain ⟨h1, h2⟩ := G.bi _ hv
  exact PySem.Calls.Name_function_global W.kind hk (PySem.Calls.loadGlobal_builtin (mg := mg) (mb := mb) (by rw [W.glob]; exact G.glob.keeps R.keep) h1 (by rw [W.blt]; exact G.blt.keeps R.keep) h2 h) hd
set_option tactic.hygienic false

/-- a call of a built-in by its name -/
theorem se_call_b (G : Ground base D T mg mb) {f : Str} {p pos : Pos} {id : String} {args : List Expr} {xs : List X} (hb : (f, Value.builtin id) ∈ biTab) (hx : isGlob sc f = true) (hd : (f == ("__debug__" : Str)) = false)
    (hc : cEs D sc Γ args = some xs) (hne : args ≠ []) (IH : ∀ e ∈ args, ∀ x, cE D sc Γ e = some x → SE prog w base C A e x sc Γ env)
    {m : Loc} {φ : List Addr} {H : Hp} {s : Shared} {P : List V → Hp → Prop} {Q : Value → Shared → Prop} {E : Value → Shared → Prop} (R : Rel base φ H s.heap) (W : EnvR base φ sc env Γ m s.heap) (hw : wpEs C xs m H P)
    (K : ∀ vs ws φ' H' s', P vs H' → Step [] φ φ' s s' → Rel base φ' H' s'.heap → RepL base φ' s'.heap vs ws → wpAny (model prog w) A (call (.builtin id) ws) Q E s') :
    wpAny (model prog w) A (eval (.Call (.Name f p) args [] pos) env) Q E s := by
  refine wpAny_Call_NameR (blt_name G R W hx hd hb ?_)
  cases args with
  | nil => exact absurd rfl hne
  | cons e r =>
    have hs : ∃ a as, cE D sc Γ e = some a ∧ cEs D sc Γ r = some as := by
      rcases cEs_cons hc with ⟨a, as, h1, h2, rfl⟩
      · exact ⟨a, as, h1, h2⟩
    obtain ⟨a, as, h1, h2⟩ := hs
    have plain : ∀ (l : List Expr) (ys : List X), cEs D sc Γ l = some ys → (backTo pos (starEach l env)).any (·.1) = false := by
      intro l
      induction l with
      | nil => intro _ _; rfl
      | cons e' r' ih =>
        intro ys hys
        rcases cEs_cons hys with ⟨a', as', q1, q2, rfl⟩
        · skip
          rw [not_star q1, backTo, List.map_cons, List.any_cons]
          simp only [Bool.false_or]
          exact ih _ q2
    refine PySem.Calls.callWith_builtin (plain _ _ hc) ?_
    have e1 : backTo pos (starEach (e :: r) env) = (false, eval e env) :: backTo pos (starEach r env) := by rw [not_star h1]; rfl
    rw [e1]
    refine PySem.Calls.evalArgs_plain ?_
    rw [← e1]
    exact se_args (e :: r) xs hc IH m φ H s P _ E R W hw fun vs ws φ' H' s' hp st R' rv _ => K vs ws φ' H' s' hp st R' rv

theorem se_call_t (G : Ground base D T mg mb) {f : Str} {p pos : Pos} {id : String} {args : List Expr} {xs : List X} (hb : (f, Value.type id) ∈ biTab) (hx : isGlob sc f = true) (hd : (f == ("__debug__" : Str)) = false)
    (hc : cEs D sc Γ args = some xs) (hne : args ≠ []) (IH : ∀ e ∈ args, ∀ x, cE D sc Γ e = some x → SE prog w base C A e x sc Γ env)
    {m : Loc} {φ : List Addr} {H : Hp} {s : Shared} {P : List V → Hp → Prop} {Q : Value → Shared → Prop} {E : Value → Shared → Prop} (R : Rel base φ H s.heap) (W : EnvR base φ sc env Γ m s.heap) (hw : wpEs C xs m H P)
    (K : ∀ vs ws φ' H' s', P vs H' → Step [] φ φ' s s' → Rel base φ' H' s'.heap → RepL base φ' s'.heap vs ws → wpAny (model prog w) A (call (.type id) ws) Q E s') :
    wpAny (model prog w) A (eval (.Call (.Name f p) args [] pos) env) Q E s := by
  refine wpAny_Call_NameR (blt_name G R W hx hd hb ?_)
  cases args with
  | nil => exact absurd rfl hne
  | cons e r =>
    have hs : ∃ a as, cE D sc Γ e = some a ∧ cEs D sc Γ r = some as := by
      rcases cEs_cons hc with ⟨a, as, h1, h2, rfl⟩
      · exact ⟨a, as, h1, h2⟩
    obtain ⟨a, as, h1, h2⟩ := hs
    have plain : ∀ (l : List Expr) (ys : List X), cEs D sc Γ l = some ys → (backTo pos (starEach l env)).any (·.1) = false := by
      intro l
      induction l with
      | nil => intro _ _; rfl
      | cons e' r' ih =>
        intro ys hys
        rcases cEs_cons hys with ⟨a', as', q1, q2, rfl⟩
        · skip
          rw [not_star q1, backTo, List.map_cons, List.any_cons]
          simp only [Bool.false_or]
          exact ih _ q2
    refine callWith_type (plain _ _ hc) ?_
    have e1 : backTo pos (starEach (e :: r) env) = (false, eval e env) :: backTo pos (starEach r env) := by rw [not_star h1]; rfl
    rw [e1]
    refine PySem.Calls.evalArgs_plain ?_
    rw [← e1]
    exact se_args (e :: r) xs hc IH m φ H s P _ E R W hw fun vs ws φ' H' s' hp st R' rv _ => K vs ws φ' H' s' hp st R' rv

/-- a call of a function of the text's own -/
theorem se_call_f (G : Ground base D T mg mb) (hC : SoundC prog w base D T C A) {f : Str} {k : Nat} {p pos : Pos} {args : List Expr} {xs : List X} (hf : D.fids.lookup f = some k) (hx : isGlob sc f = true) (hd : (f == ("__debug__" : Str)) = false)
    (hc : cEs D sc Γ args = some xs) (IH : ∀ e ∈ args, ∀ x, cE D sc Γ e = some x → SE prog w base C A e x sc Γ env)
    {m : Loc} {φ : List Addr} {H : Hp} {s : Shared} {P : PV} {Q : Value → Shared → Prop} {E : Value → Shared → Prop} (R : Rel base φ H s.heap) (W : EnvR base φ sc env Γ m s.heap) (hw : wpEs C xs m H fun vs H' => C k vs H' P)
    (K : Cont base φ s P Q) : wpAny (model prog w) A (eval (.Call (.Name f p) args [] pos) env) Q E s := by
  obtain ⟨a, o, fd, body, d, params, hm, hF⟩ := G.fn f k hf
  refine wpAny_Call_NameR (glob_name G R W hx hd hm ?_)
  refine PySem.Calls.callWith_function (o := o) (fd := fd) ?_
  cases args with
  | nil =>
    rw [cEs_nil] at hc; cases hc
    simp only [wes_nil, wes_cons] at hw
    exact evalArgs_none ⟨⟨R.keep _ _ hF.obj, hF.dat⟩, hC k a o fd body d params [] [] H P φ s Q E hF R rfl hw K⟩
  | cons e r =>
    have hs : ∃ a as, cE D sc Γ e = some a ∧ cEs D sc Γ r = some as := by
      rcases cEs_cons hc with ⟨a, as, h1, h2, rfl⟩
      · exact ⟨a, as, h1, h2⟩
    obtain ⟨a', as, h1, h2⟩ := hs
    have e1 : backTo pos (starEach (e :: r) env) = (false, eval e env) :: backTo pos (starEach r env) := by rw [not_star h1]; rfl
    rw [e1]
    refine PySem.Calls.evalArgs_plain ?_
    rw [← e1]
    refine se_args (e :: r) xs hc IH m φ H s _ _ E R W hw fun vs ws φ' H' s' hp st R' rv _ => ⟨⟨R'.keep _ _ hF.obj, hF.dat⟩, ?_⟩
    exact hC k a o fd body d params vs ws H' P φ' s' Q E hF R' rv hp (K.after st)
end
end Mine

open PySem
namespace Mine

section
variable {prog : Program} {w : World} {A : Around} {E : Value → Shared → Prop} {s : Shared}

theorem entry_unchain : entryFor table "proto.unchain" = some Builtin.«proto.unchain» := entryFor_of_tree (by kernel_rfl)

/-- an exception without a context -/
noncomputable def Lone (h : Heap) (e : Addr) : Prop := Ex2 fun o vs => And3 (h.get? e = some o) (o.data = .fields vs) (vs[2]? = some .none)

theorem raiseNew_held {α : Type} {a e : Addr} {o : Obj} {vs : Array Value} {Q : α → Shared → Prop} (hh : A.handled = some (.ref e)) (he : Lone s.heap e) (hne : e ≠ a) (ho : s.heap.get? a = some o) (hd : o.data = .fields vs) (hz : 2 < vs.size)
    (h : E (.ref a) { s with heap := s.heap.update a (Obj.mapFields (·.setIfInBounds 2 (.ref e))) }) : wpAny (model prog w) A (raiseNew (.ref a) : Sem α) Q E s := by
  obtain ⟨oe, us, he, hde, h2⟩ := he
  unfold raiseNew
  refine wpAny_bind (wpAny_handled ?_)
  rw [hh]
  have hb : ((Value.ref e) != (Value.ref a)) = true := by simp [hne]
  simp only [hb, if_true]
  refine wpAny_bind (wpAny_holding (wpAny_runValue (codeAny_builtin entry_unchain ?_)))
  show wpAny _ _ (field (.ref e) 2 >>= _) _ _ s
  refine wpAny_bind (wpAny_field he hde h2 ?_)
  refine wpAny_pure ?_
  unfold updateField
  refine wpAny_bind (wpAny_bind (wpAny_load ho ?_))
  rw [hd]
  simp only [hz, if_true]
  exact wpAny_update ho (wpAny_throw h)

theorem range_end_held {it e : Addr} {x left step : Int} {Q : Option Value → Shared → Prop} (hh : A.handled = some (.ref e)) (he : Lone s.heap e) (hit : IsRangeIter s.heap it x left step) (hleft : left ≤ 0)
    (hQ : ∀ h', Heap.ExtBut it s.heap h' → Q none { s with heap := h' }) : wpAny (model prog w) A (pyNext (.ref it)) Q E s := by
  have hT : s.TypeIs (.ref it) "range_iterator" := ⟨_, hit, rfl⟩
  have el : e < s.heap.objs.size := by obtain ⟨_, _, q, _⟩ := he; exact Heap.lt_size q
  unfold pyNext
  refine wpAny_bind (wpAny_attempt (wpAny_callSpecial?_slot (name := Str.ofString "__next__") hT F.slot_range_iterator_next
    (wpAny_call_entry F.slot_range_iterator_next hT F.entry_range_iterator_next ?_ (F.args_range_iterator_next_1 _))))
  show wpAny _ _ (field (.ref it) 0 >>= _) _ _ s
  refine wpAny_bind (wpAny_field hit rfl (x := rawInt x) rfl ?_)
  show wpAny _ _ (field (.ref it) 1 >>= _) _ _ s
  refine wpAny_bind (wpAny_field hit rfl (x := rawInt left) rfl ?_)
  show wpAny _ _ (field (.ref it) 2 >>= _) _ _ s
  refine wpAny_bind (wpAny_field hit rfl (x := rawInt step) rfl ?_)
  show wpAny _ _ (if left ≤ 0 then _ else _) _ _ s
  rw [if_pos hleft]
  refine wpAny_bind (wpAny_rule ?_)
  refine wpAny_bind ?_
  show wpAny _ _ (newExc (.type "StopIteration") [] >>= _) _ _ _
  refine wpAny_bind ?_
  simp only [newExc, newTuple]
  refine wpAny_bind (wpAny_newObj_type ?_ (by size_fits))
  refine wpAny_bind (m := firstArgMember _ _) (wpAny_of_eq (a := Value.none) (by first | rfl | (simp only [firstArgMember]; rfl)) ?_)
  refine wpAny_newObj_type ?_ (by size_fits)
  refine raiseNew_held (show A.in1.handled = some (.ref e) from hh) ?_ ?_ (Heap.get?_push_size _ rfl) rfl (by simp [Array.size_append]; lia) ?_
  · obtain ⟨o, vs, q, r, r'⟩ := he
    exact ⟨o, vs, Heap.get?_push_of_some _ (Heap.get?_push_of_some _ q), r, r'⟩
  · rw [Heap.size_push]; exact Nat.ne_of_lt (Nat.lt_succ_of_lt el)
  refine wpAny_bind (wpAny_isInstance (T := "StopIteration") (b := true) ⟨_, Heap.get?_update_self _ (Heap.get?_push_size _ rfl) rfl, rfl⟩ isSubtype_stop ?_)
  refine wpAny_pure (hQ _ fun b o hb e' => ?_)
  have hbl := Heap.lt_size e'
  rw [Heap.get?_update_other _ _ (by rw [Heap.size_push]; exact Nat.ne_of_gt (Nat.lt_succ_of_lt hbl))]
  exact Heap.get?_push_of_some _ (Heap.get?_push_of_some _ e')
end
end Mine

open PySem
namespace Mine

/-- a walk over items that the machine's iterator I makes -/
structure Walk (prog : Program) (w : World) (base : Heap) (A : Around) (tg : Expr) (vs : List V) (src : List (Nat × List V)) (I : Addr) (wr : List Addr)
    (St : Nat → List Addr → Heap → Prop) (Mid : Nat → Value → List Addr → Heap → Prop) : Prop where
  wrobj : ∀ i φ h, St i φ h → ∀ b ∈ wr, ∃ o fs, h.get? b = some o ∧ o.data = .fields fs
  frame : ∀ i φ φ' h h', St i φ h → φ <+: φ' → (∀ b o fs, b ∈ wr → h.get? b = some o → o.data = .fields fs → h'.get? b = some o) → (∀ b o, h.get? b = some o → TupObj o → h'.get? b = some o) → St i φ' h'
  next : ∀ (i : Nat) (v : V) (s : Shared) (φ : List Addr) (H : Hp) (Q : Option Value → Shared → Prop) (E : Value → Shared → Prop), vs[i]? = some v → St i φ s.heap → Rel base φ H s.heap → Still src H →
    (∀ x h' tk, Mid i x φ h' → Rep base φ h' v x → (∀ b o, b ∉ wr → s.heap.get? b = some o → h'.get? b = some o) → Q (some x) { s with heap := h', toks := tk }) → wpAny (model prog w) A (pyNext (.ref I)) Q E s
  go : ∀ (i : Nat) (x : Value) (s : Shared) (φ : List Addr) (Q : Unit → Shared → Prop) (E : Value → Shared → Prop), Mid i x φ s.heap →
    (∀ h', St (i + 1) φ h' → (∀ b o, b ∉ wr → s.heap.get? b = some o → h'.get? b = some o) → Q () { s with heap := h' }) → wpAny (model prog w) A (letOwnedTupleGo tg (.ref I) x) Q E s
  done : ∀ (s : Shared) (φ : List Addr) (H : Hp) (Q : Option Value → Shared → Prop) (E : Value → Shared → Prop), St vs.length φ s.heap → Rel base φ H s.heap → Still src H →
    (∀ h' tk, (∀ b o, b ∉ wr → s.heap.get? b = some o → h'.get? b = some o) → Q none { s with heap := h', toks := tk }) → wpAny (model prog w) A (pyNext (.ref I)) Q E s
  self : ∀ (s : Shared) (φ : List Addr) (Q : Value → Shared → Prop) (E : Value → Shared → Prop), St 0 φ s.heap → Q (.ref I) s → wpAny (model prog w) A (pyIter (.ref I)) Q E s
  wrmid : ∀ i x φ h, Mid i x φ h → ∀ b ∈ wr, ∃ o fs, h.get? b = some o ∧ o.data = .fields fs
  mid : (∃ x p, tg = .Name x p) → ∀ i x φ h, Mid i x φ h → St (i + 1) φ h

section
variable {prog : Program} {w : World} {base : Heap} {A : Around}

theorem go_name {x : Str} {p : Pos} {it v : Value} {M : Model} {s : Shared} {Q : Unit → Shared → Prop} {E : Value → Shared → Prop} (h : Q () s) : wpAny M A (letOwnedTupleGo (.Name x p) it v) Q E s := wpAny_pure h

theorem sameBut_keep {a : Addr} {h h' : Heap} (hs : Heap.SameBut a h h') : ∀ b o, b ∉ [a] → h.get? b = some o → h'.get? b = some o :=
  fun b o hb e => hs.extBut b o (fun q => hb (by simp [q])) e
theorem extBut_keep {a : Addr} {h h' : Heap} (hs : Heap.ExtBut a h h') : ∀ b o, b ∉ [a] → h.get? b = some o → h'.get? b = some o :=
  fun b o hb e => hs b o (fun q => hb (by simp [q])) e

/-- nothing is handled, or an exception without a context -/
noncomputable def Calm (A : Around) (base : Heap) : Prop := A.handled = none ∨ ∃ e, A.handled = some (.ref e) ∧ Lone base e
/-- a range -/
theorem Walk.range (hh : Calm A base) (I : Addr) (a : Int) (n : Nat) (x : Str) (p : Pos) :
    Walk prog w base A (.Name x p) (nums a n) [] I [I] (fun i _ h => IsRangeIter h I (a + i) ((n : Int) - i) 1) (fun i _ _ h => IsRangeIter h I (a + (i + 1 : Nat)) ((n : Int) - (i + 1 : Nat)) 1) where
  wrobj := fun i φ h st b hb => by simp only [List.mem_singleton] at hb; subst hb; exact ⟨_, _, st, rfl⟩
  frame := fun i φ φ' h h' st _ hk _ => hk _ _ _ (by simp) st rfl
  next := fun i v s φ H Q E hv st R hs hQ => by
    have hi : i < n := by
      rcases Nat.lt_or_ge i n with q | q
      · exact q
      · rw [List.getElem?_eq_none (by simp [nums, q])] at hv; cases hv
    refine wpAny_pyNext_range_item st (by lia) fun h' st' hb => hQ _ h' _ ?_ ?_ (sameBut_keep hb)
    · have e1 : a + (i : Int) + 1 = a + (i + 1 : Nat) := by lia
      have e2 : (n : Int) - i - 1 = (n : Int) - (i + 1 : Nat) := by lia
      rw [e1, e2] at st'; exact st'
    · simp only [nums, List.getElem?_map, List.getElem?_range hi, Option.map_some, Option.some.injEq] at hv
      subst hv; exact ⟨_, rfl⟩
  go := fun i x s φ Q E hm hQ => go_name (hQ s.heap hm fun _ _ _ e => e)
  done := fun s φ H Q E st R hs hQ => by
    rcases hh with hh | ⟨e, hh, o, vs, he, hr, hr'⟩
    · exact wpAny_pyNext_range_end hh st (by simp [nums]) fun h' hb => hQ h' s.toks (extBut_keep hb)
    · exact range_end_held hh ⟨o, vs, R.keep _ _ he, hr, hr'⟩ st (by simp [nums]) fun h' hb => hQ h' s.toks (extBut_keep hb)
  self := fun s φ Q E st h => wpAny_pyIter_rangeiter st h
  wrmid := fun i x φ h st b hb => by simp only [List.mem_singleton] at hb; subst hb; exact ⟨_, _, st, rfl⟩
  mid := fun _ _ _ _ _ h => h

/-- one of our lists -/
theorem Walk.list (hh : A.handled = none) (I : Addr) (k : Nat) (vs : List V) (x : Str) (p : Pos) :
    Walk prog w base A (.Name x p) vs [(k, vs)] I [I] (fun i φ h => ∃ l, φ[k]? = some l ∧ h.IsListIter I l i) (fun i _ φ h => ∃ l, φ[k]? = some l ∧ h.IsListIter I l (i + 1)) where
  wrobj := fun i φ h ⟨l, _, o, ho, _, hd⟩ b hb => by simp only [List.mem_singleton] at hb; subst hb; exact ⟨o, _, ho, hd⟩
  frame := fun i φ φ' h h' ⟨l, hl, o, ho, hc, hd⟩ hp hk _ => ⟨l, Zl hp hl, o, hk _ _ _ (by simp) ho hd, hc, hd⟩
  next := fun i v s φ H Q E hv st R hs hQ => by
    obtain ⟨l, hl, hit⟩ := st
    have hk := hs (k, vs) (by simp)
    obtain ⟨l', us, n, e, hl', ho, hr⟩ := R.list hk ⟨l, rfl, hl⟩
    cases e
    obtain ⟨u, hu, ru⟩ := hr.get hv
    have hne : l ≠ I := fun q => by
      obtain ⟨o, ho', _, hd⟩ := hit
      rw [← q, ho] at ho'; cases ho'; cases hd
    refine wpAny_pyNext_list_item hit ⟨_, ho, rfl, n, rfl⟩ (by simpa using hu) fun h' hit' hb => hQ u h' s.toks ⟨l, hl, hit'⟩ ?_ (sameBut_keep hb)
    exact ru.but (a := I) hb.extBut fun o e q' => by
      obtain ⟨o', ho', _, hd'⟩ := hit
      rw [e] at ho'; cases ho'; exact q'.not_fields hd'
  go := fun i x s φ Q E hm hQ => go_name (hQ s.heap hm fun _ _ _ e => e)
  done := fun s φ H Q E st R hs hQ => by
    obtain ⟨l, hl, hit⟩ := st
    have hk := hs (k, vs) (by simp)
    obtain ⟨l', us, n, e, hl', ho, hr⟩ := R.list hk ⟨l, rfl, hl⟩
    cases e
    exact wpAny_pyNext_list_end hh hit ⟨_, ho, rfl, n, rfl⟩ (by simp [hr.length]) fun h' hb => hQ h' s.toks (extBut_keep hb)
  self := fun s φ Q E st h => by obtain ⟨l, _, hit⟩ := st; exact wpAny_pyIter_listiter hit h
  wrmid := fun i x φ h ⟨l, _, o, ho, _, hd⟩ b hb => by simp only [List.mem_singleton] at hb; subst hb; exact ⟨o, _, ho, hd⟩
  mid := fun _ _ _ _ _ h => h

/-- a tuple -/
theorem Walk.tuple (hh : A.handled = none) (I t : Addr) (vs : List V) (x : Str) (p : Pos) :
    Walk prog w base A (.Name x p) vs [] I [I] (fun i φ h => h.IsTupleIter I t i ∧ ∃ (us : List Value), h.IsTuple t us.toArray ∧ RepL base φ h vs us)
      (fun i _ φ h => h.IsTupleIter I t (i + 1) ∧ ∃ (us : List Value), h.IsTuple t us.toArray ∧ RepL base φ h vs us) where
  wrobj := fun i φ h ⟨⟨o, ho, _, hd⟩, _⟩ b hb => by simp only [List.mem_singleton] at hb; subst hb; exact ⟨o, _, ho, hd⟩
  frame := fun i φ φ' h h' ⟨⟨o, ho, hc, hd⟩, us, ⟨o', ho', hc', n, hd'⟩, hr⟩ hp hk ht =>
    ⟨⟨o, hk _ _ _ (by simp) ho hd, hc, hd⟩, us, ⟨o', ht _ _ ho' (.inl ⟨hc', _, n, hd'⟩), hc', n, hd'⟩, RepL.mono hp ht vs us hr⟩
  next := fun i v s φ H Q E hv st R hs hQ => by
    obtain ⟨hit, us, htu, hr⟩ := st
    obtain ⟨u, hu, ru⟩ := hr.get hv
    have nt : ∀ o, s.heap.get? I = some o → ¬ TupObj o := fun o e q' => by
      obtain ⟨o', ho', _, hd'⟩ := hit
      rw [e] at ho'; cases ho'; exact q'.not_fields hd'
    refine wpAny_pyNext_tuple_item hit htu (by simpa using hu) fun h' hit' hb => hQ u h' s.toks ⟨hit', us, ?_, ?_⟩ (ru.but (a := I) hb.extBut nt) (sameBut_keep hb)
    · obtain ⟨o, ho, hc, n, hd⟩ := htu
      exact ⟨o, hb.extBut _ _ (fun q => nt o (q ▸ ho) (.inl ⟨hc, _, n, hd⟩)) ho, hc, n, hd⟩
    · exact RepL.mono (List.prefix_refl _) (fun c o e c' => hb.extBut c o (fun q => nt o (q ▸ e) c') e) vs us hr
  go := fun i x s φ Q E hm hQ => go_name (hQ s.heap hm fun _ _ _ e => e)
  done := fun s φ H Q E st R hs hQ => by
    obtain ⟨hit, us, htu, hr⟩ := st
    exact wpAny_pyNext_tuple_end hh hit htu (by simp [hr.length]) fun h' hb => hQ h' s.toks (extBut_keep hb)
  self := fun s φ Q E st h => wpAny_pyIter_tupleiter st.1 h
  wrmid := fun i x φ h ⟨⟨o, ho, _, hd⟩, _⟩ b hb => by simp only [List.mem_singleton] at hb; subst hb; exact ⟨o, _, ho, hd⟩
  mid := fun _ _ _ _ _ h => h

/-- one of our lists, numbered -/
theorem Walk.enum (hh : A.handled = none) (e it : Addr) (hne : e ≠ it) (k : Nat) (vs : List V) (elts : List Expr) (j : Nat) (p : Pos) (hz : vs.length ≤ room) :
    Walk prog w base A (.Tuple elts j p) (pairs (nums 0 vs.length) vs) [(k, vs)] e [e, it]
      (fun i φ h => (∃ l, φ[k]? = some l ∧ h.IsListIter it l i) ∧ ∃ old, IsEnum h e it i old)
      (fun i x φ h => (∃ l, φ[k]? = some l ∧ h.IsListIter it l (i + 1)) ∧ Ex2 fun T y => x = .ref T ∧ IsEnumOut h e it ((i : Int) + 1) y T) where
  wrobj := fun i φ h ⟨⟨l, _, o, ho, _, hd⟩, old, hE⟩ b hb => by
    simp only [List.mem_cons, List.not_mem_nil, or_false] at hb
    rcases hb with rfl | rfl
    · exact ⟨_, _, hE, rfl⟩
    · exact ⟨o, _, ho, hd⟩
  frame := fun i φ φ' h h' ⟨⟨l, hl, o, ho, hc, hd⟩, old, hE⟩ hp hk _ =>
    ⟨⟨l, Zl hp hl, o, hk _ _ _ (by simp) ho hd, hc, hd⟩, old, hk _ _ _ (by simp) hE rfl⟩
  next := fun i v s φ H Q E hv st R hs hQ => by
    obtain ⟨⟨l, hl, hit⟩, old, hE⟩ := st
    have hk := hs (k, vs) (by simp)
    obtain ⟨l', us, n, e', hl', ho, hr⟩ := R.list hk ⟨l, rfl, hl⟩
    cases e'
    have hi : i < vs.length := by
      rcases Nat.lt_or_ge i vs.length with q | q
      · exact q
      · rw [List.getElem?_eq_none (by simp [pairs, nums, q])] at hv; cases hv
    have hx : vs[i]? = some vs[i] := List.getElem?_eq_getElem hi
    have hvv : v = .tup [.int i, vs[i]] := by
      simp only [pairs, nums, List.getElem?_map, List.getElem?_zip_eq_some, Option.map_eq_some_iff, Prod.exists] at hv
      obtain ⟨a, b, ⟨h1, h2⟩, rfl⟩ := hv
      simp only [List.getElem?_range hi, Option.some.injEq] at h1
      obtain ⟨q, rfl, rfl⟩ := h1
      rw [hx] at h2; cases h2
      simp
    obtain ⟨u, hu, ru⟩ := hr.get hx
    have nfs : ∀ o, s.heap.get? e = some o → ¬ TupObj o := fun o q q' => by
      have hE' : s.heap.get? e = some _ := hE
      rw [q] at hE'; cases hE'; exact q'.not_fields rfl
    have nfs' : ∀ o, s.heap.get? it = some o → ¬ TupObj o := fun o q q' => by
      obtain ⟨o', ho', _, hd'⟩ := hit
      rw [q] at ho'; cases ho'; exact q'.not_fields hd'
    refine wpAny_pyNext_enum_item hE hit ⟨_, ho, rfl, n, rfl⟩ (by simpa using hu) hne fun h' hO hit' hT hsz hb => hQ _ h' _ ⟨⟨l, hl, hit'⟩, _, _, rfl, hO⟩ ?_ ?_
    · subst hvv
      refine ⟨_, [_, u], rfl, ⟨_, hT, rfl, 0, rfl⟩, ⟨_, _, rfl, ⟨_, rfl⟩, u, [], rfl, ?_, rfl⟩, by simp [room]⟩
      exact Rep.mono (List.prefix_refl _) (fun c o e c' => hb c o (fun q => nfs o (q ▸ e) c') (fun q => nfs' o (q ▸ e) c') e) _ _ ru
    · intro b o hb' e'
      simp only [List.mem_cons, List.not_mem_nil, or_false, not_or] at hb'
      exact hb b o hb'.1 hb'.2 e'
  go := fun i x s φ Q E hm hQ => by
    obtain ⟨⟨l, hl, hit⟩, T, y, rfl, hO⟩ := hm
    refine wpAny_letOwnedTupleGo_enum hO fun h' hE hb => hQ h' ⟨⟨l, hl, ?_⟩, _, by simpa using hE⟩ fun b o hb' e' => hb.extBut b o (fun q => hb' (by simp [q])) e'
    obtain ⟨o, ho, hc, hd⟩ := hit
    exact ⟨o, hb.extBut _ _ (Ne.symm hne) ho, hc, hd⟩
  done := fun s φ H Q E st R hs hQ => by
    obtain ⟨⟨l, hl, hit⟩, old, hE⟩ := st
    have hlen : (pairs (nums 0 vs.length) vs).length = vs.length := by simp [pairs, nums]
    rw [hlen] at hit hE
    have hk := hs (k, vs) (by simp)
    obtain ⟨l', us, n, e', hl', ho, hr⟩ := R.list hk ⟨l, rfl, hl⟩
    cases e'
    exact wpAny_pyNext_enum_end hh hE hit ⟨_, ho, rfl, n, rfl⟩ (by simp [hr.length]) fun h' hb => hQ h' s.toks fun b o hb' e' => hb b o (fun q => hb' (by simp [q])) e'
  self := fun s φ Q E st h => by obtain ⟨_, old, hE⟩ := st; exact wpAny_pyIter_enum hE h
  wrmid := fun i x φ h ⟨⟨l, _, o, ho, _, hd⟩, T, y, _, hO⟩ b hb => by
    simp only [List.mem_cons, List.not_mem_nil, or_false] at hb
    rcases hb with rfl | rfl
    · exact ⟨_, _, hO, rfl⟩
    · exact ⟨o, _, ho, hd⟩
  mid := fun ⟨_, _, q⟩ => nomatch q
end
end Mine

open PySem
namespace Mine

section
variable {base : Heap} {φ φ' φ₀ : List Addr} {H : Hp} {h h' : Heap} {sc : Scope} {env : Env} {Γ : List Str} {m : Loc} {wr : List Addr}

/-- what a walk keeps for itself -/
noncomputable def Fields (wr : List Addr) (h : Heap) : Prop := ∀ b ∈ wr, ∀ o, h.get? b = some o → ∃ fs, o.data = .fields fs

theorem Fields.tup (hf : Fields wr h) {b : Addr} {o : Obj} (e : h.get? b = some o) (t : TupObj o) : b ∉ wr := fun hb => by
  obtain ⟨fs, hd⟩ := hf b hb o e
  exact t.not_fields hd

theorem Rel.butL (R : Rel base φ H h) (hf : Fields wr h) (hb : ∀ b ∈ wr, base.get? b = none) (hk : ∀ b o, b ∉ wr → h.get? b = some o → h'.get? b = some o) : Rel base φ H h' :=
  ⟨fun b o e => hk b o (fun q => by rw [hb b q] at e; cases e) (R.keep b o e), R.len, R.nodup, R.fresh, R.small, fun k b e => by
    obtain ⟨vs, n, xs, h1, h2, h3⟩ := R.lists k b e
    exact ⟨vs, n, xs, hk _ _ (fun q => by obtain ⟨fs, hd⟩ := hf b q _ h1; cases hd) h1, h2, RepL.mono (List.prefix_refl _) (fun c o e c' => hk c o (hf.tup e c') e) xs vs h3⟩⟩

theorem Rep.butL (hf : Fields wr h) (hk : ∀ b o, b ∉ wr → h.get? b = some o → h'.get? b = some o) {x : V} {v : Value} (r : Rep base φ h x v) : Rep base φ h' x v :=
  Rep.mono (List.prefix_refl _) (fun c o e c' => hk c o (hf.tup e c') e) x v r

theorem EnvR.butL (W : EnvR base φ sc env Γ m h) (hf : Fields wr h) (hk : ∀ b o, b ∉ wr → h.get? b = some o → h'.get? b = some o) : EnvR base φ sc env Γ m h' := by
  have cell : ∀ {c : Addr} {v : Option Value}, h.IsCell c v → h'.IsCell c v := fun {c v} ⟨o, ho, hd⟩ => by
    refine ⟨o, hk c o (fun q => ?_) ho, hd⟩
    obtain ⟨fs, hd'⟩ := hf c q o ho
    rw [hd] at hd'; cases hd'
  obtain ⟨mm, hn, hm⟩ := W.ns
  refine ⟨W.kind, W.glob, W.blt, W.len, W.kinds, W.fresh, ⟨mm, ?_, fun x i v h1 h2 h3 => ?_⟩, fun p e => ?_, fun x i v h1 h2 h3 => ?_, W.inj, W.has⟩
  · obtain ⟨o, es, ep, ho, hd, r⟩ := hn
    refine ⟨o, es, ep, hk _ _ (fun q => ?_) ho, hd, r⟩
    obtain ⟨fs, hd'⟩ := hf _ q o ho
    rw [hd] at hd'; cases hd'
  · obtain ⟨w, e, r⟩ := hm x i v h1 h2 h3
    exact ⟨w, e, r.butL hf hk⟩
  · obtain ⟨h1, v, hv⟩ := W.cellat p e
    exact ⟨h1, v, cell hv⟩
  · obtain ⟨c, w, e, hc, r⟩ := W.cellv x i v h1 h2 h3
    exact ⟨c, w, e, cell hc, r.butL hf hk⟩

/-- the walk's own turn is not seen from ahead of it -/
theorem Step.skip {ow : List Addr} {s₀ s s' : Shared} (st : Step ow φ₀ φ s₀ s) (hn : ∀ b ∈ wr, s₀.heap.get? b = none) (hk : ∀ b o, b ∉ wr → s.heap.get? b = some o → s'.heap.get? b = some o)
    (hs : ∃ h tk, s' = { s with heap := h, toks := tk }) : Step ow φ₀ φ s₀ s' := by
  refine ⟨st.pre, st.new, fun a o e h1 h2 => hk a o (fun q => by rw [hn a q] at e; cases e) (st.evo a o e h1 h2), fun a e => ?_, ?_⟩
  · obtain ⟨o, ho⟩ := Option.isSome_iff_exists.mp (st.live a e)
    rw [hk a o (fun q => by rw [hn a q] at e; cases e) ho]; rfl
  · obtain ⟨h, t, e⟩ := st.same
    obtain ⟨h', t', e'⟩ := hs
    exact ⟨h', t', by rw [e', e]⟩

/-- a step of the frame leaves what a walk keeps -/
theorem Step.walk {s s' : Shared} (st : Step (own env) φ φ' s s') (R : Rel base φ H s.heap) (W : EnvR base φ sc env Γ m s.heap) :
    ∀ b o fs, s.heap.get? b = some o → o.data = .fields fs → s'.heap.get? b = some o := fun b o fs e hd => by
  refine st.evo b o e (fun q => ?_) (fun q => ?_)
  · obtain ⟨vs, n, h⟩ := R.mem_list q
    rw [e] at h; cases h; cases hd
  · rcases List.mem_cons.mp q with rfl | q
    · obtain ⟨mm, ⟨o', es, ep, ho, hd', _⟩, _⟩ := W.ns
      rw [e] at ho; cases ho; rw [hd] at hd'; cases hd'
    · obtain ⟨p, hp, rfl⟩ := List.mem_map.mp q
      exact (W.cellat p hp).2.elim fun v ⟨o', ho, hd'⟩ => by rw [e] at ho; cases ho; rw [hd] at hd'; cases hd'
theorem Step.tups {s s' : Shared} (st : Step (own env) φ φ' s s') (R : Rel base φ H s.heap) (W : EnvR base φ sc env Γ m s.heap) :
    ∀ b o, s.heap.get? b = some o → TupObj o → s'.heap.get? b = some o := fun b o e t => by
  refine st.evo b o e (R.tuple_not e t) (fun q => ?_)
  rcases List.mem_cons.mp q with rfl | q
  · obtain ⟨mm, hn, _⟩ := W.ns
    exact ns_not_tup hn o e t
  · obtain ⟨p, hp, rfl⟩ := List.mem_map.mp q
    obtain ⟨_, v, hv⟩ := W.cellat p hp
    exact cell_not_tup hv o e t
theorem Rel.out {h : Heap} (R : Rel base φ H h) {a : Addr} (q : h.get? a = none) : base.get? a = none := by
  cases z : base.get? a with
  | none => rfl
  | some o => rw [R.keep a o z] at q; cases q
theorem Walk.fields {prog : Program} {w : World} {A : Around} {tg : Expr} {vs : List V} {src : List (Nat × List V)} {I : Addr} {wr : List Addr} {St : Nat → List Addr → Heap → Prop} {Mid : Nat → Value → List Addr → Heap → Prop} (Wk : Walk prog w base A tg vs src I wr St Mid) {i : Nat} {h : Heap} (hst : St i φ h) : Fields wr h := fun b hb o e => by
  obtain ⟨o', fs, h1, h2⟩ := Wk.wrobj i φ h hst b hb
  rw [e] at h1; cases h1; exact ⟨fs, h2⟩
theorem Walk.after {prog : Program} {w : World} {A : Around} {tg : Expr} {vs : List V} {src : List (Nat × List V)} {I : Addr} {wr : List Addr} {St : Nat → List Addr → Heap → Prop} {Mid : Nat → Value → List Addr → Heap → Prop} (Wk : Walk prog w base A tg vs src I wr St Mid) {i : Nat} {s s' : Shared} (hst : St i φ s.heap) (R : Rel base φ H s.heap) (st : Step [] φ φ' s s') : St i φ' s'.heap :=
  Wk.frame i φ φ' s.heap s'.heap hst st.pre (fun b o fs hb e hd' => st.evo b o e (fun q => by
    obtain ⟨vs', n', z⟩ := R.mem_list q; rw [e] at z; cases z; cases hd') List.not_mem_nil) (fun b o e z => st.evo b o e (R.tuple_not e z) List.not_mem_nil)
theorem drop_end {α : Type} {vs : List α} {i : Nat} (h : vs.drop i = []) (hi : i ≤ vs.length) : i = vs.length := Nat.le_antisymm hi (List.drop_eq_nil_iff.mp h)
theorem drop_at {α : Type} {vs rest : List α} {v : α} {i : Nat} (h : vs.drop i = v :: rest) : vs[i]? = some v ∧ vs.drop (i + 1) = rest ∧ i < vs.length := by
  have q : vs[i]? = some v := by rw [← List.head?_drop, h]; rfl
  exact ⟨q, by rw [← List.drop_drop, h]; rfl, (List.getElem?_eq_some_iff.mp q).1⟩
end
end Mine

open PySem
namespace Mine

section
variable {D : Tabs} {sc : Scope} {Γ : List Str}

theorem const_kind {c : Const} {x : X} (h : cConst c = some x) : x = .none ∨ (∃ b, x = .bool b) ∨ (∃ i, x = .int i) ∨ ∃ s, x = .str s:= by
  cases c <;> first | exact Zj h | skip
  · cases h; exact .inl rfl
  · cases h; exact .inr (.inl ⟨_, rfl⟩)
  · cases h; exact .inr (.inr (.inl ⟨_, rfl⟩))
  · cases h; exact .inr (.inr (.inr ⟨_, rfl⟩))
set_option tactic.hygienic true
theorem name_kind {y : Str} {x : X} (h : cName D sc Γ y = some x) : (∃ i, x = .var i) ∨ (∃ i, x = .int i) ∨ (x = .glob y ∧ (y == ("__debug__" : Str)) = false ∧ isGlob sc y = true) := by
  unfold cName at h
  split at h
  · cases h
  · rename_i hn
    simp only [Bool.or_eq_true, not_or, Bool.not_eq_true] at hn
    split at h
    · simp only [Option.map_eq_some_iff] at h
      obtain ⟨i, _, rfl⟩ := h
      exact .inl ⟨i, rfl⟩
    · split at h
      · rename_i hg
        split at h <;> cases h
        · exact .inr (.inl ⟨_, rfl⟩)
        · exact .inr (.inr ⟨rfl, hn.1, hg⟩)
      · cases h
set_option tactic.hygienic false

theorem un_kind {op : PySem.UnaryOp} {y : Option X} {x : X} (h : cUn op y = some x) : (∃ a, And3 (op = .USub) (y = some a) (x = .un .neg a)) ∨ ∃ a, And3 (op = .Not) (y = some a) (x = .not a):= by
  cases op with
  | USub => obtain ⟨a, rfl, rfl⟩ := map_some h; exact .inl ⟨a, rfl, rfl, rfl⟩
  | Not => obtain ⟨a, rfl, rfl⟩ := map_some h; exact .inr ⟨a, rfl, rfl, rfl⟩
  | _ => exact Zj h
theorem bool_kind {op : PySem.BoolOp} {v a o : Option X} {x : X} (h : cBool op v a o = some x) : (Ex2 fun p q => And4 (op = .And) (v = some p) (a = some q) (x = .and p q)) ∨ Ex2 fun p q => And4 (op = .Or) (v = some p) (o = some q) (x = .or p q):= by
  cases op with
  | And => obtain ⟨p, q, h1, h2, h3⟩ := opt2_some h; cases h3; exact .inl ⟨p, q, rfl, h1, h2, rfl⟩
  | Or => obtain ⟨p, q, h1, h2, h3⟩ := opt2_some h; cases h3; exact .inr ⟨p, q, rfl, h1, h2, rfl⟩
theorem cmp_kind {ops : List CmpOp} {l : Option X} {rs : Option (List X)} {x : X} (h : cCmp ops l rs = some x) :
    (Ex3 fun op a b => And4 (ops = [op]) (l = some a) (rs = some [b]) (x = .bin (cmpOf op) a b)) ∨ Ex5 fun op₁ op₂ a b c => And4 (ops = [op₁, op₂]) (l = some a) (rs = some [b, c]) (x = .chain (cmpOf op₁) (cmpOf op₂) a b c):= by
  obtain ⟨a, bs, h1, h2, h⟩ := opt2_some h
  cases ho : one? ops with
  | some op =>
    rw [ho] at h
    obtain ⟨b, hb, h⟩ := Zk h
    cases h
    exact .inl ⟨op, a, b, one_eq ho, h1, by rw [h2, one_eq hb], rfl⟩
  | none =>
    rw [ho] at h
    obtain ⟨⟨o, o'⟩, ⟨b, c⟩, q1, q2, h⟩ := opt2_some h
    cases h
    exact .inr ⟨o, o', a, b, c, two_eq q1, h1, by rw [h2, two_eq q2], rfl⟩
theorem comp_kind {elt tg iter : Expr} {ifs : List Expr} {csc : Scope} {ix : Option X} {f g h' : List Str → Option X} {x : X} (h : cComp D sc Γ elt tg iter ifs csc ix f g h' = some x) : (Ex3 fun a b c => x = .zcomp a b c) ∨ Ex6 fun a n i b c d => x = .comp a n i b c d:= by
  obtain ⟨xs, _, _, ⟨a, b, e, _, _, _, _, _, _, rfl⟩ | ⟨ix, c, e, _, _, _, _, _, rfl⟩⟩ := cComp_cases h
  · exact .inl ⟨_, _, _, rfl⟩
  · exact .inr ⟨_, _, _, _, _, _, rfl⟩

set_option tactic.hygienic true
theorem lookup_mem {α : Type} {l : List (Str × α)} {f : Str} {x : α} (h : l.lookup f = some x) : (f, x) ∈ l := by
  induction l with
  | nil => cases h
  | cons p r ih =>
    rw [List.lookup] at h
    split at h
    · rename_i q
      cases h
      rw [beq_iff_eq.mp q]
      exact .head _
    · exact .tail _ (ih h)
set_option tactic.hygienic false

set_option tactic.hygienic true
theorem call1_cases {f : Str} {a x : X} (h : call1 D f a = some x) :
    (f = Str.ofString "len" ∧ ((∃ e, a = .un .set e ∧ x = .un .nset e) ∨ x = .un .len a)) ∨
    (f = Str.ofString "list" ∧ ((∃ e, And3 (D.revs = true) (a = .un .reversed e) (x = .un .rev e)) ∨ x = .un .list a)) ∨ ∃ u, (f, u) ∈ tab1 ∧ x = .un u a:= by
  unfold call1 at h
  split at h
  · rename_i q
    refine .inl ⟨beq_iff_eq.mp q, ?_⟩
    split at h
    · cases h; exact .inl ⟨_, rfl, rfl⟩
    · cases h; exact .inr rfl
  · split at h
    · rename_i q
      refine .inr (.inl ⟨beq_iff_eq.mp q, ?_⟩)
      split at h
      · split at h
        · rename_i hr; cases h; exact .inl ⟨_, hr, rfl, rfl⟩
        · cases h
      · cases h; exact .inr rfl
    · obtain ⟨u, hu, rfl⟩ := map_some h
      exact .inr (.inr ⟨u, lookup_mem hu, rfl⟩)
set_option tactic.hygienic false

set_option tactic.hygienic true
theorem call2_cases {f : Str} {a b x : X} (h : call2 f a b = some x) : (f = Str.ofString "isinstance" ∧ Ex2 fun t u => And3 (b = .glob t) (isiOf t = some u) (x = .un u a)) ∨ ∃ o, (f, o) ∈ tab2 ∧ x = .bin o a b:= by
  unfold call2 at h
  split at h
  · rename_i q
    split at h
    · obtain ⟨u, hu, rfl⟩ := map_some h
      exact .inl ⟨beq_iff_eq.mp q, _, u, rfl, hu, rfl⟩
    · cases h
  · obtain ⟨o, ho, rfl⟩ := map_some h
    exact .inr ⟨o, lookup_mem ho, rfl⟩
set_option tactic.hygienic false

set_option tactic.hygienic true
theorem mkCall_cases {f : Str} {as : List X} {x : X} (h : mkCall D f as = some x) :
    (∃ k, D.fids.lookup f = some k ∧ x = .call k as) ∨ (D.fids.lookup f = none ∧ ((∃ a, as = [a] ∧ call1 D f a = some x) ∨ Ex2 fun a b => as = [a, b] ∧ call2 f a b = some x)) := by
  unfold mkCall at h
  split at h
  · rename_i k hk; cases h; exact .inl ⟨k, hk, rfl⟩
  · rename_i hf
    split at h
    · exact .inr ⟨hf, .inl ⟨_, rfl, h⟩⟩
    · exact .inr ⟨hf, .inr ⟨_, _, rfl, h⟩⟩
    · cases h
set_option tactic.hygienic false

/-- what has no meaning by itself comes from a call -/
noncomputable def fromCall : X → Bool
  | .un u _ => (match u with | .neg => false | _ => true)
  | .bin o _ _ => (match o with | .range => true | .zip => true | _ => false)
  | _ => false
noncomputable def Called (D : Tabs) (sc : Scope) (Γ : List Str) (e : Expr) (x : X) : Prop := Ex5 fun f p args pos as => And5 (e = .Call (.Name f p) args [] pos) ((f == ("__debug__" : Str)) = false) (isGlob sc f = true) (cEs D sc Γ args = some as) (mkCall D f as = some x)
theorem no_call {M : Prop} (h : false = true) : M := absurd h Bool.false_ne_true
theorem inv_call {e : Expr} {x : X} (h : cE D sc Γ e = some x) (hx : fromCall x = true) : Called D sc Γ e x := by
  refine cE_elim (M := fun e x => fromCall x = true → Called D sc Γ e x) ?_ ?_ ?_ ?_ ?_ ?_ ?_ ?_ ?_ ?_ ?_ ?_ ?_ ?_ e _ h hx
  · intro _ _ _ _ _ q; exact no_call q
  · intro _ _ _ _ h q; rcases const_kind h with rfl | ⟨_, rfl⟩ | ⟨_, rfl⟩ | ⟨_, rfl⟩ <;> exact no_call q
  · intro _ _ _ h q; rcases name_kind h with ⟨_, rfl⟩ | ⟨_, rfl⟩ | ⟨rfl, _, _⟩ <;> exact no_call q
  · intro _ op _ _ o _ _ h _ _ q; cases op <;> first | exact Zj h | (cases h; exact no_call q)
  · intro _ _ _ _ h q; rcases un_kind h with ⟨_, _, _, rfl⟩ | ⟨_, _, _, rfl⟩ <;> exact no_call q
  · intro _ _ _ _ _ h q; rcases bool_kind h with ⟨_, _, _, _, _, rfl⟩ | ⟨_, _, _, _, _, rfl⟩ <;> exact no_call q
  · intro _ _ _ _ _ _ _ _ _ _ q; exact no_call q
  · intro _ _ _ _ _ h q
    rcases cmp_kind h with ⟨op, _, _, _, _, _, rfl⟩ | ⟨_, _, _, _, _, _, _, _, rfl⟩
    · cases op <;> exact no_call q
    · exact no_call q
  · intro _ _ _ _ _ q; exact no_call q
  · intro _ _ _ _ _ _ q; exact no_call q
  · intro _ _ _ _ _ _ _ _ _ _ _ q; exact no_call q
  · intro _ _ _ _ _ _ _ _ q; exact no_call q
  · intro f p args pos as _ h1 h2 h3 h4 _; exact ⟨f, p, args, pos, as, rfl, h1, h2, h3, h4⟩
  · intro _ _ _ _ _ _ _ h q; rcases comp_kind h with ⟨_, _, _, rfl⟩ | ⟨_, _, _, _, _, _, rfl⟩ <;> exact no_call q
theorem inv_un {e : Expr} {u : U} {a : X} (h : cE D sc Γ e = some (.un u a)) (hu : u ≠ .neg) : Called D sc Γ e (.un u a) :=
  inv_call h (by cases u <;> first | rfl | exact absurd rfl hu)
theorem inv_bin {e : Expr} {o : B} {a b : X} (h : cE D sc Γ e = some (.bin o a b)) (ho : o = .range ∨ o = .zip) : Called D sc Γ e (.bin o a b) :=
  inv_call h (by rcases ho with rfl | rfl <;> rfl)

noncomputable def globX : X → Option Str
  | .glob t => some t
  | _ => none
noncomputable def GlobAt (sc : Scope) (e : Expr) (t : Str) : Prop := ∃ p, And3 (e = .Name t p) ((t == ("__debug__" : Str)) = false) (isGlob sc t = true)
theorem call_glob {f : Str} {as : List X} {x : X} {t : Str} {M : Prop} (q : mkCall D f as = some x) (h : globX x = some t) : M := by
  rcases mkCall_cases q with ⟨_, _, rfl⟩ | ⟨_, ⟨_, _, q⟩ | ⟨_, _, _, q⟩⟩
  · exact Zj h
  · rcases call1_cases q with ⟨_, ⟨_, _, rfl⟩ | rfl⟩ | ⟨_, ⟨_, _, _, rfl⟩ | rfl⟩ | ⟨_, _, rfl⟩ <;> exact Zj h
  · rcases call2_cases q with ⟨_, _, _, _, _, rfl⟩ | ⟨_, _, rfl⟩ <;> exact Zj h
theorem inv_glob' {e : Expr} {x : X} {t : Str} (h : cE D sc Γ e = some x) (hx : globX x = some t) : GlobAt sc e t := by
  refine cE_elim (M := fun e x => globX x = some t → GlobAt sc e t) ?_ ?_ ?_ ?_ ?_ ?_ ?_ ?_ ?_ ?_ ?_ ?_ ?_ ?_ e _ h hx
  · intro _ _ _ _ _ q; exact Zj q
  · intro _ _ _ _ h q; rcases const_kind h with rfl | ⟨_, rfl⟩ | ⟨_, rfl⟩ | ⟨_, rfl⟩ <;> exact Zj q
  · intro _ p _ h q
    rcases name_kind h with ⟨_, rfl⟩ | ⟨_, rfl⟩ | ⟨rfl, h1, h2⟩
    · exact Zj q
    · exact Zj q
    · cases q; exact ⟨p, rfl, h1, h2⟩
  · intro _ _ _ _ _ _ _ _ _ _ q; exact Zj q
  · intro _ _ _ _ h q; rcases un_kind h with ⟨_, _, _, rfl⟩ | ⟨_, _, _, rfl⟩ <;> exact Zj q
  · intro _ _ _ _ _ h q; rcases bool_kind h with ⟨_, _, _, _, _, rfl⟩ | ⟨_, _, _, _, _, rfl⟩ <;> exact Zj q
  · intro _ _ _ _ _ _ _ _ _ _ q; exact Zj q
  · intro _ _ _ _ _ h q; rcases cmp_kind h with ⟨op, _, _, _, _, _, rfl⟩ | ⟨_, _, _, _, _, _, _, _, rfl⟩ <;> exact Zj q
  · intro _ _ _ _ _ q; exact Zj q
  · intro _ _ _ _ _ _ q; exact Zj q
  · intro _ _ _ _ _ _ _ _ _ _ _ q; exact Zj q
  · intro _ _ _ _ _ _ _ _ q; exact Zj q
  · intro f p args pos as _ h1 h2 h3 h4 q; exact call_glob h4 q
  · intro _ _ _ _ _ _ _ h q; rcases comp_kind h with ⟨_, _, _, rfl⟩ | ⟨_, _, _, _, _, _, rfl⟩ <;> exact Zj q
theorem inv_glob {e : Expr} {t : Str} (h : cE D sc Γ e = some (.glob t)) : GlobAt sc e t := inv_glob' h rfl

theorem args1 {args : List Expr} {a : X} (h : cEs D sc Γ args = some [a]) : ∃ e, args = [e] ∧ cE D sc Γ e = some a:= by
  cases args with
  | nil => rw [cEs_nil] at h; cases h
  | cons e r =>
    obtain ⟨x, y, h1, h2, h3⟩ := cEs_cons h
    cases h3
    cases r with
    | nil => exact ⟨e, rfl, h1⟩
    | cons e' r' => obtain ⟨_, _, _, _, h4⟩ := cEs_cons h2; cases h4
theorem args2 {args : List Expr} {a b : X} (h : cEs D sc Γ args = some [a, b]) : Ex2 fun e e' => And3 (args = [e, e']) (cE D sc Γ e = some a) (cE D sc Γ e' = some b):= by
  cases args with
  | nil => rw [cEs_nil] at h; cases h
  | cons e r =>
    obtain ⟨x, y, h1, h2, h3⟩ := cEs_cons h
    cases h3
    obtain ⟨e', rfl, h4⟩ := args1 h2
    exact ⟨e, e', rfl, h1, h4⟩
set_option tactic.hygienic true
theorem isi_of {t : Str} {u : U} (h : isiOf t = some u) : (t = Str.ofString "int" ∧ u = .isInt) ∨ (t = Str.ofString "bool" ∧ u = .isBool) ∨ (t = Str.ofString "list" ∧ u = .isList) ∨ (t = Str.ofString "tuple" ∧ u = .isTuple) := by
  unfold isiOf at h
  repeat' split at h
  all_goals first | (cases h; done) | (simp only [Option.some.injEq] at h; rename_i q; have q' := beq_iff_eq.mp q; subst h; simp [q'])
set_option tactic.hygienic false

/-- the names of what is walked over -/
noncomputable def itName : U → Option Str
  | .upto => some "range"
  | .enumerate => some "enumerate"
  | .reversed => some "reversed"
  | .set => some "set"
  | _ => none
noncomputable def itName2 : B → Option Str
  | .range => some "range"
  | .zip => some "zip"
  | _ => none
theorem tab1_name : (tab1.all fun p => (itName p.2).all (p.1 == ·)) = true := by decide +kernel
theorem tab2_name : (tab2.all fun p => (itName2 p.2).all (p.1 == ·)) = true := by decide +kernel
theorem name_of {f n : Str} {o : Option Str} (h : o.all (f == ·) = true) (e : o = some n) : f = n := by
  subst e; exact beq_iff_eq.mp h
theorem isi_name {t : Str} {u : U} (h : isiOf t = some u) : itName u = none := by
  unfold isiOf at h
  repeat' split at h
  all_goals first | (cases h; done) | (cases h; rfl)
theorem mk_un {f n : Str} {as : List X} {u : U} {a : X} (h : mkCall D f as = some (.un u a)) (hu : itName u = some n) : D.fids.lookup f = none ∧ as = [a] ∧ f = n := by
  rcases mkCall_cases h with ⟨_, _, q⟩ | ⟨hf, ⟨b, rfl, q⟩ | ⟨_, _, _, q⟩⟩
  · cases q
  · rcases call1_cases q with ⟨_, ⟨_, _, q⟩ | q⟩ | ⟨_, ⟨_, _, _, q⟩ | q⟩ | ⟨v, hv, q⟩
    · cases q; exact Zj hu
    · cases q; exact Zj hu
    · cases q; exact Zj hu
    · cases q; exact Zj hu
    · cases q
      exact ⟨hf, rfl, name_of (List.all_eq_true.mp tab1_name _ hv) hu⟩
  · rcases call2_cases q with ⟨_, _, v, _, hv, q⟩ | ⟨_, _, q⟩
    · cases q
      rw [isi_name hv] at hu; exact Zj hu
    · cases q

theorem mk_bin {f n : Str} {as : List X} {o : B} {a b : X} (h : mkCall D f as = some (.bin o a b)) (ho : itName2 o = some n) : D.fids.lookup f = none ∧ as = [a, b] ∧ f = n := by
  rcases mkCall_cases h with ⟨_, _, q⟩ | ⟨hf, ⟨b, rfl, q⟩ | ⟨_, _, rfl, q⟩⟩
  · cases q
  · rcases call1_cases q with ⟨_, ⟨_, _, q⟩ | q⟩ | ⟨_, ⟨_, _, _, q⟩ | q⟩ | ⟨v, hv, q⟩ <;> cases q
  · rcases call2_cases q with ⟨_, _, v, _, hv, q⟩ | ⟨v, hv, q⟩
    · cases q
    · cases q
      exact ⟨hf, rfl, name_of (List.all_eq_true.mp tab2_name _ hv) ho⟩
end
end Mine

open PySem
namespace Mine

section
variable {prog : Program} {w : World} {base : Heap} {A : Around}

/-- one of our lists, from behind -/
theorem Walk.rev (hh : A.handled = none) (I : Addr) (k : Nat) (vs : List V) (x : Str) (p : Pos) :
    Walk prog w base A (.Name x p) vs.reverse [(k, vs)] I [I] (fun i φ h => i ≤ vs.length ∧ ∃ l, φ[k]? = some l ∧ h.IsRevIter I l ((vs.length : Int) - 1 - i))
      (fun i _ φ h => i + 1 ≤ vs.length ∧ ∃ l, φ[k]? = some l ∧ h.IsRevIter I l ((vs.length : Int) - 1 - (i + 1 : Nat))) where
  wrobj := fun i φ h ⟨_, l, _, o, ho, _, hd⟩ b hb => by simp only [List.mem_singleton] at hb; subst hb; exact ⟨o, _, ho, hd⟩
  frame := fun i φ φ' h h' ⟨hi, l, hl, o, ho, hc, hd⟩ hp hk _ => ⟨hi, l, Zl hp hl, o, hk _ _ _ (by simp) ho hd, hc, hd⟩
  next := fun i v s φ H Q E hv st R hs hQ => by
    obtain ⟨_, l, hl, hit⟩ := st
    have hk := hs (k, vs) (by simp)
    obtain ⟨l', us, n, e, hl', ho, hr⟩ := R.list hk ⟨l, rfl, hl⟩
    cases e
    have hi : i < vs.length := by
      rcases Nat.lt_or_ge i vs.length with q | q
      · exact q
      · rw [List.getElem?_eq_none (by simp [q])] at hv; cases hv
    rw [List.getElem?_reverse hi] at hv
    obtain ⟨u, hu, ru⟩ := hr.get hv
    have e1 : (vs.length : Int) - 1 - i = ((vs.length - 1 - i : Nat) : Int) := by lia
    rw [e1] at hit
    refine wpAny_pyNext_rev_item hit ⟨_, ho, rfl, n, rfl⟩ (by simpa using hu) fun h' hit' hb => hQ u h' s.toks ⟨by lia, l, hl, ?_⟩ ?_ (sameBut_keep hb)
    · have e2 : ((vs.length - 1 - i : Nat) : Int) - 1 = (vs.length : Int) - 1 - (i + 1 : Nat) := by lia
      rw [e2] at hit'; exact hit'
    · exact ru.but (a := I) hb.extBut fun o e q' => by
        obtain ⟨o', ho', _, hd'⟩ := hit
        rw [e] at ho'; cases ho'; exact q'.not_fields hd'
  go := fun i x s φ Q E hm hQ => go_name (hQ s.heap hm fun _ _ _ e => e)
  done := fun s φ H Q E st R hs hQ => by
    obtain ⟨_, l, hl, hit⟩ := st
    have e1 : (vs.length : Int) - 1 - (vs.reverse.length : Nat) = -1 := by simp only [List.length_reverse]; lia
    rw [e1] at hit
    exact wpAny_pyNext_rev_end hh hit fun h' hb => hQ h' s.toks (extBut_keep hb)
  self := fun s φ Q E st h => by obtain ⟨_, l, _, hit⟩ := st; exact wpAny_pyIter_revIter hit h
  wrmid := fun i x φ h ⟨_, l, _, o, ho, _, hd⟩ b hb => by simp only [List.mem_singleton] at hb; subst hb; exact ⟨o, _, ho, hd⟩
  mid := fun _ _ _ _ _ h => h
end

noncomputable def TgOk (it : It) (tg : Expr) : Prop := (it = .enum → ∃ elts j p, tg = .Tuple elts j p) ∧ (it ≠ .enum → ∃ x p, tg = .Name x p)

section
variable {prog : Program} {w : World} {base : Heap} {D : Tabs} {T : Nat → Option Fn} {mg mb : Str → Option Value} {C : Calls} {A : Around} {sc : Scope} {Γ : List Str} {env : Env}

/-- what is handed to a loop -/
noncomputable def ContI (prog : Program) (w : World) (base : Heap) (A : Around) (tg : Expr) (φ : List Addr) (s : Shared) (P : List V → List (Nat × List V) → Hp → Prop) (Q : Value → Shared → Prop) : Prop :=
  ∀ vs src φ' H' s' I wr St Mid, P vs src H' → Step [] φ φ' s s' → Rel base φ' H' s'.heap → Walk prog w base A tg vs src I wr St Mid → St 0 φ' s'.heap → (∀ b ∈ wr, s.heap.get? b = none) → vs.length ≤ room → Q (.ref I) s'

theorem ContI.after {tg : Expr} {φ φ' : List Addr} {s s' : Shared} {P : List V → List (Nat × List V) → Hp → Prop} {Q : Value → Shared → Prop} (K : ContI prog w base A tg φ s P Q) (st : Step [] φ φ' s s') : ContI prog w base A tg φ' s' P Q :=
  fun vs src φ'' H'' s'' I wr St Mid hp st' R Wk h0 hn hz => K vs src φ'' H'' s'' I wr St Mid hp (st.trans st') R Wk h0 (fun b hb => by
    cases q : s.heap.get? b with
    | none => rfl
    | some o =>
      have := st.live b (by rw [q]; rfl)
      rw [hn b hb] at this; cases this) hz

/-- what a loop's source gives -/
noncomputable def SrcP (P : List V → List (Nat × List V) → Hp → Prop) (it : It) (y z : V) (H : Hp) : Prop := match items it y z H with | some (vs, src) => P vs src H | none => False
theorem SrcP.elim {P : List V → List (Nat × List V) → Hp → Prop} {it : It} {y z : V} {H : Hp} (h : SrcP P it y z H) : Ex2 fun vs src => items it y z H = some (vs, src) ∧ P vs src H:= by
  unfold SrcP at h
  cases q : items it y z H with
  | none => rw [q] at h; exact False.elim h
  | some p => rw [q] at h; exact ⟨_, _, rfl, h⟩
theorem items_range {y z : V} {H : Hp} {vs : List V} {src : List (Nat × List V)} (h : items .range y z H = some (vs, src)) :
    Ex2 fun a b => And5 (y = .int a) (z = .int b) ((-1000000 ≤ a ∧ a ≤ 1000000 ∧ -1000000 ≤ b ∧ b ≤ 1000000)) (vs = nums a (b - a).toNat) (src = []):= by
  cases y with
  | int a => cases z with
    | int b => obtain ⟨hb, h⟩ := ite_some h; cases h; exact ⟨a, b, rfl, rfl, hb, rfl, rfl⟩
    | _ => exact Zj h
  | _ => exact Zj h
theorem list_at {o : Option (List V)} {α : Type} {f : List V → α} {x : α} (h : (match o with | some vs => some (f vs) | none => none) = some x) : ∃ us, o = some us ∧ f us = x:= by
  cases o with
  | none => exact Zj h
  | some us => cases h; exact ⟨us, rfl, rfl⟩
/-- a list of ours is walked -/
theorem iter_seq (hh : A.handled = none) {tg : Expr} (ht : ∃ x p, tg = .Name x p) {φ : List Addr} {H : Hp} {s : Shared} {v : V} {x : Value} {P : List V → List (Nat × List V) → Hp → Prop} {Q : Value → Shared → Prop} {E : Value → Shared → Prop}
    (R : Rel base φ H s.heap) (r : Rep base φ s.heap v x) (hw : SrcP P .seq v .none H) (K : ContI prog w base A tg φ s P Q) :
    wpAny (model prog w) A (pyIter x) Q E s := by
  obtain ⟨xn, xp, rfl⟩ := ht
  cases v with
  | tup vs =>
    obtain ⟨t, us, rfl, htu, hr, hz⟩ := r
    refine wpAny_pyIter_tuple htu ?_
    have kp : ∀ b o, s.heap.get? b = some o → (s.heap.push { cls := .type "tuple_iterator", data := .fields #[.ref t, .int 0 0] }).get? b = some o := fun b o e => Heap.get?_push_of_some _ e
    refine K _ _ φ H _ s.heap.objs.size [s.heap.objs.size] _ _ hw (Step.grow (tk := s.toks) kp) (R.grow kp) (Walk.tuple hh s.heap.objs.size t _ xn xp) ⟨⟨_, Heap.get?_push_size _ rfl, rfl, rfl⟩, us, ?_, ?_⟩ ?_ hz
    · obtain ⟨o, ho, r⟩ := htu; exact ⟨o, kp _ _ ho, r⟩
    · exact RepL.mono (List.prefix_refl _) (fun b o e _ => kp b o e) _ _ hr
    · intro b hb; cases List.mem_singleton.mp hb; exact get_size _
  | ref k =>
    obtain ⟨vs, src, hi, hp⟩ := SrcP.elim (it := .seq) (z := .none) hw
    obtain ⟨us, hk, e⟩ := list_at (f := fun vs => (vs, [(k, vs)])) hi
    cases e
    obtain ⟨l, us, n, rfl, hl, ho, hr⟩ := rep_ref R r hk
    refine wpAny_pyIter_list ⟨_, ho, rfl, n, rfl⟩ ?_
    have kp : ∀ b o, s.heap.get? b = some o → (s.heap.push { cls := .type "list_iterator", data := .fields #[.ref l, .int 0 0] }).get? b = some o := fun b o e => Heap.get?_push_of_some _ e
    refine K _ _ φ H _ s.heap.objs.size [s.heap.objs.size] _ _ hp (Step.grow (tk := s.toks) kp) (R.grow kp) (Walk.list hh s.heap.objs.size _ _ xn xp) ⟨l, hl, _, Heap.get?_push_size _ rfl, rfl, rfl⟩ ?_ (R.short hk)
    intro b hb; cases List.mem_singleton.mp hb; exact get_size _
  | _ => exact False.elim hw

/-- a loop's source, or one of the things that it is called with -/
noncomputable def Part (e' iter : Expr) : Prop := e' = iter ∨ Ex3 fun f args pos => iter = .Call f args [] pos ∧ e' ∈ args
theorem Part.size {e' iter : Expr} (h : Part e' iter) : sizeOf e' ≤ sizeOf iter := by
  rcases h with rfl | ⟨f, args, pos, rfl, he⟩
  · exact Nat.le_refl _
  · have := List.sizeOf_lt_of_mem he; simp; lia
theorem items_enum {y z : V} {H : Hp} {vs : List V} {src : List (Nat × List V)} (h : items .enum y z H = some (vs, src)) :
    Ex2 fun k us => And4 (y = .ref k) (H[k]? = some us) (vs = pairs (nums 0 us.length) us) (src = [(k, us)]):= by
  cases y with
  | ref k => obtain ⟨us, q, e⟩ := list_at (f := fun vs => (pairs (nums 0 vs.length) vs, [(k, vs)])) h; cases e; exact ⟨k, us, rfl, q, rfl, rfl⟩
  | _ => exact Zj h
theorem items_rev {y z : V} {H : Hp} {vs : List V} {src : List (Nat × List V)} (h : items .rev y z H = some (vs, src)) :
    Ex2 fun k us => And4 (y = .ref k) (H[k]? = some us) (vs = us.reverse) (src = [(k, us)]):= by
  cases y with
  | ref k => obtain ⟨us, q, e⟩ := list_at (f := fun vs => (vs.reverse, [(k, vs)])) h; cases e; exact ⟨k, us, rfl, q, rfl, rfl⟩
  | _ => exact Zj h
/-- one value, two values -/
noncomputable def One (F : V → Prop) (vs : List V) : Prop := match vs with | [z] => F z | _ => False
noncomputable def Two (F : V → V → Prop) (vs : List V) : Prop := match vs with | [y, z] => F y z | _ => False
theorem One.elim {F : V → Prop} {vs : List V} (h : One F vs) : ∃ z, vs = [z] ∧ F z:= by
  cases vs with
  | nil => exact False.elim h
  | cons z r => cases r with
    | nil => exact ⟨z, rfl, h⟩
    | cons _ _ => exact False.elim h
theorem Two.elim {F : V → V → Prop} {vs : List V} (h : Two F vs) : Ex2 fun y z => vs = [y, z] ∧ F y z:= by
  cases vs with
  | nil => exact False.elim h
  | cons y r => cases r with
    | nil => exact False.elim h
    | cons z r => cases r with
      | nil => exact ⟨y, z, rfl, h⟩
      | cons _ _ => exact False.elim h
theorem repL_one {φ : List Addr} {h : Heap} {z : V} {ws : List Value} (r : RepL base φ h [z] ws) : ∃ x, ws = [x] ∧ Rep base φ h z x:= by
  obtain ⟨x, r, rfl, q, h⟩ := r; rw [show r = [] from h]; exact ⟨x, rfl, q⟩

theorem range_go (hcalm : Calm A base) {φ : List Addr} {H : Hp} {s : Shared} {xn : Str} {xp : Pos} {P : List V → List (Nat × List V) → Hp → Prop} {Q E : Value → Shared → Prop} {a b : Int} {t u v : Tok} {r : Addr} (hr : IsRange s.heap r a b 1 t u v) (R : Rel base φ H s.heap) (K : ContI prog w base A (.Name xn xp) φ s P Q)
    (hb : -1000000 ≤ a ∧ a ≤ 1000000 ∧ -1000000 ≤ b ∧ b ≤ 1000000) (hp : P (nums a (b - a).toNat) [] H) : wpAny (model prog w) A (pyIter (.ref r)) Q E s := by
  refine wpAny_pyIter_range hr (small_one (by lia) (by lia) (by lia) (by lia)) ?_
  rw [PyProof.Rows.rangeSize_nat]
  have kp : ∀ c o, s.heap.get? c = some o → (s.heap.push { cls := .type "range_iterator", data := .fields #[rawInt a, rawInt ((b - a).toNat : Int), rawInt 1] }).get? c = some o := fun c o e => Heap.get?_push_of_some _ e
  refine K _ _ φ H _ s.heap.objs.size [s.heap.objs.size] _ _ hp (Step.grow (tk := s.toks) kp) (R.grow kp) (Walk.range hcalm s.heap.objs.size a (b - a).toNat xn xp) ?_ ?_ ?_
  · show IsRangeIter _ _ _ _ _
    have := Heap.get?_push_size s.heap (o := { cls := .type "range_iterator", data := .fields #[rawInt a, rawInt ((b - a).toNat : Int), rawInt 1] }) rfl
    simpa [IsRangeIter] using this
  · intro c hc; cases List.mem_singleton.mp hc; exact get_size _
  · simp only [nums, List.length_map, List.length_range]; unfold room; lia

theorem itOf_elim {M : X → It → X → X → Prop} (h1 : ∀ a, M (.un .upto a) .range (.int 0) a) (h2 : ∀ a b, M (.bin .range a b) .range a b)
    (h3 : ∀ a, M (.un .enumerate a) .enum a .none)
    (h4 : ∀ a, M (.un .reversed a) .rev a .none)
    (h5 : ∀ e, M e .seq e .none) (e : X) : M e (itOf e).1 (itOf e).2.1 (itOf e).2.2 := by
  cases e with
  | un o a => cases o with
    | upto => exact h1 a
    | enumerate => exact h3 a
    | reversed => exact h4 a
    | _ => exact h5 _
  | bin o a b => cases o with
    | range => exact h2 a b
    | _ => exact h5 _
  | _ => exact h5 _

section
variable (G : Ground base D T mg mb) {iter : Expr} {tg : Expr} {a b : X} (IH : ∀ e', Part e' iter → ∀ x, cE D sc Γ e' = some x → SE prog w base C A e' x sc Γ env)
    {m : Loc} {φ : List Addr} {H : Hp} {s : Shared} {P : List V → List (Nat × List V) → Hp → Prop} {Q : Value → Shared → Prop} {E : Value → Shared → Prop} (R : Rel base φ H s.heap) (W : EnvR base φ sc env Γ m s.heap) (K : ContI prog w base A tg φ s P Q)
include G IH R W K
theorem src_upto (hA : Calm A base) (ht : ∃ x p, tg = .Name x p) (hc : cE D sc Γ iter = some (.un .upto a)) (hw : wpE C a m H (SrcP P .range (.int 0))) : wpAny (model prog w) A (eval iter env) (fun x s₁ => wpAny (model prog w) A (pyIter x) Q E s₁) E s := by
  obtain ⟨f, p, args, pos, as, rfl, hd, hg, has, hm⟩ := inv_un hc (fun q => nomatch q)
  obtain ⟨hf, rfl, rfl⟩ := mk_un hm rfl
  obtain ⟨e1, rfl, h1⟩ := args1 has
  refine se_call_t (id := "range") G (bt 8 rfl) hg hd has (List.cons_ne_nil _ _) (fun e' he x hx => IH e' (.inr ⟨_, _, _, rfl, he⟩) x hx) R W (P := fun vs H' => One (fun z => SrcP P .range (.int 0) z H') vs) hw fun vs ws φ' H' s' hp st R' rv => ?_
  obtain ⟨z, rfl, hp⟩ := One.elim hp
  obtain ⟨wz, rfl, rz⟩ := repL_one rv
  obtain ⟨vs, src, hi, hp⟩ := SrcP.elim hp
  obtain ⟨a', b, ea, rfl, hb, rfl, rfl⟩ := items_range hi
  cases ea
  obtain ⟨t, rfl⟩ := rz
  obtain ⟨xn, xp, rfl⟩ := ht
  exact call_range_1 (range_go hA (Heap.get?_push_size _ rfl) (R'.grow fun c o e => Heap.get?_push_of_some _ e) ((K.after st).after (Step.grow fun c o e => Heap.get?_push_of_some _ e)) hb hp)
theorem src_range (hA : Calm A base) (ht : ∃ x p, tg = .Name x p) (hc : cE D sc Γ iter = some (.bin .range a b)) (hw : wpE C a m H fun v H₁ => wpE C b m H₁ (SrcP P .range v)) : wpAny (model prog w) A (eval iter env) (fun x s₁ => wpAny (model prog w) A (pyIter x) Q E s₁) E s := by
  obtain ⟨f, p, args, pos, as, rfl, hd, hg, has, hm⟩ := inv_bin hc (.inl rfl)
  obtain ⟨hf, rfl, rfl⟩ := mk_bin hm rfl
  refine se_call_t (id := "range") G (bt 8 rfl) hg hd has (by intro q; subst q; rw [cEs_nil] at has; cases has) (fun e' he x hx => IH e' (.inr ⟨_, _, _, rfl, he⟩) x hx) R W (P := fun vs H' => Two (fun y z => SrcP P .range y z H') vs) hw fun vs ws φ' H' s' hp st R' rv => ?_
  obtain ⟨y, z, rfl, hp⟩ := Two.elim hp
  obtain ⟨wy, r, rfl, ry, rv⟩ := rv
  obtain ⟨wz, rfl, rz⟩ := repL_one rv
  obtain ⟨vs, src, hi, hp⟩ := SrcP.elim hp
  obtain ⟨a', b', rfl, rfl, hb, rfl, rfl⟩ := items_range hi
  obtain ⟨t, rfl⟩ := rz
  obtain ⟨t', rfl⟩ := ry
  obtain ⟨xn, xp, rfl⟩ := ht
  exact call_range_2 (range_go hA (Heap.get?_push_size _ rfl) (R'.grow fun c o e => Heap.get?_push_of_some _ e) ((K.after st).after (Step.grow fun c o e => Heap.get?_push_of_some _ e)) hb hp)
theorem src_enum (hh : A.handled = none) (ht : ∃ elts j p, tg = .Tuple elts j p) (hc : cE D sc Γ iter = some (.un .enumerate a)) (hw : wpE C a m H fun v H₁ => SrcP P .enum v .none H₁) : wpAny (model prog w) A (eval iter env) (fun x s₁ => wpAny (model prog w) A (pyIter x) Q E s₁) E s := by
  obtain ⟨f, p, args, pos, as, rfl, hd, hg, has, hm⟩ := inv_un hc (fun q => nomatch q)
  obtain ⟨hf, rfl, rfl⟩ := mk_un hm rfl
  obtain ⟨e1, rfl, h1⟩ := args1 has
  refine se_call_t (id := "enumerate") G (bt 9 rfl) hg hd has (List.cons_ne_nil _ _) (fun e' he x hx => IH e' (.inr ⟨_, _, _, rfl, he⟩) x hx) R W (P := fun vs H' => One (fun z => SrcP P .enum z .none H') vs) hw fun vs ws φ' H' s' hp st R' rv => ?_
  obtain ⟨z, rfl, hp⟩ := One.elim hp
  obtain ⟨wz, rfl, rz⟩ := repL_one rv
  obtain ⟨vs, src, hi, hp⟩ := SrcP.elim hp
  obtain ⟨k, us, rfl, hk, rfl, rfl⟩ := items_enum hi
  obtain ⟨l, xs, n, rfl, hl, ho, hr'⟩ := rep_ref R' rz hk
  obtain ⟨elts, j, tp, rfl⟩ := ht
  refine call_enumerate_list ⟨_, ho, rfl, n, rfl⟩ fun h' hE hit hsz kp => ?_
  refine wpAny_pyIter_enum hE ?_
  have hz := R'.short hk
  refine (K.after st) _ _ φ' H' _ (s'.heap.objs.size + 1) [s'.heap.objs.size + 1, s'.heap.objs.size] _ _ hp (Step.grow (tk := s'.toks) kp) (R'.grow kp) (Walk.enum hh (s'.heap.objs.size + 1) s'.heap.objs.size (Nat.succ_ne_self _) _ us elts j tp hz) ⟨⟨l, hl, hit⟩, _, hE⟩ ?_ ?_
  · intro c hc
    cases List.mem_cons.mp hc with
    | inl e => cases e; exact get_ge _ (Nat.le_succ _)
    | inr hc => cases List.mem_singleton.mp hc; exact get_size _
  · simpa [pairs, nums] using hz
theorem src_rev (hh : A.handled = none) (ht : ∃ x p, tg = .Name x p) (hc : cE D sc Γ iter = some (.un .reversed a)) (hw : wpE C a m H fun v H₁ => SrcP P .rev v .none H₁) : wpAny (model prog w) A (eval iter env) (fun x s₁ => wpAny (model prog w) A (pyIter x) Q E s₁) E s := by
  obtain ⟨f, p, args, pos, as, rfl, hd, hg, has, hm⟩ := inv_un hc (fun q => nomatch q)
  obtain ⟨hf, rfl, rfl⟩ := mk_un hm rfl
  obtain ⟨e1, rfl, h1⟩ := args1 has
  refine se_call_t (id := "reversed") G (bt 7 rfl) hg hd has (List.cons_ne_nil _ _) (fun e' he x hx => IH e' (.inr ⟨_, _, _, rfl, he⟩) x hx) R W (P := fun vs H' => One (fun z => SrcP P .rev z .none H') vs) hw fun vs ws φ' H' s' hp st R' rv => ?_
  obtain ⟨z, rfl, hp⟩ := One.elim hp
  obtain ⟨wz, rfl, rz⟩ := repL_one rv
  obtain ⟨vs, src, hi, hp⟩ := SrcP.elim hp
  obtain ⟨k, us, rfl, hk, rfl, rfl⟩ := items_rev hi
  obtain ⟨l, xs, n, rfl, hl, ho, hr'⟩ := rep_ref R' rz hk
  obtain ⟨xn, xp, rfl⟩ := ht
  refine call_reversed_list ⟨_, ho, rfl, n, rfl⟩ ?_
  have hit : (s'.heap.push (revObj l ((xs.toArray.size : Int) - 1))).IsRevIter s'.heap.objs.size l ((us.length : Int) - 1) := by
    refine ⟨_, Heap.get?_push_size _ rfl, rfl, ?_⟩
    rw [show us.length = xs.toArray.size from hr'.length.symm]; rfl
  refine wpAny_pyIter_revIter hit ?_
  have kp : ∀ c o, s'.heap.get? c = some o → (s'.heap.push (revObj l ((xs.toArray.size : Int) - 1))).get? c = some o := fun c o e => Heap.get?_push_of_some _ e
  have hz := R'.short hk
  refine (K.after st) _ _ φ' H' _ s'.heap.objs.size [s'.heap.objs.size] _ _ hp (Step.grow (tk := s'.toks) kp) (R'.grow kp) (Walk.rev hh s'.heap.objs.size _ us xn xp) ⟨Nat.zero_le _, l, hl, by simpa using hit⟩ ?_ (by rw [List.length_reverse]; exact hz)
  intro c hc; cases List.mem_singleton.mp hc; exact get_size _
end

/-- the head of a loop -/
theorem source (G : Ground base D T mg mb) {iter : Expr} {ix : X} {tg : Expr} (hhi : A.handled = none ∨ ((itOf ix).1 = .range ∧ Calm A base)) (ht : TgOk (itOf ix).1 tg) (hc : cE D sc Γ iter = some ix)
    (IH : ∀ e', Part e' iter → ∀ x, cE D sc Γ e' = some x → SE prog w base C A e' x sc Γ env)
    {m : Loc} {φ : List Addr} {H : Hp} {s : Shared} {P : List V → List (Nat × List V) → Hp → Prop} {Q : Value → Shared → Prop} {E : Value → Shared → Prop} (R : Rel base φ H s.heap) (W : EnvR base φ sc env Γ m s.heap)
    (hw : wpE C (itOf ix).2.1 m H fun v H₁ => wpE C (itOf ix).2.2 m H₁ fun z H₂ => SrcP P (itOf ix).1 v z H₂)
    (K : ContI prog w base A tg φ s P Q) : wpAny (model prog w) A (eval iter env) (fun x s₁ => wpAny (model prog w) A (pyIter x) Q E s₁) E s := by
  have hcalm : Calm A base := hhi.elim .inl (·.2)
  refine itOf_elim (M := fun ix it a b => A.handled = none ∨ (it = .range ∧ Calm A base) → TgOk it tg → cE D sc Γ iter = some ix → (wpE C a m H fun v H₁ => wpE C b m H₁ fun z H₂ => SrcP P it v z H₂) → wpAny (model prog w) A (eval iter env) (fun x s₁ => wpAny (model prog w) A (pyIter x) Q E s₁) E s)
    (fun a hhi ht hc hw => src_upto G IH R W K hcalm (ht.2 fun q => nomatch q) hc hw) (fun a b hhi ht hc hw => src_range G IH R W K hcalm (ht.2 fun q => nomatch q) hc hw)
    (fun a hhi ht hc hw => src_enum G IH R W K (hhi.resolve_right fun q => nomatch q.1) (ht.1 rfl) hc hw)
    (fun a hhi ht hc hw => src_rev G IH R W K (hhi.resolve_right fun q => nomatch q.1) (ht.2 fun q => nomatch q) hc hw)
    (fun e hhi ht hc hw => IH iter (.inl rfl) _ hc m φ H s _ _ E R W hw fun v x φ' H' s' hp st R' r => iter_seq (hhi.resolve_right fun q => nomatch q.1) (ht.2 fun q => nomatch q) R' r hp (K.after st)) ix hhi ht hc hw
end
end Mine

open PySem
namespace Mine

/-! ## the block of a comprehension -/
noncomputable def clOf (env : Env) : List (Str × NameKind) → List (Str × Addr) → List (Str × Addr)
  | [], acc => acc
  | (n, k) :: r, acc => if k == .free then clOf env r ((n, (env.cells.lookup n).getD 0) :: acc) else clOf env r acc

theorem closure_loop {env : Env} (f : Str × NameKind → List (Str × Addr) → Sem (ForInStep (List (Str × Addr))))
    (hf : ∀ name kind cs, f (name, kind) cs = if kind == .free then (do let c ← cellOf env name; pure (.yield ((name, c) :: cs))) else pure (.yield cs)) :
    ∀ (names : List (Str × NameKind)) (acc : List (Str × Addr)), (∀ p ∈ names, p.2 = .free → ∃ c, env.cells.lookup p.1 = some c) → forIn names acc f = (pure (clOf env names acc) : Sem _)
  | [], acc, _ => by rw [List.forIn_nil]; rfl
  | (n, k) :: r, acc, h => by
    rw [List.forIn_cons, hf]
    have ih := fun acc' => closure_loop f hf r acc' fun p hp => h p (List.mem_cons_of_mem _ hp)
    unfold clOf
    by_cases hk : (k == .free) = true
    · obtain ⟨c, hc⟩ := h (n, k) List.mem_cons_self (by simpa using hk)
      rw [if_pos hk, if_pos hk]
      have hc' : env.cells.lookup n = some c := hc
      show ((cellOf env n >>= fun c => pure (ForInStep.yield ((n, c) :: acc))) >>= _) = _
      unfold cellOf
      rw [hc']
      exact ih _
    · rw [if_neg hk, if_neg hk]; exact ih _

theorem closureFor_eq {env : Env} {scope : Scope} (h : ∀ p ∈ scope.names, p.2 = .free → ∃ c, env.cells.lookup p.1 = some c) : closureFor scope env = pure (clOf env scope.names []) := by
  simp only [closureFor]
  rw [closure_loop _ (fun name kind cs => by cases hkc : kind == NameKind.free <;> simp [hkc]) scope.names [] h]
  rfl

set_option tactic.hygienic true
theorem clOf_mem {env : Env} : ∀ (names : List (Str × NameKind)) (acc : List (Str × Addr)), (∀ p ∈ names, p.2 = .free → ∃ c, env.cells.lookup p.1 = some c) → (∀ p ∈ acc, env.cells.lookup p.1 = some p.2) →
    ∀ p ∈ clOf env names acc, env.cells.lookup p.1 = some p.2
  | [], _, _, ha => ha
  | (n, k) :: r, acc, h, ha => by
    unfold clOf
    split
    · rename_i hk
      obtain ⟨c, hc⟩ := h (n, k) List.mem_cons_self (by simpa using hk)
      refine clOf_mem r _ (fun p hp => h p (List.mem_cons_of_mem _ hp)) fun p hp => ?_
      rcases List.mem_cons.mp hp with rfl | hp
      · show env.cells.lookup n = some ((env.cells.lookup n).getD 0)
        rw [show env.cells.lookup n = some c from hc]; rfl
      · exact ha p hp
    · exact clOf_mem r acc (fun p hp => h p (List.mem_cons_of_mem _ hp)) ha
set_option tactic.hygienic false

theorem clOf_sub {env : Env} : ∀ (names : List (Str × NameKind)) (acc : List (Str × Addr)), ∀ p ∈ acc, p ∈ clOf env names acc
  | [], _, _, h => h
  | (n, k) :: r, acc, p, h => by
    unfold clOf
    split
    · exact clOf_sub r _ p (List.mem_cons_of_mem _ h)
    · exact clOf_sub r acc p h
theorem clOf_has {env : Env} : ∀ (names : List (Str × NameKind)) (acc : List (Str × Addr)) (y : Str), (y, NameKind.free) ∈ names → ∃ c, (y, c) ∈ clOf env names acc
  | (n, k) :: r, acc, y, h => by
    unfold clOf
    rcases List.mem_cons.mp h with e | h
    · cases e
      simp only [BEq.rfl, if_true]
      exact ⟨_, clOf_sub r _ _ List.mem_cons_self⟩
    · split
      · exact clOf_has r _ y h
      · exact clOf_has r _ y h
theorem lookup_some_of_mem : ∀ {l : List (Str × Addr)} {y : Str} {c : Addr}, (y, c) ∈ l → ∃ d, l.lookup y = some d
  | (k, v) :: r, y, c, h => by
    rw [List.lookup_cons]
    cases hb : y == k with
    | true => exact ⟨v, rfl⟩
    | false =>
      rcases List.mem_cons.mp h with e | h
      · cases e; simp at hb
      · exact lookup_some_of_mem h

theorem cellsFrom_acc : ∀ (names : List (Str × NameKind)) (n : Nat) (acc : List (Str × Addr)), cellsFrom n names acc = cellsFrom n names [] ++ acc
  | [], _, _ => rfl
  | (x, k) :: r, n, acc => by
    unfold cellsFrom
    split
    · rw [cellsFrom_acc r (n + 1) ((x, n) :: acc), cellsFrom_acc r (n + 1) [(x, n)]]; simp
    · exact cellsFrom_acc r n acc
set_option tactic.hygienic true
theorem cellsFrom_mem : ∀ (names : List (Str × NameKind)) (n : Nat) (p : Str × Addr), p ∈ cellsFrom n names [] → (p.1, NameKind.cell) ∈ names
  | (x, k) :: r, n, p, h => by
    unfold cellsFrom at h
    split at h
    · rename_i hk
      rw [cellsFrom_acc] at h
      rcases List.mem_append.mp h with h | h
      · exact List.mem_cons_of_mem _ (cellsFrom_mem r _ p h)
      · simp only [List.mem_singleton] at h; subst h
        have : k = .cell := by simpa using hk
        subst this; exact List.mem_cons_self
    · exact List.mem_cons_of_mem _ (cellsFrom_mem r _ p h)
set_option tactic.hygienic false

theorem cellsFrom_has : ∀ (names : List (Str × NameKind)) (n : Nat) (y : Str), (y, NameKind.cell) ∈ names → ∃ c, (y, c) ∈ cellsFrom n names []
  | (x, k) :: r, n, y, h => by
    unfold cellsFrom
    rcases List.mem_cons.mp h with e | h
    · cases e
      simp only [BEq.rfl, if_true]
      rw [cellsFrom_acc]
      exact ⟨n, List.mem_append_right _ (by simp)⟩
    · split
      · rw [cellsFrom_acc]
        obtain ⟨c, hc⟩ := cellsFrom_has r (n + 1) y h
        exact ⟨c, List.mem_append_left _ hc⟩
      · exact cellsFrom_has r n y h

theorem lookup_append_left {l l' : List (Str × Addr)} {y : Str} {d : Addr} (h : l.lookup y = some d) : (l ++ l').lookup y = some d := by
  induction l with
  | nil => simp at h
  | cons p r ih =>
    obtain ⟨k, v⟩ := p
    rw [List.cons_append, List.lookup_cons]
    rw [List.lookup_cons] at h
    cases hb : y == k with
    | true => rw [hb] at h; exact h
    | false => rw [hb] at h; exact ih h
theorem lookup_append_right {l l' : List (Str × Addr)} {y : Str} (h : ∀ c, (y, c) ∉ l) : (l ++ l').lookup y = l'.lookup y := by
  induction l with
  | nil => rfl
  | cons p r ih =>
    obtain ⟨k, v⟩ := p
    rw [List.cons_append, List.lookup_cons]
    cases hb : y == k with
    | true => exact absurd (by rw [beq_iff_eq.mp hb]; exact List.mem_cons_self) (h v)
    | false => exact ih fun c hc => h c (List.mem_cons_of_mem _ hc)

theorem mem_lookupK : ∀ {l : List (Str × NameKind)} {y : Str} {k : NameKind}, l.lookup y = some k → (y, k) ∈ l := mem_of_lookup

theorem relabel_lookup {csc : Scope} {env : Env} (x : Str) : (relabel csc env).names.lookup x = match csc.names.lookup x with
    | some .free => if (env.scope.kind == .function && env.kindOf x == some .cell) = true then some .cell else some .free
    | k => k := by
  have key : ∀ names : List (Str × NameKind), (names.map fun (n, k) => if (k == NameKind.free && env.scope.kind == .function && env.kindOf n == some .cell) then (n, NameKind.cell) else (n, k)).lookup x = match names.lookup x with
    | some .free => if (env.scope.kind == .function && env.kindOf x == some .cell) = true then some .cell else some .free
    | k => k := by
    intro names
    induction names with
    | nil => simp
    | cons p r ih =>
      obtain ⟨n, k⟩ := p
      rw [List.map_cons, List.lookup_cons]
      cases hx : x == n with
      | true =>
        have hxn := beq_iff_eq.mp hx
        subst hxn
        dsimp only
        by_cases hc : (k == NameKind.free && env.scope.kind == .function && env.kindOf x == some .cell) = true
        · rw [if_pos hc, List.lookup_cons, hx]
          simp only [Bool.and_eq_true, beq_iff_eq] at hc
          obtain ⟨⟨rfl, h2⟩, h3⟩ := hc
          simp [h2, h3]
        · rw [if_neg hc, List.lookup_cons, hx]
          cases k <;> simp_all
      | false =>
        dsimp only
        by_cases hc : (k == NameKind.free && env.scope.kind == .function && env.kindOf n == some .cell) = true
        · rw [if_pos hc, List.lookup_cons, hx]; exact ih
        · rw [if_neg hc, List.lookup_cons, hx]; exact ih
  exact key csc.names
theorem relabel_kinds {csc : Scope} {env : Env} (x : Str) : KindOk (csc.names.lookup x) ((relabel csc env).names.lookup x) := by
  rw [relabel_lookup]
  cases q : csc.names.lookup x with
  | none => trivial
  | some k => cases k <;> first | exact rfl | trivial | (show (if _ then _ else _) = _ ∨ (if _ then _ else _) = _; split <;> first | exact .inl rfl | exact .inr rfl)
theorem relabel_back {csc : Scope} {env : Env} {x : Str} (h : (relabel csc env).names.lookup x = some .cell ∨ (relabel csc env).names.lookup x = some .free) :
    csc.names.lookup x = some .cell ∨ csc.names.lookup x = some .free := by
  rw [relabel_lookup] at h
  cases q : csc.names.lookup x with
  | none => rw [q] at h; simp at h
  | some k => rw [q] at h; cases k <;> simp_all
theorem relabel_local {csc : Scope} {env : Env} {x : Str} (h : (relabel csc env).names.lookup x = some .local) : csc.names.lookup x = some .local := by
  rw [relabel_lookup] at h
  cases q : csc.names.lookup x with
  | none => rw [q] at h; simp at h
  | some k =>
    rw [q] at h
    cases k <;> simp_all
    split at h <;> simp at h

theorem okScope_once {sc : Scope} (h : okScope sc = true) {p : Str × NameKind} (hp : p ∈ sc.names) : sc.names.lookup p.1 = some p.2 := by
  unfold okScope at h
  simp only [Bool.and_eq_true, List.all_eq_true, beq_iff_eq] at h
  exact h.2 p hp
theorem okScope_kind {sc : Scope} (h : okScope sc = true) : sc.kind = .function := by
  unfold okScope at h
  simp only [Bool.and_eq_true, beq_iff_eq] at h
  exact h.1

section
variable {base : Heap} {φ : List Addr} {H : Hp} {sc csc : Scope} {env : Env} {Γ : List Str} {m : Loc}

set_option tactic.hygienic true
theorem comp_free (W : EnvR base φ sc env Γ m h) (hok : okComp sc csc = true) : ∀ p ∈ csc.names, p.2 = .free → ∃ c, env.cells.lookup p.1 = some c:= fun p hp hf => by
  unfold okComp at hok
  simp only [Bool.and_eq_true, List.all_eq_true] at hok
  have := hok.2 p hp
  rw [hf] at this
  have kd := W.kinds p.1
  dsimp only at this
  split at this
  · rename_i e; rw [e] at kd; exact W.has _ (.inl kd)
  · rename_i e; rw [e] at kd; exact W.has _ kd
  · cases this
set_option tactic.hygienic false

set_option tactic.hygienic true
/-- the new block -/
theorem comp_env {M : Model} {A : Around} {E : Value → Shared → Prop} {s : Shared} (hok : okComp sc csc = true) (W : EnvR base φ sc env Γ m s.heap) (R : Rel base φ H s.heap) (xs : List Str) (hown : okOwn csc Γ xs = true) (hxs : ∀ x ∈ xs, isOwn csc x = true)
    {Q : Env → Shared → Prop}
    (h : ∀ cenv s', (∀ a o, s.heap.get? a = some o → s'.heap.get? a = some o) → Step [] φ φ s s' → Rel base φ H s'.heap →
      EnvR base φ csc { cenv with scope := relabel csc env } (xs.reverse ++ Γ) (m ++ List.replicate xs.length none) s'.heap →
      EnvR base φ csc { cenv with scope := relabel csc env } xs.reverse (List.replicate xs.length none) s'.heap → s.heap.get? cenv.locals = none →
      (∀ x ∈ xs, ∀ a, Env.kindOf { cenv with scope := relabel csc env } x = some .cell → cenv.cells.lookup x = some a → s.heap.get? a = none) → Q cenv s') :
    wpAny M A (newFunctionEnv csc env.globals (clOf env csc.names []) [] env.qual none .none (some env)) Q E s := by
  have hsc : okScope csc = true := by unfold okComp at hok; simp only [Bool.and_eq_true] at hok; exact hok.1
  have hfree := comp_free W hok
  simp only [newFunctionEnv, Option.isSome_some, if_true]
  refine wpAny_bind (wpAny_alloc ?_)
  refine wpAny_bind (wpAny_layCells _ (fun name kind cells => by cases hkc : kind == NameKind.cell <;> simp [hkc]) _ _ _ _ ?_)
  have ok := cellsFrom_ok csc.names (s.heap.push { cls := .type "dict", data := .dict #[] }) (s.heap.objs.size + 1) [] ⟨fun _ _ hm => (nomatch hm), List.Pairwise.nil⟩ (by rw [Heap.size_push]; exact Nat.le_refl _)
  rw [Heap.size_push] at ok
  rw [show ({ s with heap := s.heap.push { cls := .type "dict", data := .dict #[] } } : Shared).heap.objs.size = s.heap.objs.size + 1 from Heap.size_push ..]
  refine wpAny_bind ?_
  rw [List.forIn_nil]
  refine wpAny_pure (wpAny_pure ?_)
  have kp : ∀ a o, s.heap.get? a = some o → (pushCells (s.heap.push { cls := .type "dict", data := .dict #[] }) csc.names).get? a = some o := fun a o e => pushCells_keeps _ _ _ _ (Heap.get?_push_of_some _ e)
  have R' : Rel base φ H (pushCells (s.heap.push { cls := .type "dict", data := .dict #[] }) csc.names) := R.grow kp
  have hn : (pushCells (s.heap.push { cls := .type "dict", data := .dict #[] }) csc.names).Ns s.heap.objs.size fun _ => none := (Heap.Ns.new s.heap (.type "dict")).keeps (pushCells_keeps _ _)
  have hcl := clOf_mem csc.names [] hfree (fun _ hm => nomatch hm)
  have big : ∀ a : Addr, s.heap.objs.size ≤ a → base.get? a = none := fun a ha => by
    cases q : base.get? a with
    | none => rfl
    | some o => have := Heap.lt_size (R.keep a o q); exact absurd this (Nat.not_lt.mpr ha)
  have ecs : cellsFrom (s.heap.objs.size + 1) csc.names (clOf env csc.names []) = cellsFrom (s.heap.objs.size + 1) csc.names [] ++ clOf env csc.names [] := cellsFrom_acc _ _ _
  -- the cells
  have at1 : ∀ p ∈ cellsFrom (s.heap.objs.size + 1) csc.names [] ++ clOf env csc.names [], base.get? p.2 = none ∧ ∃ v, (pushCells (s.heap.push { cls := .type "dict", data := .dict #[] }) csc.names).IsCell p.2 v := fun p hp => by
    rcases List.mem_append.mp hp with hp | hp
    · have := ok.empty p.1 p.2 hp
      exact ⟨big _ (by lia), none, this.1⟩
    · obtain ⟨h1, v, o, ho, hd⟩ := W.cellat (p.1, p.2) (mem_of_lookup (hcl p hp))
      exact ⟨h1, v, o, kp _ _ ho, hd⟩
  have lk_cell : ∀ y, csc.names.lookup y = some .cell → ∃ c, (cellsFrom (s.heap.objs.size + 1) csc.names [] ++ clOf env csc.names []).lookup y = some c ∧ (y, c) ∈ cellsFrom (s.heap.objs.size + 1) csc.names [] := fun y hy => by
    obtain ⟨c, hc⟩ := cellsFrom_has csc.names (s.heap.objs.size + 1) y (mem_lookupK hy)
    obtain ⟨d, hd⟩ := lookup_some_of_mem hc
    exact ⟨d, lookup_append_left hd, mem_of_lookup hd⟩
  have lk_free : ∀ y, csc.names.lookup y = some .free → (cellsFrom (s.heap.objs.size + 1) csc.names [] ++ clOf env csc.names []).lookup y = env.cells.lookup y ∧ ∃ c, env.cells.lookup y = some c := fun y hy => by
    have e1 : (cellsFrom (s.heap.objs.size + 1) csc.names [] ++ clOf env csc.names []).lookup y = (clOf env csc.names []).lookup y := lookup_append_right fun c hc => by
      have := okScope_once hsc (cellsFrom_mem _ _ _ hc)
      rw [hy] at this; cases this
    obtain ⟨c, hc⟩ := clOf_has (env := env) csc.names [] y (mem_lookupK hy)
    obtain ⟨d, hd⟩ := lookup_some_of_mem hc
    have := hcl (y, d) (mem_of_lookup hd)
    exact ⟨by rw [e1, hd]; exact this.symm, d, this⟩
  have old : ∀ p ∈ clOf env csc.names [], p.2 < s.heap.objs.size := fun p hp => by
    obtain ⟨_, v, o, ho, hd⟩ := W.cellat (p.1, p.2) (mem_of_lookup (hcl p hp))
    exact Heap.lt_size ho
  have inj : ∀ x y c, (cellsFrom (s.heap.objs.size + 1) csc.names [] ++ clOf env csc.names []).lookup x = some c → (cellsFrom (s.heap.objs.size + 1) csc.names [] ++ clOf env csc.names []).lookup y = some c → x = y := fun x y c hx hy => by
    rcases List.mem_append.mp (mem_of_lookup hx) with h1 | h1 <;> rcases List.mem_append.mp (mem_of_lookup hy) with h2 | h2
    · exact name_of_addr ok.apart h1 h2
    · have q1 := (ok.empty x c h1).2; have q2 := old _ h2; exact absurd (Nat.lt_of_lt_of_le q2 (Nat.le_of_succ_le q1)) (Nat.lt_irrefl _)
    · have q1 := (ok.empty y c h2).2; have q2 := old _ h1; exact absurd (Nat.lt_of_lt_of_le q2 (Nat.le_of_succ_le q1)) (Nat.lt_irrefl _)
    · exact W.inj x y c (hcl _ h1) (hcl _ h2)
  have has : ∀ x, ((relabel csc env).names.lookup x = some .cell ∨ (relabel csc env).names.lookup x = some .free) → ∃ c, (cellsFrom (s.heap.objs.size + 1) csc.names [] ++ clOf env csc.names []).lookup x = some c := fun x hx => by
    rcases relabel_back hx with q | q
    · obtain ⟨c, hc, _⟩ := lk_cell x q; exact ⟨c, hc⟩
    · obtain ⟨e, c, hc⟩ := lk_free x q; exact ⟨c, by rw [e]; exact hc⟩
  have slot_app : ∀ (ys : List Str) (x : Str) (i : Nat), slot (ys ++ Γ) x = some i → i < Γ.length → slot Γ x = some i := by
    intro ys
    induction ys with
    | nil => intro x i e _; exact e
    | cons y r ih =>
      intro x i e hi
      rw [List.cons_append] at e
      unfold slot at e
      split at e
      · simp only [Option.some.injEq, List.length_append] at e; lia
      · exact ih x i e hi
  have slot_pre : ∀ (ys : List Str) (x : Str) (i : Nat), slot (ys ++ Γ) x = some i → i < Γ.length → x ∉ ys := by
    intro ys
    induction ys with
    | nil => intro x i _ _ q; cases q
    | cons y r ih =>
      intro x i e hi q
      rw [List.cons_append] at e
      unfold slot at e
      split at e
      · simp only [Option.some.injEq, List.length_append] at e; lia
      · rename_i hne
        rcases List.mem_cons.mp q with rfl | q
        · simp at hne
        · exact ih x i e hi q
  -- a name with a value is an outer name, none of the block's own
  have outer : ∀ x i v, slot (xs.reverse ++ Γ) x = some i → (m ++ List.replicate xs.length none)[i]? = some (some v) → slot Γ x = some i ∧ m[i]? = some (some v) ∧ csc.names.lookup x ≠ some .local ∧ csc.names.lookup x ≠ some .cell := fun x i v h1 h2 => by
    have hi : i < Γ.length := by
      rcases Nat.lt_or_ge i m.length with q | q
      · rw [← W.len]; exact q
      · rw [List.getElem?_append_right q, List.getElem?_replicate] at h2
        split at h2 <;> simp at h2
    rw [List.getElem?_append_left (by rw [W.len]; exact hi)] at h2
    have hs := slot_app _ x i h1 hi
    have hn' := slot_pre _ x i h1 hi
    have no : ∀ k, (k = .local ∨ k = .cell) → csc.names.lookup x ≠ some k := fun k hk q => by
      unfold okOwn at hown
      rw [List.all_eq_true] at hown
      have := hown (x, k) (mem_lookupK q)
      rcases hk with rfl | rfl <;> (dsimp only at this; rw [hs] at this; simp at this; exact hn' (by simpa using this))
    exact ⟨hs, h2, no _ (.inl rfl), no _ (.inr rfl)⟩
  have cenvIs : ∀ (Γ' : List Str) (m' : Loc), m'.length = Γ'.length → (∀ x i v, slot Γ' x = some i → m'[i]? = some (some v) → slot Γ x = some i ∧ m[i]? = some (some v) ∧ csc.names.lookup x ≠ some .local ∧ csc.names.lookup x ≠ some .cell) →
      EnvR base φ csc { scope := relabel csc env, locals := s.heap.objs.size, globals := env.globals, cells := cellsFrom (s.heap.objs.size + 1) csc.names (clOf env csc.names []), qual := env.qual, func := none, code := env.code, frame := env.frame, builtins := env.builtins } Γ' m'
        (pushCells (s.heap.push { cls := .type "dict", data := .dict #[] }) csc.names) := fun Γ' m' hl ho => by
    refine ⟨okScope_kind (sc := csc) hsc, W.glob, W.blt, hl, relabel_kinds, big _ (Nat.le_refl _), ⟨_, hn, fun x i v h1 h2 h3 => ?_⟩, ?_, fun x i v h1 h2 h3 => ?_, ?_, ?_⟩
    · exact absurd (relabel_local h3) (ho x i v h1 h2).2.2.1
    · rw [ecs]; exact at1
    · obtain ⟨q1, q2, _, q4⟩ := ho x i v h1 h2
      have hf : csc.names.lookup x = some .free := (relabel_back h3).resolve_left q4
      have hok' := hok
      unfold okComp at hok'
      simp only [Bool.and_eq_true, List.all_eq_true] at hok'
      have := hok'.2 (x, .free) (mem_lookupK hf)
      dsimp only at this
      have hk : env.kindOf x = some .cell ∨ env.kindOf x = some .free := by
        have kd := W.kinds x
        split at this
        · rename_i e; rw [e] at kd; exact .inl kd
        · rename_i e; rw [e] at kd; exact kd
        · cases this
      obtain ⟨c, u, e, ⟨o, ho', hd⟩, r⟩ := W.cellv x i v q1 q2 hk
      refine ⟨c, u, ?_, ⟨o, kp _ _ ho', hd⟩, Rep.mono (List.prefix_refl _) (fun b o e _ => kp b o e) _ _ r⟩
      show (cellsFrom (s.heap.objs.size + 1) csc.names (clOf env csc.names [])).lookup x = some c
      rw [ecs, (lk_free x hf).1]; exact e
    · show ∀ x y c, (cellsFrom (s.heap.objs.size + 1) csc.names (clOf env csc.names [])).lookup x = some c → _
      rw [ecs]; exact inj
    · show ∀ x, _ → ∃ c, (cellsFrom (s.heap.objs.size + 1) csc.names (clOf env csc.names [])).lookup x = some c
      rw [ecs]; exact has
  refine h _ { s with heap := pushCells (s.heap.push { cls := .type "dict", data := .dict #[] }) csc.names } kp (Step.grow (tk := s.toks) kp) R' (cenvIs _ _ (by simp [W.len]; lia) outer) (cenvIs _ _ (by simp) fun x i v _ h2 => ?_) (get_size _) fun x hx a hk ha => ?_
  · rw [List.getElem?_replicate] at h2
    split at h2 <;> simp at h2
  · have ha' : (cellsFrom (s.heap.objs.size + 1) csc.names (clOf env csc.names [])).lookup x = some a := ha
    rw [ecs] at ha'
    have hc : csc.names.lookup x = some .cell := by
      have := hxs x hx
      unfold isOwn at this
      rcases relabel_back (.inl hk) with q | q
      · exact q
      · rw [q] at this; simp at this
    obtain ⟨c, hc1, hc2⟩ := lk_cell x hc
    rw [hc1] at ha'; cases ha'
    exact get_ge _ (by have := (ok.empty x a hc2).2; lia)
set_option tactic.hygienic false

end
end Mine

open PySem
namespace Mine

section
variable {base : Heap} {φ φ₀ : List Addr} {H : Hp} {h : Heap}

/-- a list that was made for itself becomes one of ours -/
theorem Rel.adopt (R : Rel base φ H h) {a : Addr} {vs : List Value} {n : Nat} {xs : List V} (hna : a ∉ φ) (hb : base.get? a = none)
    (ha : h.get? a = some ⟨.type "list", none, .seq vs.toArray n, #[]⟩) (hr : RepL base φ h xs vs) (hz : xs.length ≤ room) :
    Rel base (φ ++ [a]) (H ++ [xs]) h ∧ Rep base (φ ++ [a]) h (.ref H.length) (.ref a) := by
  have hp : φ <+: φ ++ [a] := List.prefix_append _ _
  have mono : ∀ {ys : List V} {ws : List Value}, RepL base φ h ys ws → RepL base (φ ++ [a]) h ys ws := fun {ys ws} r => RepL.mono hp (fun a o e _ => e) ys ws r
  refine ⟨⟨R.keep, by simp [R.len], ?_, ?_, fun ys hy => ?_, fun k b e => ?_⟩, ⟨a, rfl, ?_⟩⟩
  · exact List.nodup_append.mpr ⟨R.nodup, by simp, fun x hx y hy => by
      simp only [List.mem_singleton] at hy; subst hy; intro q; exact hna (q ▸ hx)⟩
  · intro b hb'
    rcases List.mem_append.mp hb' with q | q
    · exact R.fresh b q
    · simp only [List.mem_singleton] at q; subst q; exact hb
  · rcases List.mem_append.mp hy with q | q
    · exact R.small ys q
    · simp only [List.mem_singleton] at q; rw [q]; exact hz
  · rcases Nat.lt_or_ge k φ.length with q | q
    · rw [List.getElem?_append_left q] at e
      obtain ⟨ws, m, ys, h1, h2, h3⟩ := R.lists k b e
      exact ⟨ws, m, ys, h1, by rw [List.getElem?_append_left (by have := R.len; lia)]; exact h2, mono h3⟩
    · rw [List.getElem?_append_right q] at e
      have hk0 : k = φ.length := by
        rcases Nat.lt_or_ge φ.length k with z | z
        · rw [List.getElem?_eq_none (by simp; lia)] at e; cases e
        · lia
      subst hk0
      simp only [Nat.sub_self, List.getElem?_cons_zero, Option.some.injEq] at e
      subst e
      refine ⟨vs, n, xs, ha, ?_, mono hr⟩
      rw [R.len, List.getElem?_append_right (Nat.le_refl _)]; simp
  · rw [← R.len, List.getElem?_append_right (Nat.le_refl _)]; simp

theorem Step.adopt {ow : List Addr} {s₀ s : Shared} {a : Addr} (st : Step ow φ₀ φ s₀ s) (hn : s₀.heap.get? a = none) : Step ow φ₀ (φ ++ [a]) s₀ s :=
  ⟨st.pre.trans (List.prefix_append _ _), fun b hb hb' => by
    rcases List.mem_append.mp hb with q | q
    · exact st.new b q hb'
    · simp only [List.mem_singleton] at q; rw [q]; exact hn, st.evo, st.live, st.same⟩

/-- a list turned leaves the frame -/
theorem EnvR.butD {sc : Scope} {env : Env} {Γ : List Str} {m : Loc} {h' : Heap} {d : Addr} {xs : Array Value} {n : Nat} (W : EnvR base φ sc env Γ m h) (hd : h.get? d = some ⟨.type "list", none, .seq xs n, #[]⟩) (hk : ∀ b o, b ≠ d → h.get? b = some o → h'.get? b = some o) : EnvR base φ sc env Γ m h' := by
  have nt : ∀ o, h.get? d = some o → ¬ TupObj o := fun o e c1 => by rw [hd] at e; cases e; exact c1.not_list rfl
  have cell : ∀ {c : Addr} {v : Option Value}, h.IsCell c v → h'.IsCell c v := fun {c v} ⟨o, ho, hd'⟩ => by
    refine ⟨o, hk c o (fun q => ?_) ho, hd'⟩
    rw [q, hd] at ho; cases ho; cases hd'
  obtain ⟨mm, hn, hm⟩ := W.ns
  refine ⟨W.kind, W.glob, W.blt, W.len, W.kinds, W.fresh, ⟨mm, ?_, fun x i v h1 h2 h3 => ?_⟩, fun p e => ?_, fun x i v h1 h2 h3 => ?_, W.inj, W.has⟩
  · obtain ⟨o, es, ep, ho, hd', r⟩ := hn
    refine ⟨o, es, ep, hk _ _ (fun q => ?_) ho, hd', r⟩
    rw [q, hd] at ho; cases ho; cases hd'
  · obtain ⟨w, e, r⟩ := hm x i v h1 h2 h3
    exact ⟨w, e, r.but hk nt⟩
  · obtain ⟨h1, v, hv⟩ := W.cellat p e
    exact ⟨h1, v, cell hv⟩
  · obtain ⟨c, w, e, hc, r⟩ := W.cellv x i v h1 h2 h3
    exact ⟨c, w, e, cell hc, r.but hk nt⟩

theorem old_none {ow : List Addr} {s₀ s : Shared} (st : Step ow φ₀ φ s₀ s) {a : Addr} (h : s.heap.get? a = none) : s₀.heap.get? a = none := by
  cases q : s₀.heap.get? a with
  | none => rfl
  | some o => have := st.live a (by rw [q]; rfl); rw [h] at this; cases this
end

section
variable {prog : Program} {w : World} {base : Heap} {D : Tabs} {T : Nat → Option Fn} {mg mb : Str → Option Value} {C : Calls} {A : Around} {sc csc : Scope} {Γ : List Str} {env : Env}

theorem append_d {s : Shared} {d : Addr} {vs : List Value} {k : Nat} {x : Value} {Q : Value → Shared → Prop} {E : Value → Shared → Prop} (hd : s.heap.get? d = some ⟨.type "list", none, .seq vs.toArray k, #[]⟩)
    (hQ : ∀ h' k', h'.get? d = some ⟨.type "list", none, .seq (vs ++ [x]).toArray k', #[]⟩ → Heap.SameBut d s.heap h' → Q .none { s with heap := h' }) (hsz : vs.toArray.size ≤ sizeLine) :
    wpAny (model prog w) A (call (.builtin "list.append") [.ref d, x]) Q E s := by
  refine wpAny_call_entry slot_list_append (T := "list") ⟨_, hd, rfl⟩ entry_list_append ?_ (args_list_append _ _)
  show wpAny _ _ (updateSeq d (·.push x) >>= fun _ => ret .none) _ _ s
  refine wpAny_bind (wpAny_updateSeq hd rfl (wpAny_pure ⟨.none, rfl, hQ _ (k + 1) ?_ (Heap.SameBut.update ..)⟩))
  rw [Heap.get?_update_self _ hd (by rfl)]
  simp [Obj.mapSeq]

/-- the tests of a comprehension -/
theorem comp_tests {ifs : List Expr} {cx : X} {Γ' : List Str} {cenv : Env} (hc : cIf D csc Γ' ifs = some cx) (IH : ∀ e ∈ ifs, ∀ x, cE D csc Γ' e = some x → ST prog w base C A e x csc Γ' cenv)
    {m : Loc} {φ : List Addr} {H : Hp} {s : Shared} {P : PV} {Q : Bool → Shared → Prop} {E : Value → Shared → Prop} (R : Rel base φ H s.heap) (W : EnvR base φ csc cenv Γ' m s.heap) (hw : wpE C cx m H P)
    (K : ∀ v b φ' H' s', P v H' → truth v = some b → Step [] φ φ' s s' → Rel base φ' H' s'.heap → Q b s') (hb : ∀ v H', P v H' → ∃ b, truth v = some b) :
    wpAny (model prog w) A (forIn ifs true fun c r => if r = true then do let ok ← isTrue c cenv (eval c cenv); pure (ForInStep.yield ok) else pure (ForInStep.yield r)) Q E s := by
  cases ifs with
  | nil =>
    rw [cIf_nil] at hc; cases hc
    simp only [ZF, ZE, ZM, ZO, ZD, ZH, Yb, ZN, Zu, ZS, ZP, ZZ, ZQ, ZA, ZC, ZT, Zt, ZB, Zs] at hw
    exact wpAny_tests_nil (K _ true φ H s hw rfl (Step.refl _ _ _) R)
  | cons c r =>
    cases r with
    | nil =>
      rw [cIf_one] at hc
      exact wpAny_tests_one (IH c (by simp) cx hc m φ H s P Q E R W hw K hb)
    | cons _ _ => rw [cIf_two] at hc; cases hc

set_option tactic.hygienic true
/-- a comprehension of one name -/
theorem comp_core (G : Ground base D T mg mb) {elt iter : Expr} {x : Str} {px pos pos' : Pos} {ifs : List Expr} {ix ex cx : X} {use : Option (Value → Sem Unit)}
    (hh : A.handled = none ∨ ((itOf ix).1 = .range ∧ Calm A base)) (hci : cE D sc Γ iter = some ix) (hne : (itOf ix).1 ≠ .enum) (hok : okComp sc csc = true) (hown : okOwn csc Γ [x] = true) (hx : isOwn csc x = true) (hcc : cIf D csc (x :: Γ) ifs = some cx) (hce : cE D csc (x :: Γ) elt = some ex)
    (IHi : ∀ e', Part e' iter → ∀ y, cE D sc Γ e' = some y → SE prog w base C A e' y sc Γ env)
    (IHe : ∀ cenv, SE prog w base C A elt ex csc (x :: Γ) cenv) (IHc : ∀ cenv, ∀ e ∈ ifs, ∀ y, cE D csc (x :: Γ) e = some y → ST prog w base C A e y csc (x :: Γ) cenv)
    {m : Loc} {φ : List Addr} {H : Hp} {s : Shared} {P : PV} {Q : Value → Shared → Prop} {E : Value → Shared → Prop} (R : Rel base φ H s.heap) (W : EnvR base φ sc env Γ m s.heap)
    (hw : wpE C (.comp ex 1 (itOf ix).1 (itOf ix).2.1 (itOf ix).2.2 cx) m H P)
    (K : ∀ (d c : Addr) (φ' : List Addr) (H' : Hp) (s' : Shared) (acc : List V), P (.ref H'.length) (H' ++ [acc]) → Step [] φ (φ' ++ [d]) s s' → Rel base (φ' ++ [d]) (H' ++ [acc]) s'.heap → Rep base (φ' ++ [d]) s'.heap (.ref H'.length) (.ref d) →
      (∃ mm, s'.heap.Ns c mm) → s.heap.get? c = none → base.get? c = none → c ∉ φ' ++ [d] → compPost (model prog w) A E use Q (.ref d) c (.ok .next) s') :
    wpAny (model prog w) A (comprehension (.ListComp elt [⟨.Name x px, iter, ifs, 0⟩] csc pos) csc env pos' (newList []) false (eval iter env) use) Q E s := by
  have hsc : okScope csc = true := by unfold okComp at hok; simp only [Bool.and_eq_true] at hok; exact hok.1
  have hnotset : ∀ y, foldedSetIterable iter env y = pure y := fun y => by
    exact cE_elim (M := fun e _ => foldedSetIterable e env y = pure y) (by intros; rfl) (by intros; rfl) (by intros; rfl) (by intros; rfl) (by intros; rfl) (by intros; rfl) (by intros; rfl) (by intros; rfl) (by intros; rfl) (by intros; rfl) (by intros; rfl) (by intros; rfl) (by intros; rfl) (by intros; rfl) _ _ hci
  refine wpAny_comprehension_free (cl := clOf env csc.names []) rfl hnotset (closureFor_eq (comp_free W hok)) (okScope_kind hsc) (fun p hp hl => by rw [okScope_once hsc hp, hl]) ?_
  simp only [ZF, ZE, ZM, ZO, ZD, ZH, Yb, ZN, Zu, ZS, ZP, ZZ, ZQ, ZA, ZC, ZT, Zt, ZB, Zs] at hw
  refine source G (tg := .Name x px) hh ⟨fun q => absurd q hne, fun _ => ⟨x, px, rfl⟩⟩ hci IHi R W
    (P := fun vs src H' => wpComp (fun v H P => wpE C cx (m ++ [some v]) H P) (fun v H P => wpE C ex (m ++ [some v]) H P) src vs [] H' P)
    (by exact hw) fun vs src φ₁ H₁ s₁ I wr St Mid hp st₁ R₁ Wk st0 hwr hz => ?_
  -- the list that is filled
  refine wpAny_newList ?_ (by simp [sizeLine])
  have kp₂ : ∀ a o, s₁.heap.get? a = some o → (s₁.heap.push { cls := .type "list", data := .seq ([] : List Value).toArray }).get? a = some o := fun a o e => Heap.get?_push_of_some _ e
  have W₁ := W.step R st₁
  have R₂ := R₁.grow kp₂
  have st₂ : Step [] φ₁ φ₁ s₁ { s₁ with heap := s₁.heap.push { cls := .type "list", data := .seq ([] : List Value).toArray } } := Step.grow (tk := s₁.toks) kp₂
  have W₂ := W₁.step R₁ st₂
  refine comp_env hok W₂ R₂ [x] hown (by simpa using hx) fun cenv s₃ kp₃ st₃ R₃ W₃ _ hC hcell => ?_
  have hnC : s.heap.get? cenv.locals = none := old_none (st₁.trans st₂) hC
  have hnD : s₁.heap.get? s₁.heap.objs.size = none := get_size _
  have hd3 : s₃.heap.get? s₁.heap.objs.size = some ⟨.type "list", none, .seq ([] : List Value).toArray 0, #[]⟩ := kp₃ _ _ (Heap.get?_push_size _ rfl)
  generalize hdd : s₁.heap.objs.size = d at hnD hd3 ⊢
  generalize hce' : ({ cenv with scope := relabel csc env } : Env) = ce at W₃ hcell ⊢
  have hcl : ce.locals = cenv.locals := by rw [← hce']
  have hcells : ce.cells = cenv.cells := by rw [← hce']
  have hns : s.heap.get? d = none := old_none st₁ hnD
  have sl : slot (x :: Γ) x = some m.length := by simp [slot, W.len]
  -- the loop
  let Inv : Nat → Shared → Prop := fun n t => Ex7 fun (i : Nat) (φ' : List Addr) (H' : Hp) (acc : List V) (ys : List Value) (k : Nat) (y : Option V) => And11 (n = vs.length - i) (i ≤ vs.length) (St i φ' t.heap) (Rel base φ' H' t.heap) (EnvR base φ' csc ce (x :: Γ) (m ++ [y]) t.heap) (t.heap.get? d = some ⟨.type "list", none, .seq ys.toArray k, #[]⟩) (RepL base φ' t.heap acc ys) (acc.length ≤ i) (d ∉ φ') (Step [] φ φ' s t) (wpComp (fun v H P => wpE C cx (m ++ [some v]) H P) (fun v H P => wpE C ex (m ++ [some v]) H P) src (vs.drop i) acc H' P)
  let NB : Value → Shared → Prop := notedBy (model prog w) A ce fun e s' => compPost (model prog w) A E use Q (.ref d) cenv.locals (.error e) s'
  have turn : ∀ n t, Inv n t → wpAny (model prog w) A (pyNext (.ref I)) (fun r s₁ => match r with
      | none => compPost (model prog w) A E use Q (.ref d) cenv.locals (.ok .next) s₁
      | some v => wpAny (model prog w) A (assign (.Name x px) ce v) (fun _ s₂ => wpAny (model prog w) A (forIn ifs true fun c r => if r = true then do let ok ← isTrue c ce (eval c ce); pure (ForInStep.yield ok) else pure (ForInStep.yield r))
          (fun ok s₃ => if ok = true then wpAny (model prog w) A (eval elt ce) (fun x s₄ => wpAny (model prog w) A (call (.builtin "list.append") [.ref d, x]) (fun _ s₅ => ∃ m, m < n ∧ Inv m s₅) NB s₄) NB s₃
            else ∃ m, m < n ∧ Inv m s₃) NB s₂) NB s₁)
      NB t := by
    rintro n t ⟨i, φ', H', acc, ys, k, y, rfl, hi, hst, Rt, Wt, hdt, hacc, hal, hdn, sst, hwc⟩
    have hF : Fields wr t.heap := Wk.fields hst
    have hdw : d ∉ wr := fun q => by
      obtain ⟨fs, h2⟩ := hF d q _ hdt; cases h2
    have hwb : ∀ b ∈ wr, base.get? b = none := fun b hb => R.out (hwr b hb)
    cases hdr : vs.drop i with
    | nil =>
      cases drop_end hdr hi
      rw [hdr] at hwc
      obtain ⟨hstill, hP⟩ := hwc
      refine Wk.done t φ' H' _ _ hst Rt hstill fun h' tk hk => ?_
      have R4 := Rt.butL hF hwb hk
      have W4 := Wt.butL hF hk
      have hd4 : h'.get? d = some ⟨.type "list", none, .seq ys.toArray k, #[]⟩ := hk _ _ hdw hdt
      have ha4 : RepL base φ' h' acc ys := RepL.mono (List.prefix_refl _) (fun c o e c' => hk c o (hF.tup e c') e) _ _ hacc
      obtain ⟨R5, r5⟩ := R4.adopt hdn (R.out hns) hd4 ha4 (by lia)
      have st4 : Step [] φ φ' s { t with heap := h', toks := tk } := sst.skip hwr hk ⟨_, _, rfl⟩
      obtain ⟨mm, hn4, _⟩ := W4.ns
      refine K d cenv.locals φ' H' _ acc hP (st4.adopt hns) R5 r5 ⟨mm, hcl ▸ hn4⟩ hnC (R.out hnC) fun q => ?_
      rcases List.mem_append.mp q with q | q
      · exact R4.ns_not hn4 (hcl ▸ q)
      · simp only [List.mem_singleton] at q
        obtain ⟨o, es, ep, ho, hd', _⟩ := hn4
        rw [hcl, q, hd4] at ho; cases ho; cases hd'
    | cons v rest =>
      obtain ⟨hv, hrest, hil⟩ := drop_at hdr
      rw [hdr] at hwc
      obtain ⟨hstill, hcond⟩ := hwc
      refine Wk.next i v t φ' H' _ _ hv hst Rt hstill fun xv h' tk hmid rv hk => ?_
      have hst' := Wk.mid ⟨x, px, rfl⟩ i xv φ' h' hmid
      have R4 := Rt.butL hF hwb hk
      have W4 := Wt.butL hF hk
      have hd4 : h'.get? d = some ⟨.type "list", none, .seq ys.toArray k, #[]⟩ := hk _ _ hdw hdt
      have ha4 : RepL base φ' h' acc ys := RepL.mono (List.prefix_refl _) (fun c o e c' => hk c o (hF.tup e c') e) _ _ hacc
      have st4 : Step [] φ φ' s { t with heap := h', toks := tk } := sst.skip hwr hk ⟨_, _, rfl⟩
      refine wpAny_assign_Name (EnvR.store (s := { t with heap := h', toks := tk }) W4 R4 hx sl rv fun s5 a ha st5 kp5 R5 W5 => ?_)
      have hset : (m ++ [y]).set m.length (some v) = m ++ [some v] := by simp
      rw [hset] at W5
      have hna : s.heap.get? a = none := by
        rcases ha with rfl | ⟨h1, h2⟩
        · rw [hcl]; exact hnC
        · exact old_none (st₁.trans st₂) (hcell x (by simp) a h1 (hcells ▸ h2))
      have a_obj : ∀ o, h'.get? a = some o → (∃ es ep, o.data = .dict es ep) ∨ ∃ v, o.data = .cell v := fun o e => by
        rcases ha with rfl | ⟨h1, h2⟩
        · obtain ⟨mm, ⟨o', es, ep, ho, hd', _⟩, _⟩ := W4.ns
          rw [e] at ho; cases ho; exact .inl ⟨es, ep, hd'⟩
        · obtain ⟨_, v, o', ho, hd'⟩ := W4.cellat (x, a) (mem_of_lookup h2)
          rw [e] at ho; cases ho; exact .inr ⟨v, hd'⟩
      have a_not : ∀ o, h'.get? a = some o → ¬ TupObj o := fun o e => by
        rcases ha with rfl | ⟨h1, h2⟩
        · obtain ⟨mm, hn, _⟩ := W4.ns
          exact ns_not_tup hn o e
        · obtain ⟨_, v, hv⟩ := W4.cellat (x, a) (mem_of_lookup h2)
          exact cell_not_tup hv o e
      have hda : d ≠ a := fun q => by
        rcases a_obj _ (q ▸ hd4) with ⟨_, _, z⟩ | ⟨_, z⟩ <;> cases z
      have hd5 := kp5 _ _ hda hd4
      have tup5 : ∀ b o, h'.get? b = some o → TupObj o → s5.heap.get? b = some o := fun b o e c1 => kp5 b o (fun q => by
        subst q
        exact a_not o e c1) e
      have ha5 : RepL base φ' s5.heap acc ys := RepL.mono (List.prefix_refl _) tup5 _ _ ha4
      have st5' : Step [] φ φ' s s5 := st4.skip (wr := [a]) (by simpa using hna) (fun b o hb e => kp5 b o (by simpa using hb) e) st5.same
      have hst5 : St (i + 1) φ' s5.heap := Wk.frame (i + 1) φ' φ' h' s5.heap hst' (List.prefix_refl _) (fun b o fs hb e hd' => kp5 b o (fun q => by
        subst q
        rcases a_obj _ e with ⟨_, _, z⟩ | ⟨_, z⟩ <;> (rw [hd'] at z; cases z)) e) tup5
      -- the tests
      refine comp_tests hcc (IHc ce) R5 W5 (P := fun c H₁ => match truth c with
        | some true => wpE C ex (m ++ [some v]) H₁ fun y H₂ => wpComp (fun v H P => wpE C cx (m ++ [some v]) H P) (fun v H P => wpE C ex (m ++ [some v]) H P) src rest (acc ++ [y]) H₂ P
        | some false => wpComp (fun v H P => wpE C cx (m ++ [some v]) H P) (fun v H P => wpE C ex (m ++ [some v]) H P) src rest acc H₁ P
        | none => False) hcond (fun c b φ6 H6 s6 hp6 hb6 st6 R6 => ?_) (fun c H' hp' => by
          cases q : truth c with
          | none => rw [q] at hp'; exact hp'.elim
          | some b => exact ⟨b, rfl⟩)
      have W6 := W5.step R5 st6
      have hdn5 : d ∉ φ' := hdn
      have hd6 := st6.evo d _ hd5 hdn5 List.not_mem_nil
      have hdn6 : d ∉ φ6 := fun q => nomatch (hd5.symm.trans (st6.new d q hdn5))
      have ha6 := R5.monoL st6 ha5
      have hst6 : St (i + 1) φ6 s6.heap := Wk.after hst5 R5 st6
      rw [hb6] at hp6
      cases b with
      | false =>
        show ∃ m, m < _ ∧ Inv m _
        refine ⟨vs.length - (i + 1), Nat.sub_succ_lt_self _ _ hil, i + 1, φ6, H6, acc, ys, k, some v, rfl, hil, hst6, R6, W6, hd6, ha6, Nat.le_succ_of_le hal, hdn6, st5'.trans st6, ?_⟩
        rw [hrest]; exact hp6
      | true =>
        refine IHe ce (m ++ [some v]) φ6 H6 s6 _ _ _ R6 W6 hp6 fun z zv φ7 H7 s7 hp7 st7 R7 rz => ?_
        have W7 := W6.step R6 st7
        have hd7 := st7.evo d _ hd6 hdn6 List.not_mem_nil
        have hdn7 : d ∉ φ7 := fun q => nomatch (hd6.symm.trans (st7.new d q hdn6))
        have ha7 := R6.monoL st7 ha6
        have hst7 : St (i + 1) φ7 s7.heap := Wk.after hst6 R6 st7
        refine append_d (vs := ys) hd7 (fun h8 k8 hd8 hs8 => ?_) (by have := hacc.length; simp only [List.size_toArray, sizeLine]; unfold room at hz; lia)
        have nt : ∀ o, s7.heap.get? d = some o → ¬ TupObj o := fun o e c1 => by rw [hd7] at e; cases e; exact c1.not_list rfl
        have R8 := R7.but (h' := h8) hdn7 (R.out hns) hs8.extBut nt
        refine ⟨vs.length - (i + 1), Nat.sub_succ_lt_self _ _ hil, i + 1, φ7, H7, acc ++ [z], ys ++ [zv], k8, some v, rfl, hil, ?_, R8, ?_, hd8, ?_, by rw [List.length_append]; exact Nat.succ_le_succ hal, hdn7, ?_, by rw [hrest]; exact hp7⟩
        · exact Wk.frame (i + 1) φ7 φ7 s7.heap h8 hst7 (List.prefix_refl _) (fun b o fs hb e hd' => hs8.extBut b o (fun q => by subst q; rw [hd7] at e; cases e; cases hd') e) (fun b o e z => hs8.extBut b o (fun q => nt o (q ▸ e) z) e)
        · exact W7.butD hd7 hs8.extBut
        · exact RepL.append (RepL.mono (List.prefix_refl _) (fun b o e z => hs8.extBut b o (fun q => nt o (q ▸ e) z) e) _ _ ha7) ⟨zv, [], rfl, rz.but hs8.extBut nt, rfl⟩
        · exact ((st5'.trans st6).trans st7).skip (wr := [d]) (by simpa using hns) (fun b o hb e => hs8.extBut b o (by simpa using hb) e) ⟨_, _, rfl⟩
  have start : Inv vs.length s₃ := by
    refine ⟨0, φ₁, H₁, [], [], 0, none, by simp, Nat.zero_le _, ?_, R₃, by simpa using W₃, hd3, rfl, Nat.le_refl _, ?_, (st₁.trans st₂).trans st₃, by simpa using hp⟩
    · exact Wk.frame 0 φ₁ φ₁ s₁.heap s₃.heap st0 (List.prefix_refl _) (fun b o fs _ e _ => kp₃ _ _ (kp₂ _ _ e)) (fun b o e _ => kp₃ _ _ (kp₂ _ _ e))
    · exact R₁.none_not hnD
  have hloop : codeAny (model prog w) A (.compLoop (.ListComp elt [⟨.Name x px, iter, ifs, 0⟩] csc pos) 0 (.ref I) (.ref d) ce) (compPost (model prog w) A E use Q (.ref d) cenv.locals) s₃ :=
    codeAny_compLoop_tests Inv turn vs.length start
  refine codeAny_compStart_list hloop (Wk.self s₃ φ₁ _ _ ?_ hloop)
  exact Wk.frame 0 φ₁ φ₁ s₁.heap s₃.heap st0 (List.prefix_refl _) (fun b o fs _ e _ => kp₃ _ _ (kp₂ _ _ e)) (fun b o e _ => kp₃ _ _ (kp₂ _ _ e))
set_option tactic.hygienic false

end
end Mine

open PySem
namespace Mine

section
variable {prog : Program} {w : World} {base : Heap} {D : Tabs} {T : Nat → Option Fn} {mg mb : Str → Option Value} {C : Calls} {A : Around} {sc : Scope} {Γ : List Str} {env : Env}

/-- a value as a test -/
theorem st_of_se {e : Expr} {x : X} (h : SE prog w base C A e x sc Γ env) (he : ∀ whole, isTrue e env whole = (do let v ← whole; standAt e.pos; holding [v] (truthy v))) : ST prog w base C A e x sc Γ env :=
  fun m φ H s P Q E R W hw K hb => wpAny_isTrue_value (h m φ H s P _ E R W hw fun v x φ' H' s' hp st R' r => by
    obtain ⟨b, e⟩ := hb v H' hp
    exact truth_sound r e (K v b φ' H' s' hp e st R')) (he _)

set_option tactic.hygienic true
theorem se_name (G : Ground base D T mg mb) {y : Str} {p : Pos} {x : X} (hc : cName D sc Γ y = some x) : SE prog w base C A (.Name y p) x sc Γ env := fun m φ H s P Q E R W hw K => by
  unfold cName at hc
  split at hc
  · cases hc
  · rename_i hn
    simp only [Bool.or_eq_true, not_or, Bool.not_eq_true] at hn
    split at hc
    · rename_i hv
      simp only [Option.map_eq_some_iff] at hc
      obtain ⟨i, hi, rfl⟩ := hc
      simp only [ZF, ZE, ZM, ZO, ZD, ZH, Yb, ZN, Zu, ZS, ZP, ZZ, ZQ, ZA, ZC, ZT, Zt, ZB, Zs] at hw
      split at hw
      · rename_i v hm
        exact wpAny_Name (W.load hv hn.2 hi hm fun x r => K.here R hw r) hn.1
      · exact hw.elim
    · split at hc
      · rename_i hg
        split at hc
        · rename_i i hi
          cases hc
          simp only [ZF, ZE, ZM, ZO, ZD, ZH, Yb, ZN, Zu, ZS, ZP, ZZ, ZQ, ZA, ZC, ZT, Zt, ZB, Zs] at hw
          obtain ⟨t, ht⟩ := G.const y i hi
          exact glob_name G R W hg hn.1 ht (K.here R hw ⟨t, rfl⟩)
        · cases hc
          simp only [ZF, ZE, ZM, ZO, ZD, ZH, Yb, ZN, Zu, ZS, ZP, ZZ, ZQ, ZA, ZC, ZT, Zt, ZB, Zs] at hw
      · cases hc
set_option tactic.hygienic false

theorem se_bin {l r : Expr} {op : Operator} {o : B} {a b : X} {pos : Pos} (ho : opOf op = some o) (hl : SE prog w base C A l a sc Γ env) (hr : SE prog w base C A r b sc Γ env) : SE prog w base C A (.BinOp l op r pos) (.bin o a b) sc Γ env :=
  fun m φ H s P Q E R W hw K => by
    simp only [ZF, ZE, ZM, ZO, ZD, ZH, Yb, ZN, Zu, ZS, ZP, ZZ, ZQ, ZA, ZC, ZT, Zt, ZB, Zs] at hw
    refine wpAny_BinOp (hl m φ H s _ _ E R W hw fun v x φ₁ H₁ s₁ hp st₁ R₁ rv => ?_)
    refine hr m φ₁ H₁ s₁ _ _ E R₁ (W.step R st₁) hp fun u y φ₂ H₂ s₂ hp₂ st₂ R₂ ru => ?_
    exact soundA ho R₂ (R₁.mono st₂ rv) ru hp₂ (K.after (st₁.trans st₂))

theorem se_cmp (hu : A.units + 64 < cLine) {l r : Expr} {op : CmpOp} {a b : X} {pos : Pos} (hm : behindInMarks op r = false) (hl : SE prog w base C A l a sc Γ env) (hr : SE prog w base C A r b sc Γ env) :
    SE prog w base C A (.Compare l [op] [r] pos) (.bin (cmpOf op) a b) sc Γ env ∧ ST prog w base C A (.Compare l [op] [r] pos) (.bin (cmpOf op) a b) sc Γ env :=
  ⟨fun m φ H s P Q E R W hw K => by
    simp only [ZF, ZE, ZM, ZO, ZD, ZH, Yb, ZN, Zu, ZS, ZP, ZZ, ZQ, ZA, ZC, ZT, Zt, ZB, Zs] at hw
    refine wpAny_Compare1 (hl m φ H s _ _ E R W hw fun v x φ₁ H₁ s₁ hp st₁ R₁ rv => ?_) hm
    refine hr m φ₁ H₁ s₁ _ _ E R₁ (W.step R st₁) hp fun u y φ₂ H₂ s₂ hp₂ st₂ R₂ ru => ?_
    exact soundCmp hu R₂ (R₁.mono st₂ rv) ru hp₂ (K.after (st₁.trans st₂)),
  fun m φ H s P Q E R W hw K hb => by
    simp only [ZF, ZE, ZM, ZO, ZD, ZH, Yb, ZN, Zu, ZS, ZP, ZZ, ZQ, ZA, ZC, ZT, Zt, ZB, Zs] at hw
    refine wpAny_isTrue_Compare1 (hl m φ H s _ _ E R W hw fun v x φ₁ H₁ s₁ hp st₁ R₁ rv => ?_) hm
    refine hr m φ₁ H₁ s₁ _ _ E R₁ (W.step R st₁) hp fun u y φ₂ H₂ s₂ hp₂ st₂ R₂ ru => ?_
    refine soundCmp hu R₂ (R₁.mono st₂ rv) ru hp₂ fun c z φ₃ H₃ s₃ hp₃ st₃ R₃ rz => ?_
    obtain ⟨b, e⟩ := hb c H₃ hp₃
    exact truth_sound rz e (K c b φ₃ H₃ s₃ hp₃ e ((st₁.trans st₂).trans st₃) R₃)⟩

theorem se_chain (hu : A.units + 64 < cLine) {l r₁ r₂ : Expr} {op₁ op₂ : CmpOp} {a b c : X} {pos : Pos} (hm : behindInMarks op₂ r₂ = false) (hl : SE prog w base C A l a sc Γ env) (h1 : SE prog w base C A r₁ b sc Γ env) (h2 : SE prog w base C A r₂ c sc Γ env) :
    SE prog w base C A (.Compare l [op₁, op₂] [r₁, r₂] pos) (.chain (cmpOf op₁) (cmpOf op₂) a b c) sc Γ env ∧ ST prog w base C A (.Compare l [op₁, op₂] [r₁, r₂] pos) (.chain (cmpOf op₁) (cmpOf op₂) a b c) sc Γ env :=
  ⟨fun m φ H s P Q E R W hw K => by
    simp only [ZF, ZE, ZM, ZO, ZD, ZH, Yb, ZN, Zu, ZS, ZP, ZZ, ZQ, ZA, ZC, ZT, Zt, ZB, Zs] at hw
    refine PyProof.Rows.Compare_chain (hl m φ H s _ _ E R W hw fun v x φ₁ H₁ s₁ hp st₁ R₁ rv => ?_) hm
    refine PyProof.Rows.chain_link (h1 m φ₁ H₁ s₁ _ _ E R₁ (W.step R st₁) hp fun u y φ₂ H₂ s₂ hp₂ st₂ R₂ ru => ?_)
    refine soundCmp hu R₂ (R₁.mono st₂ rv) ru hp₂ fun t z φ₃ H₃ s₃ hp₃ st₃ R₃ rz => ?_
    cases ht : truth t with
    | none => rw [ht] at hp₃; exact hp₃.elim
    | some bt =>
      rw [ht] at hp₃
      refine truth_sound rz ht ?_
      cases bt with
      | false => exact K.after ((st₁.trans st₂).trans st₃) t z φ₃ H₃ s₃ hp₃ (Step.refl _ _ _) R₃ rz
      | true =>
        simp only [if_true]
        refine PyProof.Rows.chain_last (h2 m φ₃ H₃ s₃ _ _ E R₃ (((W.step R st₁).step R₁ st₂).step R₂ st₃) hp₃ fun k q φ₄ H₄ s₄ hp₄ st₄ R₄ rq => ?_)
        exact soundCmp hu R₄ (R₃.mono st₄ (R₂.mono st₃ ru)) rq hp₄ (K.after (((st₁.trans st₂).trans st₃).trans st₄)),
  fun m φ H s P Q E R W hw K hb => by
    simp only [ZF, ZE, ZM, ZO, ZD, ZH, Yb, ZN, Zu, ZS, ZP, ZZ, ZQ, ZA, ZC, ZT, Zt, ZB, Zs] at hw
    refine PyProof.Rows.isTrue_chain (hl m φ H s _ _ E R W hw fun v x φ₁ H₁ s₁ hp st₁ R₁ rv => ?_) hm
    refine PyProof.Rows.test_link (h1 m φ₁ H₁ s₁ _ _ E R₁ (W.step R st₁) hp fun u y φ₂ H₂ s₂ hp₂ st₂ R₂ ru => ?_)
    refine soundCmp hu R₂ (R₁.mono st₂ rv) ru hp₂ fun t z φ₃ H₃ s₃ hp₃ st₃ R₃ rz => ?_
    cases ht : truth t with
    | none => rw [ht] at hp₃; exact hp₃.elim
    | some bt =>
      rw [ht] at hp₃
      refine truth_sound rz ht ?_
      cases bt with
      | false =>
        refine K t false φ₃ H₃ s₃ hp₃ ht ((st₁.trans st₂).trans st₃) R₃
      | true =>
        simp only [if_true]
        refine PyProof.Rows.test_last (h2 m φ₃ H₃ s₃ _ _ E R₃ (((W.step R st₁).step R₁ st₂).step R₂ st₃) hp₃ fun k q φ₄ H₄ s₄ hp₄ st₄ R₄ rq => ?_)
        refine soundCmp hu R₄ (R₃.mono st₄ (R₂.mono st₃ ru)) rq hp₄ fun c z φ₅ H₅ s₅ hp₅ st₅ R₅ rz => ?_
        obtain ⟨b, e⟩ := hb c H₅ hp₅
        exact truth_sound rz e (K c b φ₅ H₅ s₅ hp₅ e ((((st₁.trans st₂).trans st₃).trans st₄).trans st₅) R₅)⟩

theorem se_not {e : Expr} {a : X} {pos : Pos} (he : SE prog w base C A e a sc Γ env) (ht : ST prog w base C A e a sc Γ env) :
    SE prog w base C A (.UnaryOp .Not e pos) (.not a) sc Γ env ∧ ST prog w base C A (.UnaryOp .Not e pos) (.not a) sc Γ env :=
  ⟨fun m φ H s P Q E R W hw K => by
    simp only [ZF, ZE, ZM, ZO, ZD, ZH, Yb, ZN, Zu, ZS, ZP, ZZ, ZQ, ZA, ZC, ZT, Zt, ZB, Zs] at hw
    refine wpAny_UnaryOp (he m φ H s _ _ E R W hw fun v x φ₁ H₁ s₁ hp st₁ R₁ rv => ?_)
    cases q : truth v with
    | none => rw [q] at hp; exact hp.elim
    | some b => rw [q] at hp; exact not_value (truth_sound rv q ((K.after st₁).here R₁ hp rfl)),
  fun m φ H s P Q E R W hw K hb => by
    simp only [ZF, ZE, ZM, ZO, ZD, ZH, Yb, ZN, Zu, ZS, ZP, ZZ, ZQ, ZA, ZC, ZT, Zt, ZB, Zs] at hw
    refine wpAny_isTrue_Not (ht m φ H s _ _ E R W hw (fun v b φ' H' s' hp hv st R' => ?_) fun v H' hp => ?_)
    · rw [hv] at hp
      exact K (.bool !b) (!b) φ' H' s' hp rfl st R'
    · cases q : truth v with
      | none => rw [q] at hp; exact hp.elim
      | some b => exact ⟨b, rfl⟩⟩

theorem se_ite {t a b : Expr} {xt xa xb : X} {pos : Pos} (ht : ST prog w base C A t xt sc Γ env) (ha : SE prog w base C A a xa sc Γ env ∧ ST prog w base C A a xa sc Γ env) (hb : SE prog w base C A b xb sc Γ env ∧ ST prog w base C A b xb sc Γ env) :
    SE prog w base C A (.IfExp t a b pos) (.ite xt xa xb) sc Γ env ∧ ST prog w base C A (.IfExp t a b pos) (.ite xt xa xb) sc Γ env :=
  ⟨fun m φ H s P Q E R W hw K => by
    simp only [ZF, ZE, ZM, ZO, ZD, ZH, Yb, ZN, Zu, ZS, ZP, ZZ, ZQ, ZA, ZC, ZT, Zt, ZB, Zs] at hw
    refine wpAny_IfExp (ht m φ H s _ _ E R W hw (fun v b φ₁ H₁ s₁ hp hv st R₁ => ?_) fun v H' hp => ?_)
    · rw [hv] at hp
      cases b with
      | true => simp only [if_true]; exact ha.1 m φ₁ H₁ s₁ _ _ E R₁ (W.step R st) hp (K.after st)
      | false => simp only [Bool.false_eq_true, if_false]; exact hb.1 m φ₁ H₁ s₁ _ _ E R₁ (W.step R st) hp (K.after st)
    · cases q : truth v with
      | none => rw [q] at hp; exact hp.elim
      | some b => exact ⟨b, rfl⟩,
  fun m φ H s P Q E R W hw K hbl => by
    simp only [ZF, ZE, ZM, ZO, ZD, ZH, Yb, ZN, Zu, ZS, ZP, ZZ, ZQ, ZA, ZC, ZT, Zt, ZB, Zs] at hw
    show wpAny (model prog w) A (isTrue t env (eval t env) >>= fun c => if c = true then isTrue a env (eval a env) else isTrue b env (eval b env)) Q E s
    refine wpAny_bind (ht m φ H s _ _ E R W hw (fun v c φ₁ H₁ s₁ hp hv st R₁ => ?_) fun v H' hp => ?_)
    · rw [hv] at hp
      cases c with
      | true => simp only [if_true]; exact ha.2 m φ₁ H₁ s₁ _ _ E R₁ (W.step R st) hp (fun v b φ' H' s' h1 h2 h3 h4 => K v b φ' H' s' h1 h2 (st.trans h3) h4) hbl
      | false => simp only [Bool.false_eq_true, if_false]; exact hb.2 m φ₁ H₁ s₁ _ _ E R₁ (W.step R st) hp (fun v b φ' H' s' h1 h2 h3 h4 => K v b φ' H' s' h1 h2 (st.trans h3) h4) hbl
    · cases q : truth v with
      | none => rw [q] at hp; exact hp.elim
      | some b => exact ⟨b, rfl⟩⟩

/-- and, or -/
theorem and_list {pos : Pos} : ∀ (es : List Expr) (b : X), cAnd D sc Γ es = some b → (∀ e ∈ es, ∀ x, cE D sc Γ e = some x → SE prog w base C A e x sc Γ env ∧ ST prog w base C A e x sc Γ env) →
    (∀ (m : Loc) (φ : List Addr) (H : Hp) (s : Shared) (P : PV) (Q : Value → Shared → Prop) (E : Value → Shared → Prop), Rel base φ H s.heap → EnvR base φ sc env Γ m s.heap → wpE C b m H P → Cont base φ s P Q → wpAny (model prog w) A (boolOp pos .And (evalEach es env)) Q E s) ∧
    (∀ (m : Loc) (φ : List Addr) (H : Hp) (s : Shared) (P : PV) (Q : Bool → Shared → Prop) (E : Value → Shared → Prop), Rel base φ H s.heap → EnvR base φ sc env Γ m s.heap → wpE C b m H P →
      (∀ v b φ' H' s', P v H' → truth v = some b → Step [] φ φ' s s' → Rel base φ' H' s'.heap → Q b s') → (∀ v H', P v H' → ∃ b, truth v = some b) → wpAny (model prog w) A (allTrue .And es env) Q E s)
  | [], b, hc, _ => by rw [cAnd_nil] at hc; cases hc
  | [e], b, hc, IH => by
    rw [cAnd_one] at hc
    obtain ⟨h1, h2⟩ := IH e (by simp) b hc
    refine ⟨fun m φ H s P Q E R W hw K => h1 m φ H s P Q E R W hw K, fun m φ H s P Q E R W hw K hb => ?_⟩
    refine wpAny_allTrue_And_cons (h2 m φ H s P _ E R W hw (fun v c φ' H' s' hp hv st R' => ?_) hb)
    cases c with
    | true => simp only [if_true]; exact wpAny_allTrue_And_nil (K v true φ' H' s' hp hv st R')
    | false => simp only [Bool.false_eq_true, if_false]; exact K v false φ' H' s' hp hv st R'
  | e :: e' :: r, b, hc, IH => by
    rw [cAnd_two] at hc
    obtain ⟨x, y, hx, hy, hc⟩ := opt2_some hc
    cases hc
    obtain ⟨h1, h2⟩ := IH e (by simp) x hx
    obtain ⟨g1, g2⟩ := and_list (pos := pos) (e' :: r) y hy fun e he => IH e (List.mem_cons_of_mem _ he)
    refine ⟨fun m φ H s P Q E R W hw K => ?_, fun m φ H s P Q E R W hw K hb => ?_⟩
    · simp only [ZF, ZE, ZM, ZO, ZD, ZH, Yb, ZN, Zu, ZS, ZP, ZZ, ZQ, ZA, ZC, ZT, Zt, ZB, Zs] at hw
      show wpAny (model prog w) A (eval e env >>= fun v => standAt pos >>= fun _ => holding [v] (truthy v) >>= fun t => match BoolOp.And, t with | .And, false | .Or, true => pure v | _, _ => boolOp pos .And (evalEach (e' :: r) env)) Q E s
      refine wpAny_bind (h1 m φ H s _ _ E R W hw fun v xv φ₁ H₁ s₁ hp st R₁ rv => wpAny_bind (wpAny_standAt (wpAny_bind (wpAny_holding ?_))))
      cases q : truth v with
      | none => rw [q] at hp; exact hp.elim
      | some t =>
        rw [q] at hp
        refine truth_sound rv q ?_
        cases t with
        | false => exact wpAny_pure ((K.after st).here R₁ hp rv)
        | true => exact g1 m φ₁ H₁ s₁ _ _ E R₁ (W.step R st) hp (K.after st)
    · simp only [ZF, ZE, ZM, ZO, ZD, ZH, Yb, ZN, Zu, ZS, ZP, ZZ, ZQ, ZA, ZC, ZT, Zt, ZB, Zs] at hw
      refine wpAny_allTrue_And_cons (h2 m φ H s _ _ E R W hw (fun v c φ' H' s' hp hv st R' => ?_) fun v H' hp => ?_)
      · rw [hv] at hp
        cases c with
        | true => simp only [if_true]; exact g2 m φ' H' s' _ _ E R' (W.step R st) hp (fun v b φ'' H'' s'' h1 h2 h3 h4 => K v b φ'' H'' s'' h1 h2 (st.trans h3) h4) hb
        | false => simp only [Bool.false_eq_true, if_false]; exact K v false φ' H' s' hp hv st R'
      · cases q : truth v with
        | none => rw [q] at hp; exact hp.elim
        | some b => exact ⟨b, rfl⟩
theorem or_list {pos : Pos} : ∀ (es : List Expr) (b : X), cOr D sc Γ es = some b → (∀ e ∈ es, ∀ x, cE D sc Γ e = some x → SE prog w base C A e x sc Γ env ∧ ST prog w base C A e x sc Γ env) →
    (∀ (m : Loc) (φ : List Addr) (H : Hp) (s : Shared) (P : PV) (Q : Value → Shared → Prop) (E : Value → Shared → Prop), Rel base φ H s.heap → EnvR base φ sc env Γ m s.heap → wpE C b m H P → Cont base φ s P Q → wpAny (model prog w) A (boolOp pos .Or (evalEach es env)) Q E s) ∧
    (∀ (m : Loc) (φ : List Addr) (H : Hp) (s : Shared) (P : PV) (Q : Bool → Shared → Prop) (E : Value → Shared → Prop), Rel base φ H s.heap → EnvR base φ sc env Γ m s.heap → wpE C b m H P →
      (∀ v b φ' H' s', P v H' → truth v = some b → Step [] φ φ' s s' → Rel base φ' H' s'.heap → Q b s') → (∀ v H', P v H' → ∃ b, truth v = some b) → wpAny (model prog w) A (allTrue .Or es env) Q E s)
  | [], b, hc, _ => by rw [cOr_nil] at hc; cases hc
  | [e], b, hc, IH => by
    rw [cOr_one] at hc
    obtain ⟨h1, h2⟩ := IH e (by simp) b hc
    refine ⟨fun m φ H s P Q E R W hw K => h1 m φ H s P Q E R W hw K, fun m φ H s P Q E R W hw K hb => ?_⟩
    refine wpAny_allTrue_Or_cons (h2 m φ H s P _ E R W hw (fun v c φ' H' s' hp hv st R' => ?_) hb)
    cases c with
    | true => simp only [if_true]; exact K v true φ' H' s' hp hv st R'
    | false => simp only [Bool.false_eq_true, if_false]; exact wpAny_allTrue_Or_nil (K v false φ' H' s' hp hv st R')
  | e :: e' :: r, b, hc, IH => by
    rw [cOr_two] at hc
    obtain ⟨x, y, hx, hy, hc⟩ := opt2_some hc
    cases hc
    obtain ⟨h1, h2⟩ := IH e (by simp) x hx
    obtain ⟨g1, g2⟩ := or_list (pos := pos) (e' :: r) y hy fun e he => IH e (List.mem_cons_of_mem _ he)
    refine ⟨fun m φ H s P Q E R W hw K => ?_, fun m φ H s P Q E R W hw K hb => ?_⟩
    · simp only [ZF, ZE, ZM, ZO, ZD, ZH, Yb, ZN, Zu, ZS, ZP, ZZ, ZQ, ZA, ZC, ZT, Zt, ZB, Zs] at hw
      show wpAny (model prog w) A (eval e env >>= fun v => standAt pos >>= fun _ => holding [v] (truthy v) >>= fun t => match BoolOp.Or, t with | .And, false | .Or, true => pure v | _, _ => boolOp pos .Or (evalEach (e' :: r) env)) Q E s
      refine wpAny_bind (h1 m φ H s _ _ E R W hw fun v xv φ₁ H₁ s₁ hp st R₁ rv => wpAny_bind (wpAny_standAt (wpAny_bind (wpAny_holding ?_))))
      cases q : truth v with
      | none => rw [q] at hp; exact hp.elim
      | some t =>
        rw [q] at hp
        refine truth_sound rv q ?_
        cases t with
        | true => exact wpAny_pure ((K.after st).here R₁ hp rv)
        | false => exact g1 m φ₁ H₁ s₁ _ _ E R₁ (W.step R st) hp (K.after st)
    · simp only [ZF, ZE, ZM, ZO, ZD, ZH, Yb, ZN, Zu, ZS, ZP, ZZ, ZQ, ZA, ZC, ZT, Zt, ZB, Zs] at hw
      refine wpAny_allTrue_Or_cons (h2 m φ H s _ _ E R W hw (fun v c φ' H' s' hp hv st R' => ?_) fun v H' hp => ?_)
      · rw [hv] at hp
        cases c with
        | false => simp only [Bool.false_eq_true, if_false]; exact g2 m φ' H' s' _ _ E R' (W.step R st) hp (fun v b φ'' H'' s'' h1 h2 h3 h4 => K v b φ'' H'' s'' h1 h2 (st.trans h3) h4) hb
        | true => simp only [if_true]; exact K v true φ' H' s' hp hv st R'
      · cases q : truth v with
        | none => rw [q] at hp; exact hp.elim
        | some b => exact ⟨b, rfl⟩

theorem se_list {es : List Expr} {xs : List X} {pos : Pos} (hc : cEs D sc Γ es = some xs) (hz : es.length ≤ 1000) (IH : ∀ e ∈ es, ∀ x, cE D sc Γ e = some x → SE prog w base C A e x sc Γ env) : SE prog w base C A (.List es pos) (.list xs) sc Γ env :=
  fun m φ H s P Q E R W hw K => by
    simp only [ZF, ZE, ZM, ZO, ZD, ZH, Yb, ZN, Zu, ZS, ZP, ZZ, ZQ, ZA, ZC, ZT, Zt, ZB, Zs] at hw
    refine wpAny_List (se_args es xs hc IH m φ H s _ _ E R W hw fun vs ws φ' H' s' hp st R' rv hl => ⟨?_, ?_⟩)
    · have := rv.length; unfold sizeLine; lia
    · exact (K.after st).pushList R' rv (by unfold room; lia) hp
theorem se_tup {es : List Expr} {xs : List X} {k : Nat} {pos : Pos} (hc : cEs D sc Γ es = some xs) (hz : es.length ≤ 1000) (IH : ∀ e ∈ es, ∀ x, cE D sc Γ e = some x → SE prog w base C A e x sc Γ env) : SE prog w base C A (.Tuple es k pos) (.tup xs) sc Γ env :=
  fun m φ H s P Q E R W hw K => by
    simp only [ZF, ZE, ZM, ZO, ZD, ZH, Yb, ZN, Zu, ZS, ZP, ZZ, ZQ, ZA, ZC, ZT, Zt, ZB, Zs] at hw
    refine wpAny_Tuple (se_args es xs hc IH m φ H s _ _ E R W hw fun vs ws φ' H' s' hp st R' rv hl => ⟨?_, ?_⟩)
    · have := rv.length; unfold sizeLine; lia
    · exact (K.after st).pushTup R' rv (by unfold room; lia) hp

theorem se_item {e i : Expr} {a b : X} {pos : Pos} (hs : ∀ o i', subscripted i false o i' = operate [o, i'] (getItem o i')) (he : SE prog w base C A e a sc Γ env) (hi : SE prog w base C A i b sc Γ env) : SE prog w base C A (.Subscript e i pos) (.bin .item a b) sc Γ env :=
  fun m φ H s P Q E R W hw K => by
    simp only [ZF, ZE, ZM, ZO, ZD, ZH, Yb, ZN, Zu, ZS, ZP, ZZ, ZQ, ZA, ZC, ZT, Zt, ZB, Zs] at hw
    refine PyProof.Rows.Subscript_ (he m φ H s _ _ E R W hw fun v x φ₁ H₁ s₁ hp st₁ R₁ rv => ?_)
    refine hi m φ₁ H₁ s₁ _ _ E R₁ (W.step R st₁) hp fun u y φ₂ H₂ s₂ hp₂ st₂ R₂ ru => ?_
    exact sItem hs R₂ (R₁.mono st₂ rv) ru hp₂ (K.after (st₁.trans st₂))

theorem se_part {o : Option Expr} {a : X} (hc : cO D sc Γ o = some a) (IH : ∀ e, o = some e → ∀ x, cE D sc Γ e = some x → SE prog w base C A e x sc Γ env)
    {m : Loc} {φ : List Addr} {H : Hp} {s : Shared} {P : PV} {Q : Value → Shared → Prop} {E : Value → Shared → Prop} (R : Rel base φ H s.heap) (W : EnvR base φ sc env Γ m s.heap) (hw : wpE C a m H P) (K : Cont base φ s P Q) :
    wpAny (model prog w) A (evalPart o env) Q E s := by
  cases o with
  | none =>
    rw [cO_none] at hc; cases hc
    simp only [ZF, ZE, ZM, ZO, ZD, ZH, Yb, ZN, Zu, ZS, ZP, ZZ, ZQ, ZA, ZC, ZT, Zt, ZB, Zs] at hw
    rw [evalPart_none]
    exact wpAny_pure (K.here R hw rfl)
  | some e =>
    rw [evalPart_some]
    exact IH e rfl a hc m φ H s P Q E R W hw K

/-- the front of a tuple -/
theorem applied_upto {s : Shared} {E : Value → Shared → Prop} {sl : Addr} {b n : Nat} {u : Tok} {Q : Int × Int × Nat → Shared → Prop} (hs : s.heap.IsSliceOf sl .none (.int b u) .none) (hb : b ≤ n) (h : Q (0, 1, b) s) :
    wpAny (model prog w) A (Builtin.Slice.sliceApplied (.ref sl) (pure (n : Int))) Q E s := by
  obtain ⟨os, hos, hcs, hds⟩ := id hs
  unfold Builtin.Slice.sliceApplied Builtin.Slice.sliceFields
  refine wpAny_bind (wpAny_bind (wpAny_field hos hds (x := .none) rfl (wpAny_bind (wpAny_field hos hds (x := .int b u) rfl (wpAny_bind (wpAny_field hos hds (x := .none) rfl (wpAny_pure ?_)))))))
  refine wpAny_bind (PyProof.Rows.slicePart_none ?_)
  show wpAny _ _ (if ((1 : Int) == 0) = true then _ else _) _ _ s
  rw [if_neg (by decide)]
  refine wpAny_bind (PyProof.Rows.slicePart_none (wpAny_bind (PyProof.Rows.slicePart_int (wpAny_bind (wpAny_pure ?_)))))
  show wpAny _ _ (match Builtin.Slice.sliceAdjust none (some (b : Int)) 1 (n : Int) with | (lo, hi) => pure (lo, (1 : Int), Builtin.Slice.slicePlaces lo hi 1)) _ _ s
  have e1 : Builtin.Slice.sliceAdjust none (some (b : Int)) 1 (n : Int) = ((0 : Int), (b : Int)) := by
    unfold Builtin.Slice.sliceAdjust
    have h1 : ¬ ((1 : Int) < 0) := by lia
    have h2 : ¬ ((b : Int) < 0) := by lia
    simp only [h1, h2, if_false]
    congr 1
    lia
  rw [e1]
  show wpAny _ _ (pure ((0 : Int), (1 : Int), Builtin.Slice.slicePlaces 0 (b : Int) 1)) _ _ s
  have e2 : Builtin.Slice.slicePlaces 0 (b : Int) 1 = b := by
    unfold Builtin.Slice.slicePlaces
    have h1 : (1 : Int) > 0 := by lia
    simp only [h1, if_true, Int.ediv_one]
    split <;> lia
  rw [e2]
  exact wpAny_pure h
theorem pick_upto (xs : Array Value) (b : Nat) : ((List.range b).filterMap fun (k : Nat) => xs[((0 : Int) + (k : Int) * 1).toNat]?).toArray = (xs.toList.take b).toArray := by
  have e : (fun (k : Nat) => xs[((0 : Int) + (k : Int) * 1).toNat]?) = fun k => xs[k]? := by
    funext k
    have : ((0 : Int) + (k : Int) * 1).toNat = k := by lia
    rw [this]
  rw [e]
  have := pick_run xs 0 b
  rw [List.filterMap_map] at this
  have e2 : ((fun x => xs[x]?) ∘ fun x => 0 + x) = fun k => xs[k]? := funext fun k => by simp
  rw [e2] at this
  rw [this, List.drop_zero]
theorem item_upto {s : Shared} {E : Value → Shared → Prop} {t sl : Addr} {items : Array Value} {b : Nat} {u : Tok} {Q : Value → Shared → Prop} (ht : PyProof.Rows.IsTup s.heap t items) (hs : s.heap.IsSliceOf sl .none (.int b u) .none) (hb : b < items.size)
    (h : Q (.ref s.heap.objs.size) { s with heap := s.heap.push { cls := .type "tuple", data := .seq (items.toList.take b).toArray } }) (hsz : items.size ≤ sizeLine) : wpAny (model prog w) A (getItem (.ref t) (.ref sl)) Q E s := by
  have hdrop : sizeOk (.seq (items.toList.take b).toArray) := by
    show (items.toList.take b).toArray.size ≤ sizeLine
    rw [List.size_toArray, List.length_take, Array.length_toList]
    lia
  obtain ⟨os, hos, hcs, hds⟩ := id hs
  have hTs : s.TypeIs (.ref sl) "slice" := ⟨os, hos, hcs⟩
  unfold getItem
  try with_reducible refine wpAny_holding ?_
  first | refine wpAny_bind (wpAny_pure ?_) | skip
  refine wpAny_bind (wpAny_sequenceKey ht.typeIs (by decide) ?_)
  refine wpAny_bind (wpAny_callSpecial?_slot (name := Str.ofString "__getitem__") ht.typeIs PyProof.Rows.slot_tuple_getitem
    (wpAny_call_entry PyProof.Rows.slot_tuple_getitem ht.typeIs PyProof.Rows.entry_tuple_getitem ?_ (PyProof.Rows.args_tuple_getitem _ _)))
  show wpAny _ _ (Builtin.Tuple.tupleItemsOf (.ref t) >>= _) _ _ s
  refine wpAny_bind (PyProof.Rows.tupleItemsOf_ ht ?_)
  refine wpAny_bind (wpAny_typeOf hTs ?_)
  rw [if_pos (by decide)]
  refine wpAny_bind (applied_upto hs (Nat.le_of_lt hb) ?_)
  have hno : ¬ (((0 : Int) == 0 && (1 : Int) == 1 && b == items.size) = true) := by
    have : (b == items.size) = false := by rw [beq_eq_false_iff_ne]; lia
    rw [this]; simp
  show wpAny _ _ (if ((0 : Int) == 0 && (1 : Int) == 1 && b == items.size) = true then _ else _) _ _ s
  rw [if_neg hno, pick_upto items b]
  first
    | exact wpAny_bind (m := Builtin.Tuple.tupleExact _) (wpAny_newObj_type (wpAny_pure ⟨_, rfl, wpAny_pure h⟩) hdrop)
    | exact wpAny_bind (m := Builtin.Tuple.tupleExact _) (wpAny_newObj_type (wpAny_bind (wpAny_pure (wpAny_pure ⟨_, rfl, wpAny_pure h⟩))) hdrop)
    | exact wpAny_bind (wpAny_bind (m := Builtin.Tuple.tupleExact _) (wpAny_newObj_type (wpAny_pure (wpAny_pure ⟨_, rfl, wpAny_pure h⟩)) hdrop))
    | exact wpAny_bind (wpAny_bind (m := Builtin.Tuple.tupleExact _) (wpAny_newObj_type (wpAny_pure ⟨_, rfl, wpAny_pure h⟩) hdrop))

set_option tactic.hygienic true
theorem se_slice {e : Expr} {lo hi : Option Expr} {a l h : X} {p pos : Pos} (he : SE prog w base C A e a sc Γ env) (hl : cO D sc Γ lo = some l) (hh : cO D sc Γ hi = some h)
    (IHl : ∀ e, lo = some e → ∀ x, cE D sc Γ e = some x → SE prog w base C A e x sc Γ env) (IHh : ∀ e, hi = some e → ∀ x, cE D sc Γ e = some x → SE prog w base C A e x sc Γ env) :
    SE prog w base C A (.Subscript e (.Slice lo hi none p) pos) (.slice a l h) sc Γ env := fun m φ H s P Q E R W hw K => by
  simp only [ZF, ZE, ZM, ZO, ZD, ZH, Yb, ZN, Zu, ZS, ZP, ZZ, ZQ, ZA, ZC, ZT, Zt, ZB, Zs] at hw
  refine PyProof.Rows.Subscript_ (he m φ H s _ _ E R W hw fun v x φ₁ H₁ s₁ hp st₁ R₁ rv => ?_)
  refine wpAny_Slice (se_part hl IHl R₁ (W.step R st₁) hp fun u y φ₂ H₂ s₂ hp₂ st₂ R₂ ru => ?_)
  refine se_part hh IHh R₂ ((W.step R st₁).step R₁ st₂) hp₂ fun t z φ₃ H₃ s₃ hp₃ st₃ R₃ rt => ?_
  rw [evalPart_none]
  refine wpAny_pure ?_
  have rv₃ := R₂.mono st₃ (R₁.mono st₂ rv)
  have ru₃ := R₂.mono st₃ ru
  split at hp₃
  · rename_i k li hi' hlo hhi
    split at hp₃
    · rename_i vs hk
      obtain ⟨d, us, n, rfl, _, hd, hr⟩ := rep_ref R₃ rv₃ hk
      have pl := part_is hlo ru₃
      have ph := part_is hhi rt
      have kp : ∀ b o, s₃.heap.get? b = some o → (s₃.heap.push { cls := .type "slice", data := .fields #[y, z, .none] }).get? b = some o := fun b o e => Heap.get?_push_of_some _ e
      have R₄ := R₃.grow kp
      have hL : (s₃.heap.push { cls := .type "slice", data := .fields #[y, z, .none] }).IsList d us.toArray := ⟨_, kp _ _ hd, rfl, n, rfl⟩
      have hr₄ : RepL base φ₃ (s₃.heap.push { cls := .type "slice", data := .fields #[y, z, .none] }) vs us := RepL.mono (List.prefix_refl _) (fun b o e _ => kp b o e) _ _ hr
      refine PyProof.Rows.tail_any (s := { s₃ with heap := s₃.heap.push { cls := .type "slice", data := .fields #[y, z, .none] } }) hL.typeIs slot_list_getitem.lookup (ops := [.ref s₃.heap.objs.size, .ref d]) ?_ (by rfl)
      have hz := R₃.short hk
      refine wpAny_getItem_list_slice (s := { s₃ with heap := s₃.heap.push { cls := .type "slice", data := .fields #[y, z, .none] } }) hL (Heap.IsSliceOf.new ..) pl ph .none (by simp) ?_ (by have := hr.length; simp only [List.size_toArray, sizeLine]; unfold room at hz; lia)
      obtain ⟨qs, e1, r1⟩ := picked_rep (s := { s₃ with heap := s₃.heap.push { cls := .type "slice", data := .fields #[y, z, .none] } }) (lo := li) (hi := hi') hr₄
      rw [e1]
      refine ((K.after ((st₁.trans st₂).trans st₃)).after (Step.grow (tk := s₃.toks) kp)).pushList R₄ r1 ?_ hp₃
      have := picked_len vs li hi'; lia
    · exact hp₃.elim
  · rename_i vs li hi' hlo hhi
    have kp : ∀ b o, s₃.heap.get? b = some o → (s₃.heap.push { cls := .type "slice", data := .fields #[y, z, .none] }).get? b = some o := fun b o e => Heap.get?_push_of_some _ e
    have R₄ := R₃.grow kp
    obtain ⟨d, us, rfl, hd, hr, hz⟩ := rv₃
    have hl₀ := hr.length
    have hT : PyProof.Rows.IsTup (s₃.heap.push { cls := .type "slice", data := .fields #[y, z, .none] }) d us.toArray := PyProof.Rows.IsTup.keeps hd kp
    have hr₄ : RepL base φ₃ (s₃.heap.push { cls := .type "slice", data := .fields #[y, z, .none] }) vs us := RepL.mono (List.prefix_refl _) (fun b o e _ => kp b o e) _ _ hr
    have hsz : us.toArray.size ≤ sizeLine := by simp only [List.size_toArray, sizeLine]; unfold room at hz; lia
    refine PyProof.Rows.tail_any (s := { s₃ with heap := s₃.heap.push { cls := .type "slice", data := .fields #[y, z, .none] } }) hT.typeIs PyProof.Rows.slot_tuple_getitem.lookup (ops := [.ref s₃.heap.objs.size, .ref d]) ?_ (by rfl)
    have K₄ := (K.after ((st₁.trans st₂).trans st₃)).after (Step.grow (tk := s₃.toks) kp)
    have pl := part_is hlo ru₃
    have ph := part_is hhi rt
    unfold tupSl at hp₃
    split at hp₃
    · obtain ⟨b0, b1, hp₃⟩ := hp₃
      rename_i b
      cases pl
      cases ph with | int i t =>
      obtain ⟨b', rfl⟩ : ∃ b' : Nat, b = b' := ⟨b.toNat, by lia⟩
      refine item_upto (s := { s₃ with heap := s₃.heap.push { cls := .type "slice", data := .fields #[.none, .int b' t, .none] } }) hT (Heap.IsSliceOf.new ..) (by rw [List.size_toArray]; lia) ?_ hsz
      refine K₄.pushTup R₄ (hr₄.take b') (by rw [List.length_take]; lia) hp₃
    · obtain ⟨a0, a1, hp₃⟩ := hp₃
      rename_i a'
      cases ph
      cases pl with | int i t =>
      obtain ⟨b', rfl⟩ : ∃ b' : Nat, a' = b' := ⟨a'.toNat, by lia⟩
      refine PyProof.Rows.getItem_tuple_from (s := { s₃ with heap := s₃.heap.push { cls := .type "slice", data := .fields #[.int b' t, .none, .none] } }) hT (Heap.IsSliceOf.new ..) (by lia) (by rw [List.size_toArray]; lia) ?_ hsz
      refine K₄.pushTup R₄ (hr₄.drop b') (by rw [List.length_drop]; lia) hp₃
    · exact hp₃.elim
  · exact hp₃.elim
set_option tactic.hygienic false

end
end Mine

open PySem
namespace Mine

section
variable {prog : Program} {w : World} {base : Heap} {D : Tabs} {T : Nat → Option Fn} {mg mb : Str → Option Value} {C : Calls} {A : Around} {sc : Scope} {Γ : List Str} {env : Env}

/-- list(reversed(x)) -/
noncomputable def RevSound (prog : Program) (w : World) (base : Heap) (A : Around) : Prop :=
  ∀ (φ : List Addr) (H : Hp) (s : Shared) (v : V) (x : Value) (P : PV) (Q : Value → Shared → Prop) (E : Value → Shared → Prop), Rel base φ H s.heap → Rep base φ s.heap v x → wpU .rev v H P → Cont base φ s P Q → wpAny (model prog w) A (call (.type "reversed") [x]) (fun r s₁ => wpAny (model prog w) A (call (.type "list") [r]) Q E s₁) E s

/-- a comprehension over zip -/
noncomputable def ZipSound (prog : Program) (w : World) (base : Heap) (D : Tabs) (C : Calls) (A : Around) : Prop :=
  ∀ (sc csc : Scope) (Γ : List Str) (env : Env) (elt iter : Expr) (tg : Expr) (xs : List Str) (pos pos' : Pos) (a b ex : X) (use : Option (Value → Sem Unit)), tgts tg = some xs → cE D sc Γ iter = some (.bin .zip a b) → okComp sc csc = true → okOwn csc Γ xs = true → (∀ x ∈ xs, isOwn csc x = true) → xs.length = 2 → cE D csc xs.reverse elt = some ex → (∀ e', sizeOf e' ≤ sizeOf iter → ∀ y, cE D sc Γ e' = some y → SE prog w base C A e' y sc Γ env) → (∀ cenv, SE prog w base C A elt ex csc xs.reverse cenv) → ∀ (m : Loc) (φ : List Addr) (H : Hp) (s : Shared) (P : PV) (Q : Value → Shared → Prop) (E : Value → Shared → Prop), Rel base φ H s.heap → EnvR base φ sc env Γ m s.heap → wpE C (.zcomp ex a b) m H P → (∀ (d c : Addr) (φ' : List Addr) (H' : Hp) (s' : Shared) (acc : List V), P (.ref H'.length) (H' ++ [acc]) → Step [] φ (φ' ++ [d]) s s' → Rel base (φ' ++ [d]) (H' ++ [acc]) s'.heap → Rep base (φ' ++ [d]) s'.heap (.ref H'.length) (.ref d) → (∃ mm, s'.heap.Ns c mm) → s.heap.get? c = none → base.get? c = none → c ∉ φ' ++ [d] → compPost (model prog w) A E use Q (.ref d) c (.ok .next) s') → wpAny (model prog w) A (comprehension (.ListComp elt [⟨tg, iter, [], 0⟩] csc pos) csc env pos' (newList []) false (eval iter env) use) Q E s

/-- a call of a built-in upon one tree -/
theorem call_b1 (G : Ground base D T mg mb) {f : Str} {p pos : Pos} {id : String} {e : Expr} {x : X} (hb : (f, Value.builtin id) ∈ biTab) (hx : isGlob sc f = true) (hd : (f == ("__debug__" : Str)) = false) (hc : cE D sc Γ e = some x)
    {m : Loc} {φ : List Addr} {H : Hp} {s : Shared} {Q : Value → Shared → Prop} {E : Value → Shared → Prop} (R : Rel base φ H s.heap) (W : EnvR base φ sc env Γ m s.heap)
    (h : wpAny (model prog w) A (eval e env) (fun v s₁ => wpAny (model prog w) A (call (.builtin id) [v]) Q E s₁) E s) : wpAny (model prog w) A (eval (.Call (.Name f p) [e] [] pos) env) Q E s := by
  refine wpAny_Call_NameR (blt_name G R W hx hd hb ?_)
  have e1 : backTo pos (starEach [e] env) = [(false, eval e env)] := by rw [not_star hc]; rfl
  rw [e1]
  refine PySem.Calls.callWith_builtin rfl (PySem.Calls.evalArgs_plain ?_)
  rw [← e1]
  exact wpAny_items_cons (wpAny_mono h (fun v s₁ hv => wpAny_items_nil hv) fun _ _ y => y) (not_star hc [])
theorem call_t1 (G : Ground base D T mg mb) {f : Str} {p pos : Pos} {id : String} {e : Expr} {x : X} (hb : (f, Value.type id) ∈ biTab) (hx : isGlob sc f = true) (hd : (f == ("__debug__" : Str)) = false) (hc : cE D sc Γ e = some x)
    {m : Loc} {φ : List Addr} {H : Hp} {s : Shared} {Q : Value → Shared → Prop} {E : Value → Shared → Prop} (R : Rel base φ H s.heap) (W : EnvR base φ sc env Γ m s.heap)
    (h : wpAny (model prog w) A (eval e env) (fun v s₁ => wpAny (model prog w) A (call (.type id) [v]) Q E s₁) E s) : wpAny (model prog w) A (eval (.Call (.Name f p) [e] [] pos) env) Q E s := by
  refine wpAny_Call_NameR (blt_name G R W hx hd hb ?_)
  have e1 : backTo pos (starEach [e] env) = [(false, eval e env)] := by rw [not_star hc]; rfl
  rw [e1]
  refine callWith_type rfl (PySem.Calls.evalArgs_plain ?_)
  rw [← e1]
  exact wpAny_items_cons (wpAny_mono h (fun v s₁ hv => wpAny_items_nil hv) fun _ _ y => y) (not_star hc [])

set_option tactic.hygienic true
/-- the table {1: 2} -/
theorem se_dct (G : Ground base D T mg mb) {k1 k2 : Nat} {p1 p2 p : Pos} : SE prog w base C A (.Dict [some (.Constant (.int 1) k1 p1)] [.Constant (.int 2) k2 p2] p) .dct sc Γ env := fun m φ H s P Q E R W hw K => by
  simp only [we_dct] at hw
  refine wpAny_Dict_pairs (knd := intKind prog w) (pairs := [(eval (.Constant (.int 1) k1 p1) env, do let x ← eval (.Constant (.int 2) k2 p2) env; standAt p; pure x)]) rfl (by simp) (by simp) ?_
  refine evalPairs_cons (wpAny_Constant_int ?_)
  refine wpAny_bind (wpAny_Constant_int (wpAny_bind (wpAny_standAt (wpAny_pure ?_))))
  refine evalPairs_nil ⟨[(1, .int 2 _)], ⟨rfl, rfl, trivial⟩, ?_, fun h' hd hs => ?_⟩
  · exact Heap.DictOf.new s.heap
  · have kp : ∀ b o, s.heap.get? b = some o → h'.get? b = some o := fun b o e => by
      rw [hs.2 b (fun q => by rw [q, get_size] at e; cases e)]
      exact Heap.get?_push_of_some _ e
    obtain ⟨o, es, ep, ho, hx, hdt, _, hp, _⟩ := hd
    refine K.grow (h := h') R kp hw ⟨s.heap.objs.size, o, rfl, fun q => ?_, ho, ?_⟩
    · obtain ⟨o', ho'⟩ := G.sys
      have := R.keep _ _ ho'
      rw [← q, get_size] at this; cases this
    · have hp' : Pairs (intKind prog w) es.toList [(1, .int 2 (s.toks + 1))] := hp
      generalize hes : es.toList = l at hp'
      cases hp' with | cons h1 h2 h3 =>
      cases h3
      rename_i e
      obtain ⟨t, ht⟩ := Value.isInt_shape h1
      obtain ⟨hs, key, val⟩ := e
      simp only at ht h2
      subst ht h2
      have : es = #[⟨hs, .int 1 t, .int 2 (s.toks + 1)⟩] := by
        cases es; simpa using hes
      exact ⟨hx.1, hs, t, _, ep, by rw [hdt, this]⟩
set_option tactic.hygienic false

set_option maxHeartbeats 4000000 in
/-- calls by a name -/
theorem se_call (G : Ground base D T mg mb) (hh : A.handled = none) (hgd : A.guards = some []) (hun : A.units + 64 < cLine) (hC : SoundC prog w base D T C A) (hR : D.revs = true → RevSound prog w base A) {f : Str} {p pos : Pos} {args : List Expr} {as : List X} {x : X}
    (hx : isGlob sc f = true) (hd : (f == ("__debug__" : Str)) = false) (hc : cEs D sc Γ args = some as) (hm : mkCall D f as = some x)
    (IH : ∀ e', sizeOf e' < sizeOf args → ∀ y, cE D sc Γ e' = some y → SE prog w base C A e' y sc Γ env) : SE prog w base C A (.Call (.Name f p) args [] pos) x sc Γ env := fun m φ H s P Q E R W hw K => by
  have IHa : ∀ e ∈ args, ∀ y, cE D sc Γ e = some y → SE prog w base C A e y sc Γ env := fun e he y hy => IH e (List.sizeOf_lt_of_mem he) y hy
  rcases mkCall_cases hm with ⟨k, hk, rfl⟩ | ⟨_, ⟨a, rfl, hq⟩ | ⟨a, b, rfl, hq⟩⟩
  · simp only [ZF, ZE, ZM, ZO, ZD, ZH, Yb, ZN, Zu, ZS, ZP, ZZ, ZQ, ZA, ZC, ZT, Zt, ZB, Zs] at hw
    exact se_call_f G hC hk hx hd hc IHa R W hw K
  · -- one argument
    obtain ⟨e, rfl, he⟩ := args1 hc
    have IHe := IHa e (by simp) a he
    rcases call1_cases hq with ⟨rfl, ⟨e', rfl, rfl⟩ | rfl⟩ | ⟨rfl, ⟨e', hrev, rfl, rfl⟩ | rfl⟩ | ⟨u, hu, rfl⟩
    · obtain ⟨g, p', args', pos', as', rfl, hd', hg, has', hm'⟩ := inv_un he (by simp)
      obtain ⟨_, rfl, rfl⟩ := mk_un hm' rfl
      obtain ⟨e2, rfl, he2⟩ := args1 has'
      simp only [ZF, ZE, ZM, ZO, ZD, ZH, Yb, ZN, Zu, ZS, ZP, ZZ, ZQ, ZA, ZC, ZT, Zt, ZB, Zs] at hw
      refine call_b1 (id := "len") G (bt 0 rfl) hx hd he R W ?_
      refine call_t1 (id := "set") G (bt 6 rfl) hg hd' he2 R W ?_
      refine IH e2 (by simp; lia) _ he2 m φ H s _ _ E R W hw fun v y φ' H' s' hp st R' r => ?_
      exact sNset hh R' r hp (K.after st)
    · simp only [ZF, ZE, ZM, ZO, ZD, ZH, Yb, ZN, Zu, ZS, ZP, ZZ, ZQ, ZA, ZC, ZT, Zt, ZB, Zs] at hw
      exact call_b1 (id := "len") G (bt 0 rfl) hx hd he R W (IHe m φ H s _ _ E R W hw fun v y φ' H' s' hp st R' r => sLen R' r hp (K.after st))
    · obtain ⟨g, p', args', pos', as', rfl, hd', hg, has', hm'⟩ := inv_un he (by simp)
      obtain ⟨_, rfl, rfl⟩ := mk_un hm' rfl
      obtain ⟨e2, rfl, he2⟩ := args1 has'
      simp only [ZF, ZE, ZM, ZO, ZD, ZH, Yb, ZN, Zu, ZS, ZP, ZZ, ZQ, ZA, ZC, ZT, Zt, ZB, Zs] at hw
      refine call_t1 (id := "list") G (bt 1 rfl) hx hd he R W ?_
      refine call_t1 (id := "reversed") G (bt 7 rfl) hg hd' he2 R W ?_
      refine IH e2 (by simp; lia) _ he2 m φ H s _ _ E R W hw fun v y φ' H' s' hp st R' r => ?_
      exact hR hrev φ' H' s' v y P Q E R' r hp (K.after st)
    · simp only [ZF, ZE, ZM, ZO, ZD, ZH, Yb, ZN, Zu, ZS, ZP, ZZ, ZQ, ZA, ZC, ZT, Zt, ZB, Zs] at hw
      exact call_t1 (id := "list") G (bt 1 rfl) hx hd he R W (IHe m φ H s _ _ E R W hw fun v y φ' H' s' hp st R' r => sList R' r hp (K.after st))
    · simp only [tab1, List.mem_cons, Prod.mk.injEq, List.not_mem_nil, or_false] at hu
      simp only [ZF, ZE, ZM, ZO, ZD, ZH, Yb, ZN, Zu, ZS, ZP, ZZ, ZQ, ZA, ZC, ZT, Zt, ZB, Zs] at hw
      rcases hu with ⟨rfl, rfl⟩ | ⟨rfl, rfl⟩ | ⟨rfl, rfl⟩ | ⟨rfl, rfl⟩ | ⟨rfl, rfl⟩ | ⟨rfl, rfl⟩ | ⟨rfl, rfl⟩ | ⟨rfl, rfl⟩ | ⟨rfl, rfl⟩
      · exact call_t1 (id := "tuple") G (bt 2 rfl) hx hd he R W (IHe m φ H s _ _ E R W hw fun v y φ' H' s' hp st R' r => sTuple R' r hp (K.after st))
      · exact call_b1 (id := "sum") G (bt 3 rfl) hx hd he R W (IHe m φ H s _ _ E R W hw fun v y φ' H' s' hp st R' r => sSum hh R' r hp (K.after st))
      · exact call_b1 (id := "sorted") G (bt 4 rfl) hx hd he R W (IHe m φ H s _ _ E R W hw fun v y φ' H' s' hp st R' r => sSorted R' r hp (K.after st))
      · exact call_b1 (id := "abs") G (bt 5 rfl) hx hd he R W (IHe m φ H s _ _ E R W hw fun v y φ' H' s' hp st R' r => sAbs R' r hp (K.after st))
      · exact call_t1 (id := "str") G (bt 16 rfl) hx hd he R W (IHe m φ H s _ _ E R W hw fun v y φ' H' s' hp st R' r => sText hgd hun R' r hp (K.after st))
      · exact call_t1 (id := "set") G (bt 6 rfl) hx hd he R W (IHe m φ H s _ _ E R W hw fun v y φ' H' s' hp st R' r => hp.elim)
      · exact call_t1 (id := "reversed") G (bt 7 rfl) hx hd he R W (IHe m φ H s _ _ E R W hw fun v y φ' H' s' hp st R' r => hp.elim)
      · exact call_t1 (id := "range") G (bt 8 rfl) hx hd he R W (IHe m φ H s _ _ E R W hw fun v y φ' H' s' hp st R' r => hp.elim)
      · exact call_t1 (id := "enumerate") G (bt 9 rfl) hx hd he R W (IHe m φ H s _ _ E R W hw fun v y φ' H' s' hp st R' r => hp.elim)
  · -- two arguments
    obtain ⟨e, e', rfl, he, he'⟩ := args2 hc
    rcases call2_cases hq with ⟨rfl, t, u, rfl, hu, rfl⟩ | ⟨o, ho, rfl⟩
    · -- isinstance
      obtain ⟨p', rfl, hd', hg'⟩ := inv_glob he'
      have IHe := IHa e (by simp) a he
      have ht := isi_of hu
      have hbt : ∃ id : String, (t, Value.type id) ∈ biTab ∧ ((id = "int" ∧ u = .isInt) ∨ (id = "bool" ∧ u = .isBool) ∨ (id = "list" ∧ u = .isList) ∨ (id = "tuple" ∧ u = .isTuple)) := by
        rcases ht with ⟨rfl, rfl⟩ | ⟨rfl, rfl⟩ | ⟨rfl, rfl⟩ | ⟨rfl, rfl⟩
        · exact ⟨"int", bt 11 rfl, by simp⟩
        · exact ⟨"bool", bt 12 rfl, by simp⟩
        · exact ⟨"list", bt 1 rfl, by simp⟩
        · exact ⟨"tuple", bt 2 rfl, by simp⟩
      obtain ⟨id, hid, hiu⟩ := hbt
      simp only [ZF, ZE, ZM, ZO, ZD, ZH, Yb, ZN, Zu, ZS, ZP, ZZ, ZQ, ZA, ZC, ZT, Zt, ZB, Zs] at hw
      refine wpAny_Call_NameR (blt_name G R W hx hd (v := .builtin "isinstance") (bt 10 rfl) ?_)
      have e1 : backTo pos (starEach [e, .Name t p'] env) = [(false, eval e env), (false, eval (.Name t p') env)] := by rw [not_star he]; rfl
      rw [e1]
      refine PySem.Calls.callWith_builtin rfl (PySem.Calls.evalArgs_plain ?_)
      rw [← e1]
      refine wpAny_items_cons (IHe m φ H s _ _ E R W hw fun v y φ' H' s' hp st R' r => ?_) (not_star he _)
      refine wpAny_items_cons (blt_name G R' (W.step R st) hg' hd' hid (wpAny_items_nil ?_)) rfl
      exact sIsi hiu R' r hp (K.after st)
    · have two : ∀ (o : B), wpE C (.bin o a b) m H P → wpEs C [a, b] m H (fun vs H' => match vs with | [v, z] => wpB o v z H' P | _ => False) := fun o hw => by
        simpa [ZF, ZE, ZM, ZO, ZD, ZH, Yb, ZN, Zu, ZS, ZP, ZZ, ZQ, ZA, ZC, ZT, Zt, ZB, Zs, wes_nil, wes_cons] using hw
      replace hw := two _ hw
      simp only [tab2, List.mem_cons, Prod.mk.injEq, List.not_mem_nil, or_false] at ho
      rcases ho with ⟨rfl, rfl⟩ | ⟨rfl, rfl⟩ | ⟨rfl, rfl⟩ | ⟨rfl, rfl⟩
      · refine se_call_b (id := "max") G (bt 13 rfl) hx hd hc (by simp) IHa R W hw fun vs ws φ' H' s' hp st R' rv => ?_
        split at hp
        · obtain ⟨x1, r1, rfl, h1, x2, r2, rfl, h2, h3⟩ := rv
          rw [show r2 = [] from h3]
          exact sMax hh R' h1 h2 hp (K.after st)
        · exact hp.elim
      · refine se_call_b (id := "min") G (bt 14 rfl) hx hd hc (by simp) IHa R W hw fun vs ws φ' H' s' hp st R' rv => ?_
        split at hp
        · obtain ⟨x1, r1, rfl, h1, x2, r2, rfl, h2, h3⟩ := rv
          rw [show r2 = [] from h3]
          exact False.elim hp
        · exact hp.elim
      · refine se_call_t (id := "range") G (bt 8 rfl) hx hd hc (by simp) IHa R W hw fun vs ws φ' H' s' hp st R' rv => ?_
        split at hp <;> exact hp.elim
      · refine se_call_t (id := "zip") G (bt 15 rfl) hx hd hc (by simp) IHa R W hw fun vs ws φ' H' s' hp st R' rv => ?_
        split at hp <;> exact hp.elim
end
end Mine

open PySem
namespace Mine

/-! ## expressions that raise nothing and end no iterator -/
mutual
noncomputable def calm : X → Bool
  | .none => true
  | .bool _ => true
  | .int _ => true
  | .str _ => true
  | .var _ => true
  | .bin op a b => match op with
    | .item => calm a && calm b
    | _ => false
  | .list es => calms es
  | _ => false
noncomputable def calms : List X → Bool
  | [] => true
  | e :: r => calm e && calms r
end
theorem calm_item {a b : X} (h : calm (.bin .item a b) = true) : calm a = true ∧ calm b = true := Bool.and_eq_true_iff.mp (show (calm a && calm b) = true from h)
theorem calm_list {es : List X} (h : calm (.list es) = true) : calms es = true := h
theorem calms_cons {e : X} {r : List X} (h : calms (e :: r) = true) : calm e = true ∧ calms r = true := Bool.and_eq_true_iff.mp (show (calm e && calms r) = true from h)
theorem calm_op {op : B} {a b : X} (h : calm (.bin op a b) = true) : op = .item := by
  cases op <;> first | rfl | exact absurd h Bool.false_ne_true

theorem calm_all {D : Tabs} {sc : Scope} {Γ : List Str} {es : List Expr} : ∀ {xs : List X}, cEs D sc Γ es = some xs → calms xs = true → ∀ e ∈ es, ∀ y, cE D sc Γ e = some y → calm y = true := by
  induction es with
  | nil => intro xs _ _ e he; cases he
  | cons e r ih =>
    intro xs hc h e' he y hy
    obtain ⟨a, as, h1, h2, rfl⟩ := cEs_cons hc
    obtain ⟨g1, g2⟩ := calms_cons h
    rcases List.mem_cons.mp he with rfl | he
    · rw [h1] at hy; cases hy; exact g1
    · exact ih h2 g2 e' he y hy

section
variable {prog : Program} {w : World} {base : Heap} {D : Tabs} {T : Nat → Option Fn} {mg mb : Str → Option Value} {C : Calls} {A : Around}

theorem tgts_one {tg : Expr} {x : Str} (h : tgts tg = some [x]) : ∃ p, tg = .Name x p:= by
  unfold tgts at h
  cases hn : nameOf tg with
  | some y => rw [hn] at h; cases h; exact nameOf_eq hn
  | none =>
    rw [hn] at h
    obtain ⟨p, _, h⟩ := Zk h
    split at h <;> cases h

/-- a comprehension's value -/
theorem comp_none {φ : List Addr} {s : Shared} {P : PV} {Q : Value → Shared → Prop} {E : Value → Shared → Prop} (K : Cont base φ s P Q) (d c : Addr) (φ' : List Addr) (H' : Hp) (s' : Shared) (acc : List V) (hp : P (.ref H'.length) (H' ++ [acc]))
    (st : Step [] φ (φ' ++ [d]) s s') (R : Rel base (φ' ++ [d]) (H' ++ [acc]) s'.heap) (r : Rep base (φ' ++ [d]) s'.heap (.ref H'.length) (.ref d)) (hn : ∃ mm, s'.heap.Ns c mm) (hc : s.heap.get? c = none) (hb : base.get? c = none) (hcn : c ∉ φ' ++ [d]) :
    compPost (model prog w) A E none Q (.ref d) c (.ok .next) s' := by
  obtain ⟨mm, hn⟩ := hn
  refine ⟨mm, hn, fun h' hs => ?_⟩
  have nt := ns_not_tup hn
  exact K _ _ _ _ _ hp (st.skip (wr := [c]) (by simpa using hc) (fun b o hb' e => hs.extBut b o (by simpa using hb') e) ⟨h', s'.toks, rfl⟩) (R.but hcn hb hs.extBut nt) (r.but hs.extBut nt)

set_option tactic.hygienic true
theorem sub_plain {i : Expr} (h : ∀ lo hi p, i ≠ .Slice lo hi none p) (o i' : Value) : subscripted i false o i' = operate [o, i'] (getItem o i') := by
  cases i <;> first
    | rfl
    | (rename_i lo hi st p
       cases st with
       | none => exact absurd rfl (h lo hi p)
       | some _ => rfl)
set_option tactic.hygienic false

theorem okIt_ne {i : It} (h : okIt i 1 = true) : i ≠ .enum := fun q => by rw [q] at h; simp [okIt] at h

structure Fit (prog : Program) (w : World) (base : Heap) (D : Tabs) (T : Nat → Option Fn) (C : Calls) (A : Around) : Prop where
  hh : A.handled = none
  hu : A.units + 64 < cLine
  hgd : A.guards = some []
  hC : SoundC prog w base D T C A
  hR : D.revs = true → RevSound prog w base A
  hZ : D.zips = true → ZipSound prog w base D C A
theorem calm_call {f : Str} {as : List X} {x : X} (hc : mkCall D f as = some x) (h : calm x = true) : False := by
  rcases mkCall_cases hc with ⟨k', hk, e'⟩ | ⟨_, ⟨a, rfl, hq⟩ | ⟨a, b, rfl, hq⟩⟩
  · subst e'; exact absurd h Bool.false_ne_true
  · rcases call1_cases hq with ⟨_, ⟨_, _, q⟩ | q⟩ | ⟨_, ⟨_, _, _, q⟩ | q⟩ | ⟨_, _, q⟩ <;> (subst q; exact absurd h Bool.false_ne_true)
  · rcases call2_cases hq with ⟨_, _, _, _, _, q⟩ | ⟨_, q', q⟩
    · subst q; exact absurd h Bool.false_ne_true
    · subst q
      have := calm_op h
      subst this
      simp [tab2] at q'

set_option maxHeartbeats 2000000 in
theorem soundE0 (G : Ground base D T mg mb) :
    ∀ (N : Nat) (e : Expr), sizeOf e < N → ∀ (sc : Scope) (Γ : List Str) (env : Env) (x : X), cE D sc Γ e = some x → (Fit prog w base D T C A ∨ calm x = true) → SE prog w base C A e x sc Γ env ∧ ST prog w base C A e x sc Γ env
  | 0, _, h, _, _, _, _, _, _ => absurd h (Nat.not_lt_zero _)
  | N + 1, e, hN, sc, Γ, env, x, hc, hq => by
    have IH := soundE0 G N
    have marks : ∀ {op : CmpOp} {r : Expr} {y : X} {sc : Scope} {Γ : List Str}, cE D sc Γ r = some y → behindInMarks op r = false := fun {op r y sc Γ} h => by
      exact cE_elim (M := fun r _ => behindInMarks op r = false) (by intros; rfl) (by intros; rfl) (by intros; rfl) (by intros; rfl) (by intros; rfl) (by intros; rfl) (by intros; rfl) (by intros; rfl) (by intros; rfl) (by intros; rfl) (by intros; rfl) (by intros; rfl) (by intros; rfl) (by intros; rfl) r y h
    have val : ∀ {e : Expr} {x : X}, (∀ whole, isTrue e env whole = (do let v ← whole; standAt e.pos; holding [v] (truthy v))) → SE prog w base C A e x sc Γ env → SE prog w base C A e x sc Γ env ∧ ST prog w base C A e x sc Γ env :=
      fun he h => ⟨h, st_of_se h he⟩
    revert hN hq
    refine cE_elim (M := fun e x => sizeOf e < N + 1 → (Fit prog w base D T C A ∨ calm x = true) → SE prog w base C A e x sc Γ env ∧ ST prog w base C A e x sc Γ env) ?_ ?_ ?_ ?_ ?_ ?_ ?_ ?_ ?_ ?_ ?_ ?_ ?_ ?_ e x hc
    · intro k1 p1 k2 p2 p hN hq
      exact val (fun _ => rfl) (se_dct G)
    · -- Constant
      intro c k p x hc hN hq
      cases c with
      | none => cases hc; exact val (fun _ => rfl) fun m φ H s P Q E R W hw K => wpAny_Constant_none (K.here (v := .none) R (by simpa [ZF, ZE, ZM, ZO, ZD, ZH, Yb, ZN, Zu, ZS, ZP, ZZ, ZQ, ZA, ZC, ZT, Zt, ZB, Zs] using hw) rfl)
      | bool b => cases hc; exact val (fun _ => rfl) fun m φ H s P Q E R W hw K => wpAny_Constant_bool (K.here (v := .bool _) R (by simpa [ZF, ZE, ZM, ZO, ZD, ZH, Yb, ZN, Zu, ZS, ZP, ZZ, ZQ, ZA, ZC, ZT, Zt, ZB, Zs] using hw) rfl)
      | int i => cases hc; exact val (fun _ => rfl) fun m φ H s P Q E R W hw K => wpAny_Constant_int (K.tok (v := .int _) _ R (by simpa [ZF, ZE, ZM, ZO, ZD, ZH, Yb, ZN, Zu, ZS, ZP, ZZ, ZQ, ZA, ZC, ZT, Zt, ZB, Zs] using hw) ⟨_, rfl⟩)
      | str t => cases hc; exact val (fun _ => rfl) fun m φ H s P Q E R W hw K => wpAny_Constant_str (K.tok (v := .str _) _ R (by simpa [ZF, ZE, ZM, ZO, ZD, ZH, Yb, ZN, Zu, ZS, ZP, ZZ, ZQ, ZA, ZC, ZT, Zt, ZB, Zs] using hw) ⟨_, rfl⟩)
      | _ => cases hc
    · intro y p x hc hN hq
      exact val (fun _ => rfl) (se_name G hc)
    · intro l op r p o a b h1 h2 h3 hN hq
      have F := hq.resolve_right fun h => by have := calm_op h; subst this; cases op <;> cases h1
      exact val (fun _ => rfl) (se_bin h1 (IH l (by simp at hN; lia) sc Γ env a h2 (.inl F)).1 (IH r (by simp at hN; lia) sc Γ env b h3 (.inl F)).1)
    · intro op e' p x hc hN hq
      rcases un_kind hc with ⟨a, rfl, ha, rfl⟩ | ⟨a, rfl, ha, rfl⟩ <;> have F := hq.resolve_right fun h => absurd h Bool.false_ne_true
      · refine val (fun _ => rfl) fun m φ H s P Q E R W hw K => ?_
        simp only [ZF, ZE, ZM, ZO, ZD, ZH, Yb, ZN, Zu, ZS, ZP, ZZ, ZQ, ZA, ZC, ZT, Zt, ZB, Zs] at hw
        exact wpAny_UnaryOp ((IH e' (by simp at hN; lia) sc Γ env a ha (.inl F)).1 m φ H s _ _ E R W hw fun v y φ' H' s' hp st R' r => sNeg R' r hp (K.after st))
      · have := IH e' (by simp at hN; lia) sc Γ env a ha (.inl F)
        exact se_not this.1 this.2
    · intro op v vs p x hc hN hq
      rcases bool_kind hc with ⟨a, b, rfl, h1, h2, rfl⟩ | ⟨a, b, rfl, h1, h2, rfl⟩ <;> have F := hq.resolve_right fun h => absurd h Bool.false_ne_true
      · have hand : cAnd D sc Γ (v :: vs) = some (.and a b) := by
          cases vs with
          | nil => rw [cAnd_nil] at h2; cases h2
          | cons v' vs' => rw [cAnd_two, h1, h2]; rfl
        obtain ⟨g1, g2⟩ := and_list (prog := prog) (w := w) (base := base) (C := C) (A := A) (env := env) (pos := p) (v :: vs) _ hand fun e he y hy => IH e (by have := List.sizeOf_lt_of_mem he; simp at hN this; lia) sc Γ env y hy (.inl F)
        exact ⟨g1, fun m φ H s P Q E R W hw K hb => wpAny_isTrue_BoolOp (g2 m φ H s P Q E R W hw K hb)⟩
      · have hand : cOr D sc Γ (v :: vs) = some (.or a b) := by
          cases vs with
          | nil => rw [cOr_nil] at h2; cases h2
          | cons v' vs' => rw [cOr_two, h1, h2]; rfl
        obtain ⟨g1, g2⟩ := or_list (prog := prog) (w := w) (base := base) (C := C) (A := A) (env := env) (pos := p) (v :: vs) _ hand fun e he y hy => IH e (by have := List.sizeOf_lt_of_mem he; simp at hN this; lia) sc Γ env y hy (.inl F)
        exact ⟨g1, fun m φ H s P Q E R W hw K hb => wpAny_isTrue_BoolOp (g2 m φ H s P Q E R W hw K hb)⟩
    · intro t a b p t' a' b' h1 h2 h3 hN hq
      have F := hq.resolve_right fun h => absurd h Bool.false_ne_true
      exact se_ite (IH t (by simp at hN; lia) sc Γ env t' h1 (.inl F)).2 (IH a (by simp at hN; lia) sc Γ env a' h2 (.inl F)) (IH b (by simp at hN; lia) sc Γ env b' h3 (.inl F))
    · intro l ops rs p x hc hN hq
      rcases cmp_kind hc with ⟨op, a, b, rfl, h1, h2, rfl⟩ | ⟨op₁, op₂, a, b, c, rfl, h1, h2, rfl⟩
      · have F := hq.resolve_right fun h => by have := calm_op h; cases op <;> cases this
        obtain ⟨r, rfl, h3⟩ := args1 h2
        exact se_cmp F.hu (marks h3) (IH l (by simp at hN; lia) sc Γ env a h1 (.inl F)).1 (IH r (by simp at hN; lia) sc Γ env b h3 (.inl F)).1
      · have F := hq.resolve_right fun h => absurd h Bool.false_ne_true
        obtain ⟨r₁, r₂, rfl, h3, h4⟩ := args2 h2
        exact se_chain F.hu (marks h4) (IH l (by simp at hN; lia) sc Γ env a h1 (.inl F)).1 (IH r₁ (by simp at hN; lia) sc Γ env b h3 (.inl F)).1 (IH r₂ (by simp at hN; lia) sc Γ env c h4 (.inl F)).1
    · intro es p xs hz hxs hN hq
      exact val (fun _ => rfl) (se_list hxs hz fun e he y hy => (IH e (by have := List.sizeOf_lt_of_mem he; simp at hN; lia) sc Γ env y hy (hq.imp id fun h => calm_all hxs (calm_list h) e he y hy)).1)
    · intro es k p xs hz hxs hN hq
      have F := hq.resolve_right fun h => absurd h Bool.false_ne_true
      exact val (fun _ => rfl) (se_tup hxs hz fun e he y hy => (IH e (by have := List.sizeOf_lt_of_mem he; simp at hN; lia) sc Γ env y hy (.inl F)).1)
    · intro e' lo hi q p a l h h1 h2 h3 hN hq
      have F := hq.resolve_right fun h => absurd h Bool.false_ne_true
      exact val (fun _ => rfl) (se_slice (IH e' (by simp at hN; lia) sc Γ env a h1 (.inl F)).1 h2 h3 (fun e he y hy => (IH e (by subst he; simp at hN; lia) sc Γ env y hy (.inl F)).1) fun e he y hy => (IH e (by subst he; simp at hN; lia) sc Γ env y hy (.inl F)).1)
    · intro e' i p a b hns h1 h2 hN hq
      exact val (fun _ => rfl) (se_item (sub_plain hns) (IH e' (by simp at hN; lia) sc Γ env a h1 (hq.imp id fun h => (calm_item h).1)).1 (IH i (by simp at hN; lia) sc Γ env b h2 (hq.imp id fun h => (calm_item h).2)).1)
    · intro f p args p' as x h1 h2 has hc hN hq
      have F := hq.resolve_right fun h => calm_call hc h
      exact val (fun _ => rfl) (se_call G F.hh F.hgd F.hu F.hC F.hR h2 h1 has hc fun e' he y hy => (IH e' (by simp at hN; lia) sc Γ env y hy (.inl F)).1)
    · -- ListComp
      intro elt tg iter ifs csc p x hc hN hq
      obtain ⟨xs, h1, ⟨hok, hown, hall⟩, ⟨a, b, ex, h2, hz, hlen, rfl, hex, _, rfl⟩ | ⟨ix, cx, ex, h2, hlen, hit, h3, h4, rfl⟩⟩ := cComp_cases hc <;> have F := hq.resolve_right fun h => absurd h Bool.false_ne_true
      · refine val (fun _ => rfl) fun m φ H s P Q E R W hw K => ?_
        exact F.hZ hz sc csc Γ env elt iter tg xs p _ a b ex none h1 h2 hok hown hall hlen hex (fun e' he y hy => (IH e' (by simp at hN; lia) sc Γ env y hy (.inl F)).1) (fun cenv => (IH elt (by simp at hN; lia) csc xs.reverse cenv ex hex (.inl F)).1) m φ H s P Q E R W hw (comp_none K)
      · obtain ⟨y, rfl⟩ := List.length_eq_one_iff.mp hlen
        obtain ⟨px, rfl⟩ := tgts_one h1
        refine val (fun _ => rfl) fun m φ H s P Q E R W hw K => ?_
        exact comp_core G (.inl F.hh) h2 (okIt_ne hit) hok hown (hall y (.head _)) h3 h4 (fun e' he z hz => (IH e' (by have := he.size; simp at hN; lia) sc Γ env z hz (.inl F)).1) (fun cenv => (IH elt (by simp at hN; lia) csc _ cenv ex h4 (.inl F)).1)
          (fun cenv e he z hz => (IH e (by have := List.sizeOf_lt_of_mem he; simp at hN; lia) csc _ cenv z hz (.inl F)).2) R W hw (comp_none K)
theorem soundE (G : Ground base D T mg mb) (hh : A.handled = none) (hu : A.units + 64 < cLine) (hgd : A.guards = some []) (hC : SoundC prog w base D T C A) (hR : D.revs = true → RevSound prog w base A) (hZ : D.zips = true → ZipSound prog w base D C A)
    (N : Nat) (e : Expr) (hN : sizeOf e < N) (sc : Scope) (Γ : List Str) (env : Env) (x : X) (h : cE D sc Γ e = some x) : SE prog w base C A e x sc Γ env ∧ ST prog w base C A e x sc Γ env :=
  soundE0 G N e hN sc Γ env x h (.inl ⟨hh, hu, hgd, hC, hR, hZ⟩)
end
end Mine

open PySem
namespace Mine

section
variable {prog : Program} {w : World} {base : Heap} {D : Tabs} {T : Nat → Option Fn} {mg mb : Str → Option Value} {C : Calls} {A : Around} {sc : Scope} {Γ : List Str} {env : Env}

noncomputable def FlRep (base : Heap) (φ : List Addr) (h : Heap) : Fl → Flow → Prop
  | .next, f => f = .next
  | .ret v, f => ∃ x, f = .ret x ∧ Rep base φ h v x

/-- what a statement hands on -/
noncomputable def ContF (base : Heap) (sc : Scope) (Γ : List Str) (env : Env) (φ : List Addr) (s : Shared) (Q : PF) (QQ : Flow → Shared → Prop) : Prop :=
  ∀ fl f m' φ' H' s', Q fl m' H' → Step (own env) φ φ' s s' → Rel base φ' H' s'.heap → EnvR base φ' sc env Γ m' s'.heap → FlRep base φ' s'.heap fl f → QQ f s'

theorem ContF.after {φ φ' : List Addr} {s s' : Shared} {Q : PF} {QQ : Flow → Shared → Prop} (K : ContF base sc Γ env φ s Q QQ) (st : Step (own env) φ φ' s s') : ContF base sc Γ env φ' s' Q QQ :=
  fun fl f m' φ'' H' s'' hq st' R W r => K fl f m' φ'' H' s'' hq (st.trans st') R W r

noncomputable def SS (prog : Program) (w : World) (base : Heap) (C : Calls) (A : Around) (st : Stmt) (x : S) (sc : Scope) (Γ : List Str) (env : Env) : Prop :=
  ∀ (m : Loc) (φ : List Addr) (H : Hp) (s : Shared) (Q : PF) (QQ : Flow → Shared → Prop) (E : Value → Shared → Prop), Rel base φ H s.heap → EnvR base φ sc env Γ m s.heap → wpS C x m H Q → ContF base sc Γ env φ s Q QQ → wpAny (model prog w) A (exec st env) QQ E s
noncomputable def SSs (prog : Program) (w : World) (base : Heap) (C : Calls) (A : Around) (sts : List Stmt) (xs : List S) (sc : Scope) (Γ : List Str) (env : Env) : Prop :=
  ∀ (m : Loc) (φ : List Addr) (H : Hp) (s : Shared) (Q : PF) (QQ : Flow → Shared → Prop) (E : Value → Shared → Prop), Rel base φ H s.heap → EnvR base φ sc env Γ m s.heap → wpSs C xs m H Q → ContF base sc Γ env φ s Q QQ → wpAny (model prog w) A (execs sts env) QQ E s

theorem up (own' : List Addr) {φ φ' : List Addr} {s s' : Shared} (st : Step [] φ φ' s s') : Step own' φ φ' s s' := st.weaken fun _ h => nomatch h

set_option tactic.hygienic true
theorem sss_nil : SSs prog w base C A [] [] sc Γ env := fun m φ H s Q QQ E R W hw K => by
  simp only [wss_nil, wss_cons] at hw
  exact wpAny_execs_nil (K .next .next m φ H s hw (Step.refl _ _ _) R W rfl)
set_option tactic.hygienic false

set_option tactic.hygienic true
theorem sss_cons {st : Stmt} {r : List Stmt} {x : S} {xs : List S} (h1 : SS prog w base C A st x sc Γ env) (h2 : SSs prog w base C A r xs sc Γ env) : SSs prog w base C A (st :: r) (x :: xs) sc Γ env := fun m φ H s Q QQ E R W hw K => by
  simp only [wss_nil, wss_cons] at hw
  refine wpAny_execs_cons (h1 m φ H s _ _ E R W hw fun fl f m' φ' H' s' hq st' R' W' hf => ?_)
  cases fl with
  | next =>
    rw [show f = .next from hf]
    exact h2 m' φ' H' s' Q QQ E R' W' hq (K.after st')
  | ret v =>
    obtain ⟨x, rfl, r⟩ := hf
    exact K (.ret v) (.ret x) m' φ' H' s' hq st' R' W' ⟨x, rfl, r⟩
set_option tactic.hygienic false

/-- a name is stored -/
theorem bind_name {x : Str} {i : Nat} {p : Pos} {v : V} {y : Value} {m : Loc} {φ : List Addr} {H : Hp} {s : Shared} {Q : Unit → Shared → Prop} {E : Value → Shared → Prop} (hx : isOwn sc x = true) (hi : slot Γ x = some i) (R : Rel base φ H s.heap) (W : EnvR base φ sc env Γ m s.heap)
    (r : Rep base φ s.heap v y) (K : ∀ s', Step (own env) φ φ s s' → Rel base φ H s'.heap → EnvR base φ sc env Γ (m.set i (some v)) s'.heap → (∀ u z, Rep base φ s.heap u z → Rep base φ s'.heap u z) → Q () s') : wpAny (model prog w) A (assign (.Name x p) env y) Q E s :=
  wpAny_assign_Name (W.store R hx hi r fun s' a ha st kp R' W' => K s' (st.weaken fun b hb => by simp only [List.mem_singleton] at hb; subst hb; exact own_of ha) R' W' fun u z ru => ru.but kp fun o e => by
    rcases ha with rfl | ⟨_, h2⟩
    · obtain ⟨mm, hn, _⟩ := W.ns; exact ns_not_tup hn o e
    · obtain ⟨_, v', hv'⟩ := W.cellat _ (mem_of_lookup h2); exact cell_not_tup hv' o e)

set_option tactic.hygienic true
theorem tgts_two {tg : Expr} {x y : Str} (h : tgts tg = some [x, y]) : Ex4 fun p q k p' => tg = .Tuple [.Name x p, .Name y q] k p' ∧ x ≠ y:= by
  unfold tgts at h
  cases hn : nameOf tg with
  | some y => rw [hn] at h; cases h
  | none =>
    rw [hn] at h
    obtain ⟨⟨x', y'⟩, hp, h⟩ := Zk h
    split at h
    · cases h
    · rename_i hne
      cases h
      obtain ⟨p, q, k, p', e⟩ := pairOf_eq hp
      exact ⟨p, q, k, p', e, by simpa using hne⟩
set_option tactic.hygienic false

theorem slots_cons {x : Str} {r : List Str} {is : List Nat} (h : slots Γ (x :: r) = some is) : Ex2 fun i is' => And3 (is = i :: is') (slot Γ x = some i) (slots Γ r = some is'):= by
  replace h : (match slot Γ x, slots Γ r with | some i, some is => some (i :: is) | _, _ => none) = some is := h
  cases h1 : slot Γ x with
  | none => rw [h1] at h; exact Zj h
  | some i => cases h2 : slots Γ r with
    | none => rw [h1, h2] at h; exact Zj h
    | some is' => rw [h1, h2] at h; cases h; exact ⟨i, is', rfl, rfl, rfl⟩
theorem slots_nil {xs : List Str} (h : slots Γ xs = some []) : xs = [] := by
  cases xs with
  | nil => rfl
  | cons x r => obtain ⟨i, is', e, _⟩ := slots_cons h; cases e
theorem slots_one {xs : List Str} {i : Nat} (h : slots Γ xs = some [i]) : ∃ x, xs = [x] ∧ slot Γ x = some i:= by
  cases xs with
  | nil => cases h
  | cons x r =>
    obtain ⟨i', is', e, h1, h2⟩ := slots_cons h
    cases e
    exact ⟨x, by rw [slots_nil h2], h1⟩
theorem slots_two {xs : List Str} {i j : Nat} (h : slots Γ xs = some [i, j]) : Ex2 fun x y => And3 (xs = [x, y]) (slot Γ x = some i) (slot Γ y = some j):= by
  cases xs with
  | nil => cases h
  | cons x r =>
    obtain ⟨i', is', e, h1, h2⟩ := slots_cons h
    cases e
    obtain ⟨y, rfl, h3⟩ := slots_one h2
    exact ⟨x, y, rfl, h1, h3⟩

theorem slots_step {x : Str} {r : List Str} {i : Nat} {is : List Nat} (h1 : slot Γ x = some i) (h2 : slots Γ r = some is) : slots Γ (x :: r) = some (i :: is) := by
  show (match slot Γ x, slots Γ r with | some i, some is => some (i :: is) | _, _ => none) = _
  rw [h1, h2]
theorem put_elim {is : List Nat} {v : V} {m m₁ : Loc} (h : put is v m = some m₁) : (∃ i, is = [i] ∧ m₁ = m.set i (some v)) ∨ Ex4 fun i j a b => And3 (is = [i, j]) (v = .tup [a, b]) (m₁ = (m.set i (some a)).set j (some b)):= by
  cases is with
  | nil => exact Zj h
  | cons i r => cases r with
    | nil => cases h; exact .inl ⟨i, rfl, rfl⟩
    | cons j r => cases r with
      | cons _ _ => exact Zj h
      | nil => cases v with
        | tup vs => cases vs with
          | nil => exact Zj h
          | cons a r => cases r with
            | nil => exact Zj h
            | cons b r => cases r with
              | nil => cases h; exact .inr ⟨i, j, a, b, rfl, rfl, rfl⟩
              | cons _ _ => exact Zj h
        | _ => exact Zj h

/-- a target is told -/
theorem put_sound (hh : A.handled = none) {tg : Expr} {xs : List Str} {is : List Nat} {v : V} {y : Value} {m m₁ : Loc} {φ : List Addr} {H : Hp} {s : Shared} {Q : Unit → Shared → Prop} {E : Value → Shared → Prop} (ht : tgts tg = some xs) (hs : slots Γ xs = some is) (hown : ∀ x ∈ xs, isOwn sc x = true)
    (hp : put is v m = some m₁) (R : Rel base φ H s.heap) (W : EnvR base φ sc env Γ m s.heap) (r : Rep base φ s.heap v y)
    (K : ∀ s', Step (own env) φ φ s s' → Rel base φ H s'.heap → EnvR base φ sc env Γ m₁ s'.heap → Q () s') : wpAny (model prog w) A (assign tg env y) Q E s := by
  rcases put_elim hp with ⟨i, rfl, rfl⟩ | ⟨i, j, a, b, rfl, rfl, rfl⟩
  · -- one name
    obtain ⟨x, rfl, hi⟩ := slots_one hs
    obtain ⟨p, rfl⟩ := tgts_one ht
    exact bind_name (hown x (by simp)) hi R W r fun s' st R' W' _ => K s' st R' W'
  · -- two names
    obtain ⟨x, z, rfl, hi, hj⟩ := slots_two hs
    obtain ⟨p, q, k, p', rfl, hxz⟩ := tgts_two ht
    obtain ⟨a, us, rfl, htu, hr, hz⟩ := r
    obtain ⟨y1, r1, rfl, h1, y2, r2, rfl, h2, h3⟩ := hr
    rw [show r2 = [] from h3] at htu
    refine wpAny_assign_Tuple hh htu rfl rfl fun h' hb => ?_
    have kp : ∀ b o, s.heap.get? b = some o → h'.get? b = some o := fun b o e => hb b o (Nat.ne_of_lt (Heap.lt_size e)) e
    have st₁ : Step [] φ φ s { s with heap := h' } := Step.grow (tk := s.toks) kp
    show wpAny (model prog w) A (holding [y2] (assign (.Name x p) env y1) >>= fun _ => holding [] (assign (.Name z q) env y2) >>= fun _ => pure ()) Q E { s with heap := h' }
    have R₁ := R.grow kp
    have W₁ := W.step R st₁
    refine wpAny_bind (wpAny_holding (bind_name (s := { s with heap := h' }) (hown x (by simp)) hi R₁ W₁ (R.mono st₁ h1) fun s₂ st₂ R₂ W₂ carry => ?_))
    refine wpAny_bind (wpAny_holding (bind_name (hown z (by simp)) hj R₂ W₂ (carry _ _ (R.mono st₁ h2)) fun s₃ st₃ R₃ W₃ _ => ?_))
    exact wpAny_pure (K s₃ ((up _ st₁).trans (st₂.trans st₃)) R₃ W₃)

set_option tactic.hygienic true
theorem ss_assign {x : Str} {i : Nat} {v : Expr} {e : X} {p pos : Pos} (hx : isOwn sc x = true) (hi : slot Γ x = some i) (hv : SE prog w base C A v e sc Γ env) (hsw : swapsWith v (some (.Name x p)) pos.line env = pure false) :
    SS prog w base C A (.Assign [.Name x p] v pos) (.assign i e) sc Γ env := fun m φ H s Q QQ E R W hw K => by
  simp only [ws_assign, ws_unpack, ws_setItem, ws_append, ws_expr, ws_ite, ws_loop, ws_each, ws_ret, ws_raise] at hw
  refine wpAny_Assign_Name (hv m φ H s _ _ E R W hw fun u y φ' H' s' hp st R' r => ?_) hsw
  refine (W.step R st).store R' hx hi r fun s'' a ha st' kp R'' W'' => ?_
  exact K .next .next _ _ _ _ hp ((up _ st).trans (st'.weaken fun b hb => by simp only [List.mem_singleton] at hb; subst hb; exact own_of ha)) R'' W'' rfl
set_option tactic.hygienic false

set_option tactic.hygienic true
/-- a comprehension that is stored as it ends -/
theorem comp_someT {x : Str} {i : Nat} {p : Pos} {m : Loc} {φ : List Addr} {H : Hp} {s : Shared} {P : PV} {QQ : Flow → Shared → Prop} {E : Value → Shared → Prop} (hx : isOwn sc x = true) (hi : slot Γ x = some i) (R : Rel base φ H s.heap) (W : EnvR base φ sc env Γ m s.heap)
    (K : ∀ v φ' H' s', P v H' → Step (own env) φ φ' s s' → Rel base φ' H' s'.heap → EnvR base φ' sc env Γ (m.set i (some v)) s'.heap → (∀ y u, y ≠ x → Stands env s.heap y u → Stands env s'.heap y u) → QQ .next s')
    (d c : Addr) (φ' : List Addr) (H' : Hp) (s' : Shared) (acc : List V) (hp : P (.ref H'.length) (H' ++ [acc])) (st : Step [] φ (φ' ++ [d]) s s') (R' : Rel base (φ' ++ [d]) (H' ++ [acc]) s'.heap) (r : Rep base (φ' ++ [d]) s'.heap (.ref H'.length) (.ref d))
    (hn : ∃ mm, s'.heap.Ns c mm) (hc : s.heap.get? c = none) (hb : base.get? c = none) (hcn : c ∉ φ' ++ [d]) :
    compPost (model prog w) A E (some (assign (.Name x p) env)) (fun _ s'' => QQ .next s'') (.ref d) c (.ok .next) s' := by
  obtain ⟨mm, hn⟩ := hn
  have W' := W.step R st
  have hcL : c ≠ env.locals := fun q => by
    obtain ⟨mm', ⟨o, es, ep, ho, _⟩, _⟩ := W.ns
    rw [← q, hc] at ho; cases ho
  have hcc : ∀ z ∈ env.cells, c ≠ z.2 := fun z hz q => by
    obtain ⟨_, v', o, ho, _⟩ := W.cellat z hz
    rw [← q, hc] at ho; cases ho
  refine wpAny_assign_Name (W'.storeT R' hx hi r fun s'' a ha st' kp R'' W'' tl => ?_)
  have hca : c ≠ a := by
    rcases ha with rfl | ⟨_, h2⟩
    · exact hcL
    · exact hcc (x, a) (mem_of_lookup h2)
  have hn'' : s''.heap.Ns c mm := by
    obtain ⟨o, es, ep, ho, rr⟩ := hn
    exact ⟨o, es, ep, kp c o hca ho, rr⟩
  refine ⟨mm, hn'', fun h' hs => ?_⟩
  have nt := ns_not_tup hn''
  have R₃ := R''.but hcn hb hs.extBut nt
  have W₃ : EnvR base (φ' ++ [d]) sc env Γ (m.set i (some (.ref H'.length))) h' := by
    obtain ⟨mm₂, hn₂, hm₂⟩ := W''.ns
    have cell : ∀ {z : Str × Addr} {v : Option Value}, z ∈ env.cells → s''.heap.IsCell z.2 v → h'.IsCell z.2 v := fun {z v} hz ⟨o, ho, hd⟩ => ⟨o, hs.extBut _ _ (Ne.symm (hcc z hz)) ho, hd⟩
    refine ⟨W''.kind, W''.glob, W''.blt, W''.len, W''.kinds, W''.fresh, ⟨mm₂, hn₂.sameBut hs (Ne.symm hcL), fun y j u h1 h2 h3 => ?_⟩, fun z hz => ?_, fun y j u h1 h2 h3 => ?_, W''.inj, W''.has⟩
    · obtain ⟨w', e, rr⟩ := hm₂ y j u h1 h2 h3
      exact ⟨w', e, rr.but hs.extBut nt⟩
    · obtain ⟨h1, v, hv⟩ := W''.cellat z hz
      exact ⟨h1, v, cell hz hv⟩
    · obtain ⟨c', w', e, hc', rr⟩ := W''.cellv y j u h1 h2 h3
      exact ⟨c', w', e, cell (mem_of_lookup e) hc', rr.but hs.extBut nt⟩
  refine K _ _ _ _ hp ?_ R₃ W₃ fun y u hy t => by
    obtain ⟨m1, hn1, h1⟩ := tl y u hy (t.step R st)
    exact ⟨m1, hn1.sameBut hs (Ne.symm hcL), h1⟩
  have st3 : Step (own env) φ (φ' ++ [d]) s s'' := (up _ st).trans (st'.weaken fun b hb => by simp only [List.mem_singleton] at hb; subst hb; exact own_of ha)
  exact st3.skip (wr := [c]) (by simpa using hc) (fun b o hb' e => hs.extBut b o (by simpa using hb') e) ⟨h', s''.toks, rfl⟩
set_option tactic.hygienic false

set_option tactic.hygienic true
theorem comp_some {x : Str} {i : Nat} {p : Pos} {m : Loc} {φ : List Addr} {H : Hp} {s : Shared} {P : PV} {QQ : Flow → Shared → Prop} {E : Value → Shared → Prop} (hx : isOwn sc x = true) (hi : slot Γ x = some i) (R : Rel base φ H s.heap) (W : EnvR base φ sc env Γ m s.heap)
    (K : ∀ v φ' H' s', P v H' → Step (own env) φ φ' s s' → Rel base φ' H' s'.heap → EnvR base φ' sc env Γ (m.set i (some v)) s'.heap → QQ .next s')
    (d c : Addr) (φ' : List Addr) (H' : Hp) (s' : Shared) (acc : List V) (hp : P (.ref H'.length) (H' ++ [acc])) (st : Step [] φ (φ' ++ [d]) s s') (R' : Rel base (φ' ++ [d]) (H' ++ [acc]) s'.heap) (r : Rep base (φ' ++ [d]) s'.heap (.ref H'.length) (.ref d))
    (hn : ∃ mm, s'.heap.Ns c mm) (hc : s.heap.get? c = none) (hb : base.get? c = none) (hcn : c ∉ φ' ++ [d]) :
    compPost (model prog w) A E (some (assign (.Name x p) env)) (fun _ s'' => QQ .next s'') (.ref d) c (.ok .next) s' :=
  comp_someT hx hi R W (fun v φ' H' s' hp st R' W' _ => K v φ' H' s' hp st R' W') d c φ' H' s' acc hp st R' r hn hc hb hcn
set_option tactic.hygienic false

set_option tactic.hygienic true
theorem ss_setItem {o i v : Expr} {a j e : X} {p pos : Pos} (hv : SE prog w base C A v e sc Γ env) (ho : SE prog w base C A o a sc Γ env) (hi : SE prog w base C A i j sc Γ env) (hsw : swapsWith v (some (.Subscript o i p)) pos.line env = pure false) :
    SS prog w base C A (.Assign [.Subscript o i p] v pos) (.setItem a j e) sc Γ env := fun m φ H s Q QQ E R W hw K => by
  simp only [ws_assign, ws_unpack, ws_setItem, ws_append, ws_expr, ws_ite, ws_loop, ws_each, ws_ret, ws_raise] at hw
  refine wpAny_Assign_Subscript (hv m φ H s _ _ E R W hw fun u y φ₁ H₁ s₁ hp₁ st₁ R₁ r₁ => ?_) hsw
  have W₁ := W.step R st₁
  refine ho m φ₁ H₁ s₁ _ _ E R₁ W₁ hp₁ fun l z φ₂ H₂ s₂ hp₂ st₂ R₂ r₂ => ?_
  have W₂ := W₁.step R₁ st₂
  refine hi m φ₂ H₂ s₂ _ _ E R₂ W₂ hp₂ fun n q φ₃ H₃ s₃ hp₃ st₃ R₃ r₃ => ?_
  have W₃ := W₂.step R₂ st₃
  split at hp₃
  · rename_i k jj
    split at hp₃
    · rename_i vs hk
      obtain ⟨h0, h1, hq⟩ := hp₃
      obtain ⟨d, us, n', rfl, hd, hobj, hr⟩ := rep_ref R₃ (R₂.mono st₃ r₂) hk
      obtain ⟨t, rfl⟩ := r₃
      have hz := R₃.short hk
      have hl := hr.length
      have hT : s₃.TypeIs (.ref d) "list" := ⟨_, hobj, rfl⟩
      have ru := R₂.mono st₃ (R₁.mono st₂ r₁)
      unfold setItem
      try with_reducible refine wpAny_holding ?_
      first | refine wpAny_bind (wpAny_pure ?_) | skip
      refine wpAny_bind (wpAny_sequenceKey hT (by decide) ?_)
      refine wpAny_bind (wpAny_callSpecial?_slot (name := Str.ofString "__setitem__") hT slot_list_setitem
        (wpAny_call_entry slot_list_setitem hT entry_list_setitem ?_ (args_list_setitem _ _ _)))
      show wpAny _ _ (Builtin.List.listSubscript? (.int jj t) >>= _) _ _ s₃
      refine wpAny_bind (wpAny_listSubscript_int (fitsIndex_of h0 (by unfold room at hz; lia)) ?_)
      obtain ⟨jn, rfl⟩ := Int.eq_ofNat_of_zero_le h0
      have hj : jn < us.toArray.size := by simp only [List.size_toArray]; lia
      have hx' : us.toArray[jn]? = some us.toArray[jn] := Array.getElem?_eq_getElem hj
      show wpAny _ _ ((seqItemAt d jn >>= fun r => pure (r.map (jn, ·))) >>= _) _ _ s₃
      refine wpAny_bind (wpAny_bind (wpAny_seqItemAt hobj rfl (wpAny_pure ?_)))
      rw [hx']
      show wpAny _ _ (setSeqItemAt d jn y >>= _) _ _ s₃
      have hfin : (s₃.heap.update d (Obj.mapSeq (·.setIfInBounds jn y))).get? d = some ⟨.type "list", none, .seq (us.set jn y).toArray n', #[]⟩ := by
        rw [Heap.get?_update_self _ hobj (by rfl)]
        simp [Obj.mapSeq]
      have hb : ∀ b o, b ≠ d → s₃.heap.get? b = some o → (s₃.heap.update d (Obj.mapSeq (·.setIfInBounds jn y))).get? b = some o := (Heap.SameBut.update ..).extBut
      have R₄ := R₃.turn hd hfin hb (hr.set (i := jn) ru) (by simp; exact hz)
      have W₄ := W₃.butD hobj hb
      have st₄ : Step [] φ₃ φ₃ s₃ { s₃ with heap := s₃.heap.update d (Obj.mapSeq (·.setIfInBounds jn y)) } := Step.turn (tk := s₃.toks) (List.mem_of_getElem? hd) (by rw [hfin]; rfl) hb
      have fin : QQ .next { s₃ with heap := s₃.heap.update d (Obj.mapSeq (·.setIfInBounds jn y)) } :=
        K .next .next m φ₃ _ _ (by simpa using hq) (up _ (((st₁.trans st₂).trans st₃).trans st₄)) R₄ W₄ rfl
      refine wpAny_bind (wpAny_setSeqItemAt hobj rfl ?_)
      first
        | exact wpAny_bind (wpAny_pure (wpAny_pure ⟨.none, rfl, wpAny_pure fin⟩))
        | exact wpAny_pure ⟨.none, rfl, wpAny_pure fin⟩
    · exact hp₃.elim
  · exact hp₃.elim
set_option tactic.hygienic false

set_option tactic.hygienic true
theorem ss_append {o g : Expr} {a e : X} {ap cp pos : Pos} (hline : (ap.endLine == cp.line) = true) (hpl : plainBase o = true) (hcg : cE D sc Γ g = some e) (ho : SE prog w base C A o a sc Γ env) (hg : SE prog w base C A g e sc Γ env) :
    SS prog w base C A (.Expr (.Call (.Attribute o "append" ap) [g] [] cp) pos) (.append a e) sc Γ env := fun m φ H s Q QQ E R W hw K => by
  simp only [ws_assign, ws_unpack, ws_setItem, ws_append, ws_expr, ws_ite, ws_loop, ws_each, ws_ret, ws_raise] at hw
  refine wpAny_Expr ?_ (by unfold interactive; rw [W.kind]; rfl) rfl
  have hbase : attributeBase o "append" env (eval o env) = eval o env := by
    unfold plainBase at hpl
    simp only [Bool.or_eq_true, Option.isSome_iff_exists] at hpl
    rcases hpl with ⟨_, h⟩ | ⟨⟨_, _⟩, h⟩
    · obtain ⟨_, rfl⟩ := nameOf_eq h; rfl
    · obtain ⟨_, rfl⟩ := subOf_eq h; rfl
  refine wpAny_Call_append hbase (by rw [not_star hcg]; rfl) hline (by rw [not_star hcg]; rfl) ?_
  refine ho m φ H s _ _ E R W hw fun l z φ₁ H₁ s₁ hp₁ st₁ R₁ r₁ => ?_
  have W₁ := W.step R st₁
  split at hp₁
  · rename_i k
    obtain ⟨d, rfl, hd⟩ := r₁
    obtain ⟨us, n, _, hobj, _, _⟩ := R₁.lists k d hd
    refine ⟨d, us.toArray, rfl, ⟨_, n, hobj, rfl, rfl, rfl⟩, ?_⟩
    refine hg m φ₁ H₁ s₁ _ _ E R₁ W₁ hp₁ fun u y φ₂ H₂ s₂ hp₂ st₂ R₂ r₂ => ?_
    have W₂ := W₁.step R₁ st₂
    split at hp₂
    · rename_i vs hk
      have hd₂ := Zl st₂.pre hd
      obtain ⟨us₂, n₂, xs₂, hobj₂, hk₂, hr₂⟩ := R₂.lists k d hd₂
      rw [hk] at hk₂; cases hk₂
      refine append_d hobj₂ (fun h' k' hfin hb => ?_) (by have := hr₂.length; simp only [List.size_toArray, sizeLine]; have := hp₂.1; unfold room at this; lia)
      have hrr : RepL base φ₂ s₂.heap (vs ++ [u]) (us₂ ++ [y]) := hr₂.append ⟨y, [], rfl, r₂, rfl⟩
      have R₃ := R₂.turn hd₂ hfin hb.extBut hrr (by simp; have := hp₂.1; lia)
      have W₃ := W₂.butD hobj₂ hb.extBut
      exact K .next .next m φ₂ _ _ hp₂.2 (up _ ((st₁.trans st₂).trans (Step.turn (tk := s₂.toks) (List.mem_of_getElem? hd₂) (by rw [hfin]; rfl) hb.extBut))) R₃ W₃ rfl
    · exact hp₂.elim
  · exact hp₁.elim
set_option tactic.hygienic false

end
end Mine

open PySem
namespace Mine
set_option maxRecDepth 100000

section
variable {prog : Program} {w : World} {A : Around} {E : Value → Shared → Prop} {s : Shared}

set_option tactic.hygienic true
/-- the next item of a tuple's iterator -/
theorem nextOf_tup_item {it t : Addr} {i : Nat} {items : Array Value} {x : Value} {Q : Value → Shared → Prop} (hit : s.heap.IsTupleIter it t i) (ht : s.heap.IsTuple t items) (hx : items[i]? = some x)
    (hQ : ∀ h', h'.IsTupleIter it t (i + 1) → Heap.SameBut it s.heap h' → Q x { s with heap := h' }) : wpAny (model prog w) A (Builtin.SmallTypes.nextOf (.ref it)) Q E s := by
  obtain ⟨o, ho, hc, hd⟩ := id hit
  obtain ⟨ol, hol, _, nl, hdl⟩ := ht
  unfold Builtin.SmallTypes.nextOf
  refine wpAny_bind (wpAny_callSpecial?_slot (name := Str.ofString "__next__") hit.typeIs F.slot_tuple_iterator_next
    (wpAny_call_entry F.slot_tuple_iterator_next hit.typeIs F.entry_tuple_iterator_next ?_ (F.args_tuple_iterator_next_1 _)))
  show wpAny _ _ (field (.ref it) 0 >>= _) _ _ s
  refine wpAny_bind (wpAny_field ho hd (x := .ref t) rfl ?_)
  show wpAny _ _ (if (Value.ref t == Value.none) = true then _ else _) _ _ s
  rw [if_neg (show ¬ ((Value.ref t == Value.none) = true) from Bool.false_ne_true)]
  show wpAny _ _ (field (.ref it) 1 >>= _) _ _ s
  refine wpAny_bind (wpAny_field ho hd (x := .int i 0) rfl ?_)
  show wpAny _ _ (seqItems? (.ref t) >>= _) _ _ s
  refine wpAny_bind (wpAny_seqItems hol hdl ?_)
  simp only [Int.toNat_natCast, hx]
  refine wpAny_bind (wpAny_setField ho hd (by simp) (wpAny_pure ⟨x, rfl, wpAny_pure (hQ _ ?_ (Heap.SameBut.update ..))⟩))
  exact ⟨_, Heap.get?_update_self _ ho (Obj.isFreed_of_fields (Obj.data_mapFields hd _)), (Obj.cls_mapFields ..).trans hc, by
    rw [Obj.data_mapFields hd]; simp [rawInt]⟩
set_option tactic.hygienic false

theorem nextOf_tup_end {it t : Addr} {i : Nat} {items : Array Value} {Q : Value → Shared → Prop} (hh : A.handled = none) (hit : s.heap.IsTupleIter it t i) (ht : s.heap.IsTuple t items) (hx : items[i]? = none)
    (hE : ∀ h' e, Heap.ExtBut it s.heap h' → (∃ o, h'.get? e = some o ∧ o.cls = .type "StopIteration") → E (.ref e) { s with heap := h' }) : wpAny (model prog w) A (Builtin.SmallTypes.nextOf (.ref it)) Q E s := by
  obtain ⟨o, ho, hc, hd⟩ := id hit
  obtain ⟨ol, hol, _, nl, hdl⟩ := ht
  unfold Builtin.SmallTypes.nextOf
  refine wpAny_bind (wpAny_callSpecial?_slot (name := Str.ofString "__next__") hit.typeIs F.slot_tuple_iterator_next
    (wpAny_call_entry F.slot_tuple_iterator_next hit.typeIs F.entry_tuple_iterator_next ?_ (F.args_tuple_iterator_next_1 _)))
  show wpAny _ _ (field (.ref it) 0 >>= _) _ _ s
  refine wpAny_bind (wpAny_field ho hd (x := .ref t) rfl ?_)
  show wpAny _ _ (if (Value.ref t == Value.none) = true then _ else _) _ _ s
  rw [if_neg (show ¬ ((Value.ref t == Value.none) = true) from Bool.false_ne_true)]
  show wpAny _ _ (field (.ref it) 1 >>= _) _ _ s
  refine wpAny_bind (wpAny_field ho hd (x := .int i 0) rfl ?_)
  show wpAny _ _ (seqItems? (.ref t) >>= _) _ _ s
  refine wpAny_bind (wpAny_seqItems hol hdl ?_)
  simp only [Int.toNat_natCast, hx]
  refine wpAny_bind (wpAny_rule (wpAny_bind (wpAny_setField ho hd (by simp) ?_)))
  show wpAny _ _ (newExc (.type "StopIteration") [] >>= _) _ _ _
  refine wpAny_bind ?_
  simp only [newExc, newTuple]
  refine wpAny_bind (wpAny_newObj_type ?_ (by size_fits))
  refine wpAny_bind (m := firstArgMember _ _) (wpAny_of_eq (a := Value.none) (by first | rfl | (simp only [firstArgMember]; rfl)) ?_)
  refine wpAny_newObj_type ?_ (by size_fits)
  simp only [raiseNew]
  refine wpAny_bind (wpAny_handled ?_)
  first | rw [show A.in1.handled = none from hh] | rw [hh]
  refine wpAny_bind (wpAny_pure (wpAny_throw ?_))
  exact hE _ _ (((Heap.SameBut.update ..).extBut.push _).push _) ⟨_, Heap.get?_push_size _ rfl, rfl⟩

/-- zip, over a tuple and a list: an item -/
theorem zipT_item {z TI TO i1 i2 l1 l2 : Addr} {k1 k2 : Nat} {xs ys : Array Value} {x y a b : Value} {Q : Value → Shared → Prop} (D : ZipApart z TI TO i1 i2 l1 l2)
    (hz : IsZip s.heap z TI TO .none) (hTI : IsPair s.heap TI (.ref i1) (.ref i2)) (hTO : IsPair s.heap TO a b)
    (h1 : s.heap.IsTupleIter i1 l1 k1) (h2 : s.heap.IsListIter i2 l2 k2) (hl1 : s.heap.IsTuple l1 xs) (hl2 : s.heap.IsList l2 ys) (hx : xs[k1]? = some x) (hy : ys[k2]? = some y)
    (hQ : ∀ h', IsZip h' z TI TO (rawInt s.heap.objs.size) → IsPair h' TO x y → h'.IsTupleIter i1 l1 (k1 + 1) → h'.IsListIter i2 l2 (k2 + 1) → IsPair h' s.heap.objs.size x y → h'.objs.size = s.heap.objs.size + 1 →
      (∀ c o, c ≠ z → c ≠ TO → c ≠ i1 → c ≠ i2 → s.heap.get? c = some o → h'.get? c = some o) → Q (.ref s.heap.objs.size) { s with heap := h' }) :
    wpAny (model prog w) A (Builtin.«zip.__next__» ⟨[.ref z], []⟩) (fun fin s' => ∃ v, fin = .done (.ret v) ∧ Q v s') E s := by
  show wpAny _ _ (field (.ref z) 2 >>= _) _ _ _
  refine wpAny_bind (wpAny_field hz rfl (x := .bool false) rfl ?_)
  show wpAny _ _ (field (.ref z) 3 >>= _) _ _ _
  refine wpAny_bind (wpAny_field hz rfl (x := .ref TI) rfl ?_)
  refine wpAny_bind (wpAny_seqItems hTI rfl ?_)
  show wpAny _ _ (Builtin.SmallTypes.ownedTupleIsFree (.ref z) >>= _) _ _ _
  refine wpAny_bind ?_
  unfold Builtin.SmallTypes.ownedTupleIsFree
  refine wpAny_bind (wpAny_field hz rfl (x := .none) rfl (wpAny_pure ?_))
  simp only [if_true]
  refine wpAny_bind (wpAny_rule ?_)
  refine wpAny_bind (wpAny_field hz rfl (x := .ref TO) rfl ?_)
  refine wpAny_bind (wpAny_setField_rec hz (by simp) fun h₁ hz₁ hs₁ => ?_)
  replace hz₁ : IsZip h₁ z TI TO .ellipsis := hz₁
  refine wpAny_bind ?_
  simp only [List.zipIdx_cons, List.zipIdx_nil, List.forIn_cons, List.forIn_nil]
  -- the first
  refine wpAny_bind (wpAny_bind (wpAny_onRaise ?_))
  show wpAny _ _ (Builtin.SmallTypes.nextOf (.ref i1) >>= _) _ _ _
  refine wpAny_bind (nextOf_tup_item (h1.extBut hs₁.extBut D.i1z) (hl1.extBut hs₁.extBut D.l1z) hx fun h₂ h1₂ hs₂ => wpAny_pure ?_)
  have hTO₂ : IsPair h₂ TO a b := hs₂.extBut _ _ D.TOi1 (hs₁.extBut _ _ D.TOz hTO)
  refine wpAny_bind (wpAny_seqItems hTO₂ rfl ?_)
  refine wpAny_bind (wpAny_updateSeq_pair hTO₂ fun h₃ hTO₃ hs₃ => ?_)
  replace hTO₃ : IsPair h₃ TO x b := hTO₃
  refine wpAny_bind (wpAny_letGo (wpAny_pure ?_))
  -- the second
  refine wpAny_bind (wpAny_bind (wpAny_onRaise ?_))
  show wpAny _ _ (Builtin.SmallTypes.nextOf (.ref i2) >>= _) _ _ _
  refine wpAny_bind (wpAny_nextOf_list_item (((h2.extBut hs₁.extBut D.i2z).extBut hs₂.extBut D.i12.symm).extBut hs₃.extBut D.TOi2.symm)
    (((hl2.extBut hs₁.extBut D.l2z).extBut hs₂.extBut D.l2i1).extBut hs₃.extBut D.l2TO) hy fun h₄ h2₄ hs₄ => wpAny_pure ?_)
  have hTO₄ : IsPair h₄ TO x b := hs₄.extBut _ _ D.TOi2 hTO₃
  refine wpAny_bind (wpAny_seqItems hTO₄ rfl ?_)
  refine wpAny_bind (wpAny_updateSeq_pair hTO₄ fun h₅ hTO₅ hs₅ => ?_)
  replace hTO₅ : IsPair h₅ TO x y := hTO₅
  refine wpAny_bind (wpAny_letGo (wpAny_pure (wpAny_pure ?_)))
  -- the pair
  refine wpAny_bind (wpAny_seqItems hTO₅ rfl ?_)
  refine wpAny_bind (wpAny_newTuple ?_)
  have hsz : h₅.objs.size = s.heap.objs.size := by rw [hs₅.1, hs₄.1, hs₃.1, hs₂.1, hs₁.1]
  have hz₅ : IsZip h₅ z TI TO .ellipsis := hs₅.extBut _ _ D.TOz.symm (hs₄.extBut _ _ D.i2z.symm (hs₃.extBut _ _ D.TOz.symm (hs₂.extBut _ _ D.i1z.symm hz₁)))
  have hk₅ : ∀ c o, c ≠ z → c ≠ TO → c ≠ i1 → c ≠ i2 → s.heap.get? c = some o → h₅.get? c = some o := fun c o c1 c2 c3 c4 e =>
    hs₅.extBut _ _ c2 (hs₄.extBut _ _ c4 (hs₃.extBut _ _ c2 (hs₂.extBut _ _ c3 (hs₁.extBut _ _ c1 e))))
  have h1₅ : h₅.IsTupleIter i1 l1 (k1 + 1) := ((h1₂.extBut hs₃.extBut D.TOi1.symm).extBut hs₄.extBut D.i12).extBut hs₅.extBut D.TOi1.symm
  have h2₅ : h₅.IsListIter i2 l2 (k2 + 1) := h2₄.extBut hs₅.extBut D.TOi2.symm
  have hzlt : z < h₅.objs.size := Heap.lt_size hz₅
  show wpAny _ _ (Builtin.SmallTypes.ownedTupleHandOut (.ref z) (.ref h₅.objs.size) >>= _) _ _ _
  refine wpAny_bind ?_
  unfold Builtin.SmallTypes.ownedTupleHandOut
  have hz₆ : IsZip (h₅.push { cls := .type "tuple", data := .seq #[x, y] }) z TI TO .ellipsis := Heap.get?_push_of_some _ hz₅
  refine wpAny_bind (wpAny_setField_rec hz₆ (by simp) fun h₇ hz₇ hs₇ => ?_)
  replace hz₇ : IsZip h₇ z TI TO (rawInt h₅.objs.size) := hz₇
  refine wpAny_setField_rec hz₇ (by simp) fun h₈ hz₈ hs₈ => ?_
  replace hz₈ : IsZip h₈ z TI TO (rawInt h₅.objs.size) := hz₈
  have up : ∀ c o, c ≠ z → h₅.get? c = some o → h₈.get? c = some o := fun c o c1 e => hs₈.extBut _ _ c1 (hs₇.extBut _ _ c1 (Heap.get?_push_of_some _ e))
  have hT₈ : IsPair h₈ h₅.objs.size x y := hs₈.extBut _ _ (Nat.ne_of_gt hzlt) (hs₇.extBut _ _ (Nat.ne_of_gt hzlt) (Heap.get?_push_size _ rfl))
  have hz8 : h₈.objs.size = h₅.objs.size + 1 := by rw [hs₈.1, hs₇.1, Heap.size_push]
  rw [hsz] at hz₈ hT₈ hz8
  refine wpAny_pure ⟨_, rfl, ?_⟩
  show Q (.ref h₅.objs.size) _
  rw [hsz]
  obtain ⟨o1, e1, r1⟩ := h1₅
  exact hQ h₈ hz₈ (up _ _ D.TOz hTO₅) ⟨o1, up _ o1 D.i1z e1, r1⟩ (h2₅.at fun o e => up _ o D.i2z e) hT₈ hz8 fun c o c1 c2 c3 c4 e => up c o c1 (hk₅ c o c1 c2 c3 c4 e)

/-- the end, when the tuple is through -/
theorem zipT_end {z TI TO i1 i2 l1 l2 : Addr} {k1 : Nat} {xs : Array Value} {Q : Fin → Shared → Prop} (hh : A.handled = none) (D : ZipApart z TI TO i1 i2 l1 l2)
    (hz : IsZip s.heap z TI TO .none) (hTI : IsPair s.heap TI (.ref i1) (.ref i2)) (h1 : s.heap.IsTupleIter i1 l1 k1) (hl1 : s.heap.IsTuple l1 xs) (hx : xs[k1]? = none)
    (hE : ∀ h' e, (∀ c o, c ≠ z → c ≠ i1 → s.heap.get? c = some o → h'.get? c = some o) → (∃ o, h'.get? e = some o ∧ o.cls = .type "StopIteration") → E (.ref e) { s with heap := h' }) :
    wpAny (model prog w) A (Builtin.«zip.__next__» ⟨[.ref z], []⟩) Q E s := by
  show wpAny _ _ (field (.ref z) 2 >>= _) _ _ _
  refine wpAny_bind (wpAny_field hz rfl (x := .bool false) rfl ?_)
  show wpAny _ _ (field (.ref z) 3 >>= _) _ _ _
  refine wpAny_bind (wpAny_field hz rfl (x := .ref TI) rfl ?_)
  refine wpAny_bind (wpAny_seqItems hTI rfl ?_)
  show wpAny _ _ (Builtin.SmallTypes.ownedTupleIsFree (.ref z) >>= _) _ _ _
  refine wpAny_bind ?_
  unfold Builtin.SmallTypes.ownedTupleIsFree
  refine wpAny_bind (wpAny_field hz rfl (x := .none) rfl (wpAny_pure ?_))
  simp only [if_true]
  refine wpAny_bind (wpAny_rule ?_)
  refine wpAny_bind (wpAny_field hz rfl (x := .ref TO) rfl ?_)
  refine wpAny_bind (wpAny_setField_rec hz (by simp) fun h₁ hz₁ hs₁ => ?_)
  replace hz₁ : IsZip h₁ z TI TO .ellipsis := hz₁
  refine wpAny_bind ?_
  simp only [List.zipIdx_cons, List.zipIdx_nil, List.forIn_cons, List.forIn_nil]
  refine wpAny_bind (wpAny_bind (wpAny_onRaise ?_))
  show wpAny _ _ (Builtin.SmallTypes.nextOf (.ref i1) >>= _) _ _ _
  refine wpAny_bind (nextOf_tup_end hh (h1.extBut hs₁.extBut D.i1z) (hl1.extBut hs₁.extBut D.l1z) hx fun h₂ e hs₂ he => ?_)
  obtain ⟨oe, hoe, hce⟩ := he
  have hz₂ : IsZip h₂ z TI TO .ellipsis := hs₂ _ _ D.i1z.symm hz₁
  have hez : e ≠ z := fun x => by subst x; rw [hz₂] at hoe; cases hoe; simp at hce
  refine wpAny_setField_rec hz₂ (by simp) fun h₃ _ hs₃ => hE h₃ e (fun c o c1 c3 x => hs₃.extBut _ _ c1 (hs₂ _ _ c3 (hs₁.extBut _ _ c1 x))) ⟨oe, hs₃.extBut _ _ hez hoe, hce⟩

theorem next_zipT_item {z TI TO i1 i2 l1 l2 : Addr} {k1 k2 : Nat} {xs ys : Array Value} {x y a b : Value} {Q : Option Value → Shared → Prop} (D : ZipApart z TI TO i1 i2 l1 l2)
    (hz : IsZip s.heap z TI TO .none) (hTI : IsPair s.heap TI (.ref i1) (.ref i2)) (hTO : IsPair s.heap TO a b)
    (h1 : s.heap.IsTupleIter i1 l1 k1) (h2 : s.heap.IsListIter i2 l2 k2) (hl1 : s.heap.IsTuple l1 xs) (hl2 : s.heap.IsList l2 ys) (hx : xs[k1]? = some x) (hy : ys[k2]? = some y)
    (hQ : ∀ h', IsZip h' z TI TO (rawInt s.heap.objs.size) → IsPair h' TO x y → h'.IsTupleIter i1 l1 (k1 + 1) → h'.IsListIter i2 l2 (k2 + 1) → IsPair h' s.heap.objs.size x y → h'.objs.size = s.heap.objs.size + 1 →
      (∀ c o, c ≠ z → c ≠ TO → c ≠ i1 → c ≠ i2 → s.heap.get? c = some o → h'.get? c = some o) → Q (some (.ref s.heap.objs.size)) { s with heap := h' }) :
    wpAny (model prog w) A (pyNext (.ref z)) Q E s := by
  have hT : s.TypeIs (.ref z) "zip" := ⟨_, hz, rfl⟩
  unfold pyNext
  exact wpAny_bind (wpAny_attempt (wpAny_callSpecial?_slot (name := Str.ofString "__next__") hT F.slot_zip_next
    (wpAny_call_entry F.slot_zip_next hT F.entry_zip_next
      (zipT_item D hz hTI hTO h1 h2 hl1 hl2 hx hy fun h' a1 a2 a3 a4 a5 a6 a7 => wpAny_pure (hQ h' a1 a2 a3 a4 a5 a6 a7)) (F.args_zip_next_1 _))))

theorem next_zipT_end {z TI TO i1 i2 l1 l2 : Addr} {k1 : Nat} {xs : Array Value} {Q : Option Value → Shared → Prop} (hh : A.handled = none) (D : ZipApart z TI TO i1 i2 l1 l2)
    (hz : IsZip s.heap z TI TO .none) (hTI : IsPair s.heap TI (.ref i1) (.ref i2)) (h1 : s.heap.IsTupleIter i1 l1 k1) (hl1 : s.heap.IsTuple l1 xs) (hx : xs[k1]? = none)
    (hQ : ∀ h', (∀ c o, c ≠ z → c ≠ i1 → s.heap.get? c = some o → h'.get? c = some o) → Q none { s with heap := h' }) : wpAny (model prog w) A (pyNext (.ref z)) Q E s := by
  have hT : s.TypeIs (.ref z) "zip" := ⟨_, hz, rfl⟩
  unfold pyNext
  refine wpAny_bind (wpAny_attempt (wpAny_callSpecial?_slot (name := Str.ofString "__next__") hT F.slot_zip_next
    (wpAny_call_entry F.slot_zip_next hT F.entry_zip_next (zipT_end hh D hz hTI h1 hl1 hx fun h' e hk he => ?_) (F.args_zip_next_1 _))))
  obtain ⟨o, ho, hc⟩ := he
  refine wpAny_bind (wpAny_isInstance (T := "StopIteration") (b := true) ⟨o, ho, hc⟩ isSubtype_stop ?_)
  exact wpAny_pure (hQ _ hk)
end

/-- the heap behind zip(tuple, list) -/
noncomputable abbrev zh1 (h : Heap) (l1 : Addr) : Heap := h.push { cls := .type "tuple_iterator", data := .fields #[.ref l1, .int 0 0] }
noncomputable abbrev zh2 (h : Heap) (l1 l2 : Addr) : Heap := (zh1 h l1).push { cls := .type "list_iterator", data := .fields #[.ref l2, .int 0 0] }
noncomputable abbrev zh3 (h : Heap) (l1 l2 : Addr) : Heap := (zh2 h l1 l2).push { cls := .type "tuple", data := .seq #[.ref h.objs.size, .ref (zh1 h l1).objs.size] }
noncomputable abbrev zh4 (h : Heap) (l1 l2 : Addr) : Heap := (zh3 h l1 l2).push { cls := .type "tuple", data := .seq #[.none, .none] }
noncomputable abbrev zh5 (h : Heap) (l1 l2 : Addr) : Heap := (zh4 h l1 l2).push { cls := .type "zip", data := .fields #[.none, .bool false, .bool false, .ref (zh2 h l1 l2).objs.size, .ref (zh3 h l1 l2).objs.size] }

set_option maxHeartbeats 4000000 in
theorem meets_zipT (l1 l2 : Addr) (xs ys : Array Value) :
    Meets (Builtin.«zip.__new__» ⟨[.type "zip", .ref l1, .ref l2], []⟩) (fun _ R s => s.heap.IsTuple l1 xs ∧ s.heap.IsList l2 ys ∧ R (.ok (.ret (.ref (zh4 s.heap l1 l2).objs.size))) { s with heap := zh5 s.heap l1 l2 }) :=
  .of_wp fun prog w A R s h => by
    obtain ⟨hp, g, d, tk, os⟩ := s; obtain ⟨hl1, hl2, h⟩ := h
    have hsub := sub_zip
    have hL1 : Heap.IsTuple (Shared.heap ⟨hp, g, d, tk, os⟩) l1 xs := hl1
    have hL2 : Heap.IsList (Shared.heap ⟨hp.push { cls := .type "tuple_iterator", data := .fields #[.ref l1, .int 0 0] }, g, d, tk, os⟩) l2 ys := Heap.IsList.push hl2 _
    wp_walk using wpAny_pyIter_tuple hL1, wpAny_pyIter_list hL2
    exact ⟨_, rfl, h⟩

theorem call_zipT {prog : Program} {w : World} {A : Around} {E : Value → Shared → Prop} {s : Shared} {l1 l2 : Addr} {xs ys : Array Value} {Q : Value → Shared → Prop} (hl1 : s.heap.IsTuple l1 xs) (hl2 : s.heap.IsList l2 ys)
    (h : ∀ h', IsZip h' (s.heap.objs.size + 4) (s.heap.objs.size + 2) (s.heap.objs.size + 3) .none → IsPair h' (s.heap.objs.size + 2) (.ref s.heap.objs.size) (.ref (s.heap.objs.size + 1)) →
      IsPair h' (s.heap.objs.size + 3) .none .none → h'.IsTupleIter s.heap.objs.size l1 0 → h'.IsListIter (s.heap.objs.size + 1) l2 0 → h'.objs.size = s.heap.objs.size + 5 →
      (∀ c o, s.heap.get? c = some o → h'.get? c = some o) → Q (.ref (s.heap.objs.size + 4)) { s with heap := h' }) :
    wpAny (model prog w) A (call (.type "zip") [.ref l1, .ref l2]) Q E s := by
  refine callType_new F.called_zip (by decide) (F.typeCall_zip_2 _ _) (F.newCall_zip_2 _ _) (fun obj => F.args_object_init_3 obj _ _) F.entry_zip_new
    (meets_zipT l1 l2 xs ys) ⟨hl1, hl2, ?_⟩
  have z1 : (zh1 s.heap l1).objs.size = s.heap.objs.size + 1 := Heap.size_push ..
  have z2 : (zh2 s.heap l1 l2).objs.size = s.heap.objs.size + 2 := by rw [Heap.size_push, z1]
  have z3 : (zh3 s.heap l1 l2).objs.size = s.heap.objs.size + 3 := by rw [Heap.size_push, z2]
  have z4 : (zh4 s.heap l1 l2).objs.size = s.heap.objs.size + 4 := by rw [Heap.size_push, z3]
  have z5 : (zh5 s.heap l1 l2).objs.size = s.heap.objs.size + 5 := by rw [Heap.size_push, z4]
  have g5 : (zh5 s.heap l1 l2).get? (zh4 s.heap l1 l2).objs.size = some _ := Heap.get?_push_size _ rfl
  have g4 : (zh5 s.heap l1 l2).get? (zh3 s.heap l1 l2).objs.size = some _ := Heap.get?_push_of_some _ (Heap.get?_push_size _ rfl)
  have g3 : (zh5 s.heap l1 l2).get? (zh2 s.heap l1 l2).objs.size = some _ := Heap.get?_push_of_some _ (Heap.get?_push_of_some _ (Heap.get?_push_size _ rfl))
  have g2 : (zh5 s.heap l1 l2).get? (zh1 s.heap l1).objs.size = some _ := Heap.get?_push_of_some _ (Heap.get?_push_of_some _ (Heap.get?_push_of_some _ (Heap.get?_push_size _ rfl)))
  have g1 : (zh5 s.heap l1 l2).get? s.heap.objs.size = some _ := Heap.get?_push_of_some _ (Heap.get?_push_of_some _ (Heap.get?_push_of_some _ (Heap.get?_push_of_some _ (Heap.get?_push_size _ rfl))))
  show _ ∧ _
  rw [z2, z3, z4] at g5
  rw [z1, z2] at g3
  rw [z3] at g4
  rw [z1] at g2
  rw [z4]
  exact ⟨⟨_, g5, rfl⟩, h _ g5 g3 g4 ⟨_, g1, rfl, rfl⟩ ⟨_, g2, rfl, rfl⟩ z5 fun c o x =>
    Heap.get?_push_of_some _ (Heap.get?_push_of_some _ (Heap.get?_push_of_some _ (Heap.get?_push_of_some _ (Heap.get?_push_of_some _ x))))⟩
end Mine

open PySem
namespace Mine
set_option maxRecDepth 100000

section
variable {base : Heap} {h h' : Heap}

/-- where zip stands -/
noncomputable def ZSt (z TI TO i1 i2 tA lA : Addr) (f : Value) (i : Nat) (h : Heap) : Prop :=
  IsZip h z TI TO f ∧ IsPair h TI (.ref i1) (.ref i2) ∧ (Ex2 fun p q => IsPair h TO p q) ∧ h.IsTupleIter i1 tA i ∧ h.IsListIter i2 lA i

theorem ZSt.keep {z TI TO i1 i2 tA lA a : Addr} {f : Value} {i : Nat} (x : ZSt z TI TO i1 i2 tA lA f i h) (hk : ∀ b o, b ≠ a → h.get? b = some o → h'.get? b = some o)
    (ha : ∀ o, h.get? a = some o → (∀ fs, o.data ≠ .fields fs) ∧ (o.cls = .type "tuple" → ∀ vs n, o.data ≠ .seq vs n)) : ZSt z TI TO i1 i2 tA lA f i h' := by
  obtain ⟨h1, h2, ⟨p, q, h3⟩, ⟨o4, h4, c4, d4⟩, ⟨o5, h5, c5, d5⟩⟩ := x
  have nf : ∀ {b o fs}, h.get? b = some o → o.data = .fields fs → b ≠ a := fun {b o fs} e d q => (ha o (q ▸ e)).1 fs d
  have nt : ∀ {b o vs n}, h.get? b = some o → o.cls = .type "tuple" → o.data = .seq vs n → b ≠ a := fun {b o vs n} e c d q => (ha o (q ▸ e)).2 c vs n d
  exact ⟨hk _ _ (nf h1 rfl) h1, hk _ _ (nt h2 rfl rfl) h2, ⟨p, q, hk _ _ (nt h3 rfl rfl) h3⟩, ⟨o4, hk _ _ (nf h4 d4) h4, c4, d4⟩, ⟨o5, hk _ _ (nf h5 d5) h5, c5, d5⟩⟩

/-- an env whose names hold ints stays -/
theorem env_keep {csc : Scope} {ce : Env} {Γ : List Str} {m : Loc} (W : EnvR base [] csc ce Γ m h) (hi : ∀ v, some v ∈ m → ∃ i, v = .int i)
    (hk : ∀ b o, ((∃ es ep, o.data = .dict es ep) ∨ ∃ v, o.data = .cell v) → h.get? b = some o → h'.get? b = some o) : EnvR base [] csc ce Γ m h' := by
  have ri : ∀ {v w}, some v ∈ m → Rep base [] h v w → Rep base [] h' v w := fun {v w} hv r => by
    obtain ⟨i, rfl⟩ := hi v hv; exact r
  refine ⟨W.kind, W.glob, W.blt, W.len, W.kinds, W.fresh, ?_, fun p hp => ?_, fun x i v hs hm hkd => ?_, W.inj, W.has⟩
  · obtain ⟨mm, ⟨o, es, ep, ho, hd, rest⟩, hv⟩ := W.ns
    refine ⟨mm, ⟨o, es, ep, hk _ _ (.inl ⟨es, ep, hd⟩) ho, hd, rest⟩, fun x i v hs hm hl => ?_⟩
    obtain ⟨w, hw, r⟩ := hv x i v hs hm hl
    exact ⟨w, hw, ri (List.mem_of_getElem? hm) r⟩
  · obtain ⟨hb, v, o, ho, hd⟩ := W.cellat p hp
    exact ⟨hb, v, o, hk _ _ (.inr ⟨_, hd⟩) ho, hd⟩
  · obtain ⟨c, w, hc, ⟨o, ho, hd⟩, r⟩ := W.cellv x i v hs hm hkd
    exact ⟨c, w, hc, ⟨o, hk _ _ (.inr ⟨_, hd⟩) ho, hd⟩, ri (List.mem_of_getElem? hm) r⟩

theorem rel_nil (R : ∀ a o, base.get? a = some o → h.get? a = some o) : Rel base [] [] h :=
  ⟨R, rfl, List.nodup_nil, fun a ha => (nomatch ha), fun xs hx => (nomatch hx), fun k a e => by simp at e⟩
theorem repL_ints {φ φ' : List Addr} : ∀ {acc : List V} {ys : List Value}, (∀ v ∈ acc, ∃ i, v = .int i) → RepL base φ h acc ys → RepL base φ' h' acc ys
  | [], _, _, r => r
  | v :: r, _, hi, ⟨u, us, e, hv, hr⟩ => ⟨u, us, e, by obtain ⟨i, rfl⟩ := hi v (.head _); exact hv, repL_ints (fun v hv => hi v (.tail _ hv)) hr⟩
end

section
variable {prog : Program} {w : World} {base : Heap} {A : Around} {csc : Scope} {ce : Env} {Γ : List Str} {z TI TO i1 i2 tA lA d : Addr} {s₁ : Shared} {i : Nat} {ys : List Value} {k : Nat} {m2 : Loc} {t : Shared}

/-- where the comprehension stands -/
noncomputable def ZK (base : Heap) (csc : Scope) (ce : Env) (Γ : List Str) (z TI TO i1 i2 tA lA d : Addr) (s₁ : Shared) (i : Nat) (ys : List Value) (k : Nat) (m2 : Loc) (t : Shared) : Prop :=
  ZSt z TI TO i1 i2 tA lA .none i t.heap ∧ (∀ a o, s₁.heap.get? a = some o → t.heap.get? a = some o) ∧ EnvR base [] csc ce Γ m2 t.heap ∧ t.heap.get? d = some ⟨.type "list", none, .seq ys.toArray k, #[]⟩ ∧ Ex2 fun hh tk => t = { s₁ with heap := hh, toks := tk }

noncomputable def IsBox (o : Obj) : Prop := (∃ es ep, o.data = .dict es ep) ∨ ∃ v, o.data = .cell v
theorem IsBox.nf {o : Obj} (b : IsBox o) (fs : Array Value) : o.data ≠ .fields fs := fun q => by
  rcases b with ⟨_, _, z⟩ | ⟨_, z⟩ <;> (rw [q] at z; cases z)
theorem IsBox.ns {o : Obj} (b : IsBox o) (vs : Array Value) (n : Nat) : o.data ≠ .seq vs n := fun q => by
  rcases b with ⟨_, _, z⟩ | ⟨_, z⟩ <;> (rw [q] at z; cases z)
/-- where a name is kept -/
noncomputable def At (ce : Env) (n : Str) (a : Addr) : Prop := a = ce.locals ∨ (ce.kindOf n = some .cell ∧ ce.cells.lookup n = some a)
theorem at_box {h : Heap} {n : Str} {a : Addr} {o : Obj} (W : EnvR base [] csc ce Γ m2 h) (ha : At ce n a) (e : h.get? a = some o) : IsBox o := by
  rcases ha with rfl | ⟨_, h2⟩
  · obtain ⟨mm, ⟨o', es, ep, ho, hd', _⟩, _⟩ := W.ns
    rw [e] at ho; cases ho; exact .inl ⟨es, ep, hd'⟩
  · obtain ⟨_, v, o', ho, hd'⟩ := W.cellat (n, a) (mem_of_lookup h2)
    rw [e] at ho; cases ho; exact .inr ⟨v, hd'⟩
theorem ne_of {h : Heap} {a b : Addr} {o : Obj} (hn : h.get? a = none) (e : h.get? b = some o) : b ≠ a := fun q => by
  rw [q, hn] at e; cases e
theorem ne_of2 {h : Heap} {a b : Addr} {o o' : Obj} (hn : h.get? a = some o') (e : h.get? b = some o) (n : o ≠ o') : b ≠ a := fun q => by
  rw [q, hn] at e; cases e; exact n rfl

theorem z_store {n : Str} {p : Pos} {j : Nat} {u : Int} {tu : Tok} {QQ : Unit → Shared → Prop} {EE : Value → Shared → Prop} (B : ∀ a o, base.get? a = some o → s₁.heap.get? a = some o)
    (hown : isOwn csc n = true) (hs : slot Γ n = some j) (F : ∀ a, At ce n a → s₁.heap.get? a = none)
    (Z : ZK base csc ce Γ z TI TO i1 i2 tA lA d s₁ i ys k m2 t) (K : ∀ t', ZK base csc ce Γ z TI TO i1 i2 tA lA d s₁ i ys k (m2.set j (some (.int u))) t' → QQ () t') :
    wpAny (model prog w) A (assign (.Name n p) ce (.int u tu)) QQ EE t := by
  obtain ⟨zs, ol, W, hd, h0, tk0, e0⟩ := Z
  refine wpAny_assign_Name (EnvR.store W (rel_nil fun a o e => ol a o (B a o e)) hown hs (v := .int u) ⟨tu, rfl⟩ fun s8 a8 ha8 st8 kp8 R8 W8 => ?_)
  obtain ⟨h8, tk8, e8⟩ := st8.same
  exact K s8 ⟨zs.keep kp8 fun o e => ⟨(at_box W ha8 e).nf, fun _ => (at_box W ha8 e).ns⟩, fun a o e => kp8 a o (ne_of (F a8 ha8) e) (ol a o e), W8,
    kp8 _ _ (fun q => (at_box W ha8 (q ▸ hd)).ns _ _ rfl) hd, h8, tk8, by rw [e8, e0]⟩

theorem list_nf {vs : Array Value} {n : Nat} (fs : Array Value) : (⟨.type "list", none, .seq vs n, #[]⟩ : Obj).data ≠ .fields fs := by simp
theorem list_nt {vs : Array Value} {n : Nat} (q : (⟨.type "list", none, .seq vs n, #[]⟩ : Obj).cls = .type "tuple") (us : Array Value) (j : Nat) : (⟨.type "list", none, .seq vs n, #[]⟩ : Obj).data ≠ .seq us j := by simp at q

/-- what zip's own objects are not -/
theorem z_apart {h : Heap} {b : Addr} {o : Obj} (zs : ZSt z TI TO i1 i2 tA lA .none i h) (e : h.get? b = some o) (nf : ∀ fs, o.data ≠ .fields fs) (nt : o.cls = .type "tuple" → ∀ vs n, o.data ≠ .seq vs n) :
    b ≠ z ∧ b ≠ TO ∧ b ≠ i1 ∧ b ≠ i2 := by
  obtain ⟨hz, _, ⟨p, q, hTO⟩, ⟨o1, g1, _, d1⟩, ⟨o2, g2, _, d2⟩⟩ := zs
  exact ⟨ne_of2 hz e (fun q => nf _ (by rw [q])), ne_of2 hTO e (fun q => nt (by rw [q]) _ _ (by rw [q])), ne_of2 g1 e (fun q => nf _ (q ▸ d1)), ne_of2 g2 e (fun q => nf _ (q ▸ d2))⟩

theorem z_next {tk' : Nat} {tp : Pos} {QE : Shared → Prop} {QI : Shared → Prop} {EE : Value → Shared → Prop} {x y : Str} {px py : Pos} {vsA vsL : List Value} {a b : Int} {t1 t2 : Tok}
    (hh : A.handled = none) (B : ∀ a o, base.get? a = some o → s₁.heap.get? a = some o) (DA : ZipApart z TI TO i1 i2 tA lA) (hT : s₁.heap.IsTuple tA vsA.toArray) (hL : s₁.heap.IsList lA vsL.toArray)
    (fz : s₁.heap.get? z = none) (fTO : s₁.heap.get? TO = none) (fi1 : s₁.heap.get? i1 = none) (fi2 : s₁.heap.get? i2 = none)
    (hox : isOwn csc x = true) (hoy : isOwn csc y = true) (sl0 : slot Γ x = some 0) (sl1 : slot Γ y = some 1) (Fx : ∀ a, At ce x a → s₁.heap.get? a = none) (Fy : ∀ a, At ce y a → s₁.heap.get? a = none)
    (e1 : vsA[i]? = some (.int a t1)) (e2 : vsL[i]? = some (.int b t2)) (hint : ∀ v, some v ∈ m2 → ∃ i, v = .int i) (hm2 : m2.length = 2)
    (Z : ZK base csc ce Γ z TI TO i1 i2 tA lA d s₁ i ys k m2 t) (K : ∀ t', ZK base csc ce Γ z TI TO i1 i2 tA lA d s₁ (i + 1) ys k [some (.int a), some (.int b)] t' → QI t') :
    wpAny (model prog w) A (pyNext (.ref z)) (fun r s => match r with
      | none => QE s
      | some v => wpAny (model prog w) A (letOwnedTupleGo (.Tuple [.Name x px, .Name y py] tk' tp) (.ref z) v) (fun _ s' => wpAny (model prog w) A (assign (.Tuple [.Name x px, .Name y py] tk' tp) ce v) (fun _ s₂ => QI s₂) EE s') EE s) EE t := by
  obtain ⟨zs, old, W2, hdt, h0, tk0, rfl⟩ := Z
  have zap := fun {b o} => z_apart (b := b) (o := o) zs
  obtain ⟨hz', hTI', ⟨p, q, hTO'⟩, h1', h2'⟩ := zs
  have hT' : Heap.IsTuple h0 tA vsA.toArray := by obtain ⟨o, ho, r⟩ := hT; exact ⟨o, old _ _ ho, r⟩
  have hL' : Heap.IsList h0 lA vsL.toArray := by obtain ⟨o, ho, r⟩ := hL; exact ⟨o, old _ _ ho, r⟩
  refine next_zipT_item DA hz' hTI' hTO' h1' h2' hT' hL' (by rw [List.getElem?_toArray]; exact e1) (by rw [List.getElem?_toArray]; exact e2) fun h₅ a1 a2 a3 a4 a5 a6 hk₅ => ?_
  refine wpAny_letOwnedTupleGo_zip a1 fun h₆ hz₆ hs₆ => ?_
  have hT6 : Heap.IsTuple h₆ h0.objs.size #[.int a t1, .int b t2] := ⟨_, hs₆.extBut _ _ (Nat.ne_of_gt (Heap.lt_size hz')) a5, rfl, 0, rfl⟩
  refine wpAny_assign_Tuple hh hT6 rfl rfl fun h₇ hb₇ => ?_
  have up7 : ∀ b o, h₆.get? b = some o → h₇.get? b = some o := fun b o e => hb₇ b o (Nat.ne_of_lt (Heap.lt_size e)) e
  have go7 : ∀ b o, (b ≠ z ∧ b ≠ TO ∧ b ≠ i1 ∧ b ≠ i2) → h0.get? b = some o → h₇.get? b = some o := fun b o n e => up7 _ _ (hs₆.extBut _ _ n.1 (hk₅ b o n.1 n.2.1 n.2.2.1 n.2.2.2 e))
  have Z7 : ZK base csc ce Γ z TI TO i1 i2 tA lA d s₁ (i + 1) ys k m2 { s₁ with heap := h₇, toks := tk0 } := by
    refine ⟨?_, fun a o e => go7 a o ⟨ne_of fz e, ne_of fTO e, ne_of fi1 e, ne_of fi2 e⟩ (old a o e), env_keep (h' := h₇) W2 hint fun b o hb e => go7 b o (zap e (IsBox.nf hb) fun _ => IsBox.ns hb) e, go7 _ _ (zap hdt list_nf list_nt) hdt, h₇, tk0, rfl⟩
    obtain ⟨o3, e3, r3⟩ := a3
    obtain ⟨o4, e4, r4⟩ := a4
    exact ⟨up7 _ _ hz₆, up7 _ _ (hs₆.extBut _ _ DA.TIz (hk₅ _ _ DA.TIz DA.TITO DA.TIi1 DA.TIi2 hTI')), ⟨_, _, up7 _ _ (hs₆.extBut _ _ DA.TOz a2)⟩, ⟨o3, up7 _ _ (hs₆.extBut _ _ DA.i1z e3), r3⟩, ⟨o4, up7 _ _ (hs₆.extBut _ _ DA.i2z e4), r4⟩⟩
  clear hk₅ a1 a2 a3 a4 a5 a6 hs₆ hz₆ hb₇ up7 go7 hT6 hT' hL' hTI' hTO' hz' h1' h2' zap W2 hdt old
  show wpAny (model prog w) A (holding [.int b t2] (assign (.Name x px) ce (.int a t1)) >>= fun _ => holding [] (assign (.Name y py) ce (.int b t2)) >>= fun _ => pure ()) _ _ _
  refine wpAny_bind (wpAny_holding (z_store B hox sl0 Fx Z7 fun s8 Z8 => wpAny_bind (wpAny_holding (z_store B hoy sl1 Fy Z8 fun s9 Z9 => wpAny_pure (K s9 ?_)))))
  match m2, hm2 with
  | [_, _], _ => exact Z9

theorem z_end {tg : Expr} {QE : Shared → Prop} {QI : Shared → Prop} {EE : Value → Shared → Prop} {vsA : List Value}
    (hh : A.handled = none) (DA : ZipApart z TI TO i1 i2 tA lA) (hT : s₁.heap.IsTuple tA vsA.toArray) (fz : s₁.heap.get? z = none) (fi1 : s₁.heap.get? i1 = none)
    (e1 : vsA[i]? = none) (hint : ∀ v, some v ∈ m2 → ∃ i, v = .int i)
    (Z : ZK base csc ce Γ z TI TO i1 i2 tA lA d s₁ i ys k m2 t)
    (K : ∀ h tk, (∀ a o, s₁.heap.get? a = some o → h.get? a = some o) → h.get? d = some ⟨.type "list", none, .seq ys.toArray k, #[]⟩ → EnvR base [] csc ce Γ m2 h → QE { s₁ with heap := h, toks := tk }) :
    wpAny (model prog w) A (pyNext (.ref z)) (fun r s => match r with
      | none => QE s
      | some v => wpAny (model prog w) A (letOwnedTupleGo tg (.ref z) v) (fun _ s' => wpAny (model prog w) A (assign tg ce v) (fun _ s₂ => QI s₂) EE s') EE s) EE t := by
  obtain ⟨zs, old, W2, hdt, h0, tk0, rfl⟩ := Z
  have zap := fun {b o} => z_apart (b := b) (o := o) zs
  obtain ⟨hz', hTI', _, h1', _⟩ := zs
  have hT' : Heap.IsTuple h0 tA vsA.toArray := by obtain ⟨o, ho, r⟩ := hT; exact ⟨o, old _ _ ho, r⟩
  refine next_zipT_end (k1 := i) hh DA hz' hTI' h1' hT' (by rw [List.getElem?_toArray]; exact e1) fun h₅ hk₅ => ?_
  have go : ∀ b o, (b ≠ z ∧ b ≠ TO ∧ b ≠ i1 ∧ b ≠ i2) → h0.get? b = some o → h₅.get? b = some o := fun b o n e => hk₅ b o n.1 n.2.2.1 e
  exact K h₅ tk0 (fun a o e => hk₅ a o (ne_of fz e) (ne_of fi1 e) (old a o e)) (go _ _ (zap hdt list_nf list_nt) hdt) (env_keep (h' := h₅) W2 hint fun b o hb e => go b o (zap e (IsBox.nf hb) fun _ => IsBox.ns hb) e)

theorem z_append {s' : Shared} {u : Value} {QI : Shared → Prop} {EE : Value → Shared → Prop} (hint : ∀ v, some v ∈ m2 → ∃ i, v = .int i) (hnd : s₁.heap.get? d = none) (hz : ys.length ≤ room)
    (Z : ZK base csc ce Γ z TI TO i1 i2 tA lA d s₁ i ys k m2 t) (up : ∀ b o, t.heap.get? b = some o → s'.heap.get? b = some o) (sh : ∃ hh tk, s' = { t with heap := hh, toks := tk })
    (K : ∀ k' t', ZK base csc ce Γ z TI TO i1 i2 tA lA d s₁ i (ys ++ [u]) k' m2 t' → QI t') :
    wpAny (model prog w) A (call (.builtin "list.append") [.ref d, u]) (fun _ s => QI s) EE s' := by
  obtain ⟨zs, old, W, hd, h0, tk0, rfl⟩ := Z
  obtain ⟨h10, tk10, rfl⟩ := sh
  have hd10 := up _ _ hd
  refine append_d (vs := ys) hd10 (fun h11 k11 hd11 hs11 => ?_) (by simp only [List.size_toArray, sizeLine]; unfold room at hz; lia)
  refine K k11 _ ⟨?_, fun a o e => hs11.extBut a o (ne_of hnd e) (up a o (old a o e)), env_keep W hint fun b o hb e => hs11.extBut b o (fun q => IsBox.ns hb _ _ (by rw [q, hd] at e; cases e; rfl)) (up b o e), hd11, h11, tk10, rfl⟩
  refine (ZSt.keep (a := d) zs (fun b o _ e => up b o e) fun o e => ?_).keep (a := d) hs11.extBut fun o e => ?_
  · rw [hd] at e; cases e; exact ⟨list_nf, list_nt⟩
  · rw [hd10] at e; cases e; exact ⟨list_nf, list_nt⟩

theorem zip_loop {C : Calls} {elt iter : Expr} {ex : X} {pos tp : Pos} {tk' : Nat} {x y : Str} {px py : Pos} {vsA vsL : List Value} {X Y : List Int} {PP : List V → Prop} {RR : Result → Shared → Prop}
    (hh : A.handled = none) (B : ∀ a o, base.get? a = some o → s₁.heap.get? a = some o) (DA : ZipApart z TI TO i1 i2 tA lA) (hT : s₁.heap.IsTuple tA vsA.toArray) (hL : s₁.heap.IsList lA vsL.toArray)
    (fz : s₁.heap.get? z = none) (fTO : s₁.heap.get? TO = none) (fi1 : s₁.heap.get? i1 = none) (fi2 : s₁.heap.get? i2 = none) (hnd : s₁.heap.get? d = none)
    (hall : ∀ n ∈ [x, y], isOwn csc n = true) (hxy : x ≠ y) (F : ∀ n ∈ [x, y], ∀ a, At ce n a → s₁.heap.get? a = none)
    (hI1 : PyProof.Rows.IntsAre vsA X) (hI2 : PyProof.Rows.IntsAre vsL Y) (hlen : X.length = Y.length) (hXr : X.length ≤ room) (IHe : SE prog w base C A elt ex csc [y, x] ce)
    (Z : ZK base csc ce [y, x] z TI TO i1 i2 tA lA d s₁ 0 [] 0 [none, none] t)
    (hpz : wpZip (fun x y P' => wpE C ex [some (.int x), some (.int y)] [] fun v _ => P' v) X Y [] PP)
    (K : ∀ acc ys k m2 h tk, PP acc → RepL base [] s₁.heap acc ys → (∀ v ∈ acc, ∃ i, v = .int i) → ys.length = X.length → (∀ a o, s₁.heap.get? a = some o → h.get? a = some o) → h.get? d = some ⟨.type "list", none, .seq ys.toArray k, #[]⟩ → EnvR base [] csc ce [y, x] m2 h → RR (.ok .next) { s₁ with heap := h, toks := tk }) :
    codeAny (model prog w) A (.compLoop (.ListComp elt [⟨.Tuple [.Name x px, .Name y py] tk' tp, iter, [], 0⟩] csc pos) 0 (.ref z) (.ref d) ce) RR t := by
  have sl0 : slot [y, x] x = some 0 := by
    have : (y == x) = false := by simpa using fun q : y = x => hxy q.symm
    simp [slot, this]
  have sl1 : slot [y, x] y = some 1 := by simp [slot]
  refine PyProof.Rows.LCp.codeAny_compLoop_pair (fun n t => Ex5 fun (i : Nat) (acc : List V) (ys : List Value) (k : Nat) (m2 : Loc) => And9 (n = X.length - i) (i ≤ X.length) (ZK base csc ce [y, x] z TI TO i1 i2 tA lA d s₁ i ys k m2 t) ((∀ v, some v ∈ m2 → ∃ i, v = .int i)) (m2.length = 2) (RepL base [] s₁.heap acc ys) ((∀ v ∈ acc, ∃ i, v = .int i)) (ys.length = i) (wpZip (fun x y P' => wpE C ex [some (.int x), some (.int y)] [] fun v _ => P' v) (X.drop i) (Y.drop i) acc PP)) ?_ X.length
    ⟨0, [], [], 0, [none, none], rfl, Nat.zero_le _, Z, fun v hv => by simp at hv, rfl, rfl, fun v hv => (nomatch hv), rfl, hpz⟩
  rintro n t ⟨i, acc, ys, k, m2, rfl, hi, Z, hint, hm2, hacc, haint, hal, hwz⟩
  have l1 := hI1.length
  rcases Nat.lt_or_ge i X.length with c | c
  rotate_left
  · have ei : i = X.length := Nat.le_antisymm hi c
    refine z_end hh DA hT fz fi1 (List.getElem?_eq_none (by rw [l1]; exact c)) hint Z fun h tk old hd W => K acc ys k m2 h tk ?_ hacc haint (hal.trans ei) old hd W
    rw [ei, List.drop_length] at hwz
    cases hdr : Y.drop X.length <;> (rw [hdr] at hwz; exact hwz)
  · obtain ⟨u1, hu1, t1, rfl⟩ := (ints_repL (base := base) (φ := []) (h := s₁.heap) hI1).get (i := i) (x := .int X[i]) (by simp [zl, c])
    have c' : i < Y.length := hlen ▸ c
    obtain ⟨u2, hu2, t2, rfl⟩ := (ints_repL (base := base) (φ := []) (h := s₁.heap) hI2).get (i := i) (x := .int Y[i]) (by simp [zl, c'])
    rw [List.drop_eq_getElem_cons c, List.drop_eq_getElem_cons c'] at hwz
    generalize X[i] = xi at *
    generalize Y[i] = yi at *
    have im : ∀ v, some v ∈ [some (V.int xi), some (V.int yi)] → ∃ i, v = .int i := fun v hv => by
      simp only [List.mem_cons, Option.some.injEq, List.not_mem_nil, or_false] at hv
      rcases hv with rfl | rfl <;> exact ⟨_, rfl⟩
    refine z_next hh B DA hT hL fz fTO fi1 fi2 (hall x (.head _)) (hall y (.tail _ (.head _))) sl0 sl1 (F x (.head _)) (F y (.tail _ (.head _))) hu1 hu2 hint hm2 Z fun t' Z' => ?_
    refine IHe _ [] [] t' _ _ _ (rel_nil fun a o e => Z'.2.1 a o (B a o e)) Z'.2.2.1 hwz fun v zv φ7 H7 s7 hp7 st7 R7 rz => ?_
    obtain ⟨qq, rfl⟩ : ∃ q, v = .int q := by
      cases v <;> first | exact ⟨_, rfl⟩ | exact hp7.elim
    obtain ⟨tz, rfl⟩ := rz
    refine z_append im hnd (by lia) Z' (fun b o e => st7.evo b o e (by simp) (by simp)) st7.same fun k' t'' Z'' => ?_
    refine ⟨X.length - (i + 1), by lia, i + 1, acc ++ [.int qq], ys ++ [.int qq tz], k', _, rfl, c, Z'', im, rfl, RepL.append hacc (show RepL base [] s₁.heap [.int qq] [.int qq tz] from ⟨_, [], rfl, ⟨tz, rfl⟩, rfl⟩), fun v hv => ?_, by rw [List.length_append, hal]; rfl, hp7⟩
    rcases List.mem_append.mp hv with q | q
    · exact haint v q
    · simp only [List.mem_singleton] at q; exact ⟨_, q⟩
end

section
variable {prog : Program} {w : World} {base : Heap} {D : Tabs} {T : Nat → Option Fn} {mg mb : Str → Option Value} {C : Calls} {A : Around}

set_option tactic.hygienic true
set_option maxHeartbeats 4000000 in
theorem zip_sound (G : Ground base D T mg mb) (hh : A.handled = none) : ZipSound prog w base D C A := by
  intro sc csc Γ env elt iter tg xs pos pos' a b ex use htg hci hok hown hall hlen hex IHi IHe m φ H s P Q E R W hw K
  obtain ⟨x, y, rfl⟩ : ∃ x y, xs = [x, y] := by
    match xs, hlen with
    | [x, y], _ => exact ⟨x, y, rfl⟩
  obtain ⟨px, py, tk', tp, rfl, hxy⟩ := tgts_two htg
  obtain ⟨f, fp, args, fpos, as, rfl, hd, hg, has, hm⟩ := inv_bin hci (.inr rfl)
  obtain ⟨_, rfl, rfl⟩ := mk_bin hm rfl
  have hsc : okScope csc = true := by unfold okComp at hok; simp only [Bool.and_eq_true] at hok; exact hok.1
  refine wpAny_comprehension_free (cl := clOf env csc.names []) rfl (fun y => rfl) (closureFor_eq (comp_free W hok)) (okScope_kind hsc) (fun p hp hl => by rw [okScope_once hsc hp, hl]) ?_
  simp only [ZF, ZE, ZM, ZO, ZD, ZH, Yb, ZN, Zu, ZS, ZP, ZZ, ZQ, ZA, ZC, ZT, Zt, ZB, Zs] at hw
  refine se_call_t (id := "zip") G (bt 15 rfl) hg hd has (by intro q; subst q; rw [cEs_nil] at has; cases has) (fun e' he z hz => IHi e' (by have := List.sizeOf_lt_of_mem he; simp; lia) z hz) R W
    (P := fun vs H' => match vs with
      | [v, z] => zipV (fun x y P' => wpE C ex [some (.int x), some (.int y)] [] fun v _ => P' v) v z H' P
      | _ => False) (by simpa [wes_nil, wes_cons] using hw) fun vs ws φ₁ H₁ s₁ hp st₁ R₁ rv => ?_
  split at hp
  rotate_left
  · exact hp.elim
  rename_i v z
  obtain ⟨us, eu, hp⟩ := optV_elim hp
  obtain ⟨k, vs, ez, hk, hp⟩ := refV_elim hp
  obtain ⟨X, hX, hp⟩ := optV_elim hp
  obtain ⟨Y, hY, hlen', hpz⟩ := optV_elim hp
  have eu := tup_eq eu
  subst eu
  subst ez
  obtain ⟨w1, r1, rfl, rv1, w2, r2, rfl, rv2, hr⟩ := rv
  rw [show r2 = [] from hr]
  obtain ⟨tA, vsA, rfl, hT, hrA, hzA⟩ := rv1
  obtain ⟨lA, vsL, nL, rfl, hφ, hpL, hrL⟩ := rep_ref R₁ rv2 hk
  have hI1 := ints_areL hX hrA
  have hI2 := ints_areL hY hrL
  have hL : s₁.heap.IsList lA vsL.toArray := ⟨_, hpL, rfl, nL, rfl⟩
  have ltA : tA < s₁.heap.objs.size := by obtain ⟨o, ho, _⟩ := hT; exact Heap.lt_size ho
  have ltL : lA < s₁.heap.objs.size := Heap.lt_size hpL
  refine call_zipT hT hL fun h₂ hz hTI hTO h1 h2 hsz kp₂ => ?_
  refine wpAny_pyIter_zip hz ?_
  refine wpAny_newList ?_ (by simp [sizeLine])
  have DA : ZipApart (s₁.heap.objs.size + 4) (s₁.heap.objs.size + 2) (s₁.heap.objs.size + 3) s₁.heap.objs.size (s₁.heap.objs.size + 1) tA lA := by
    have e1 : @LT.lt Nat _ tA s₁.heap.objs.size := ltA
    have e2 : @LT.lt Nat _ lA s₁.heap.objs.size := ltL
    constructor <;> (refine fun (q : @Eq Nat _ _) => ?_; lia)
  have kp₃ : ∀ a o, s₁.heap.get? a = some o → (h₂.push { cls := .type "list", data := .seq ([] : List Value).toArray }).get? a = some o := fun a o e => Heap.get?_push_of_some _ (kp₂ a o e)
  have W₁ := W.step R st₁
  have R₃ := R₁.grow kp₃
  have st₃ : Step [] φ₁ φ₁ s₁ { s₁ with heap := h₂.push { cls := .type "list", data := .seq ([] : List Value).toArray } } := Step.grow (tk := s₁.toks) kp₃
  have W₃ := W₁.step R₁ st₃
  refine comp_env hok W₃ R₃ [x, y] hown hall fun cenv s₄ kp₄ st₄ R₄ _ W₄ hC hcell => ?_
  have hnC : s₁.heap.get? cenv.locals = none := old_none st₃ hC
  have hd4 : s₄.heap.get? h₂.objs.size = some ⟨.type "list", none, .seq ([] : List Value).toArray 0, #[]⟩ := kp₄ _ _ (Heap.get?_push_size _ rfl)
  have hnd : s₁.heap.get? h₂.objs.size = none := get_ge _ (by lia)
  have zs4 : ZSt (s₁.heap.objs.size + 4) (s₁.heap.objs.size + 2) (s₁.heap.objs.size + 3) s₁.heap.objs.size (s₁.heap.objs.size + 1) tA lA .none 0 s₄.heap := by
    have up : ∀ b o, h₂.get? b = some o → s₄.heap.get? b = some o := fun b o e => kp₄ _ _ (Heap.get?_push_of_some _ e)
    obtain ⟨o1, e1, r1⟩ := h1
    obtain ⟨o2, e2, r2⟩ := h2
    exact ⟨up _ _ hz, up _ _ hTI, ⟨_, _, up _ _ hTO⟩, ⟨o1, up _ _ e1, r1⟩, ⟨o2, up _ _ e2, r2⟩⟩
  have old4 : ∀ a o, s₁.heap.get? a = some o → s₄.heap.get? a = some o := fun a o e => kp₄ _ _ (kp₃ _ _ e)
  have fz : s₁.heap.get? (s₁.heap.objs.size + 4) = none := get_ge _ (by lia)
  have fTI : s₁.heap.get? (s₁.heap.objs.size + 2) = none := get_ge _ (by lia)
  have fTO : s₁.heap.get? (s₁.heap.objs.size + 3) = none := get_ge _ (by lia)
  have fi2 : s₁.heap.get? (s₁.heap.objs.size + 1) = none := get_ge _ (by lia)
  have fi1 : s₁.heap.get? s₁.heap.objs.size = none := get_size _
  generalize h₂.objs.size = d at hd4 hnd ⊢
  generalize s₁.heap.objs.size + 4 = zA at *
  generalize s₁.heap.objs.size + 2 = TI at *
  generalize s₁.heap.objs.size + 3 = TO at *
  generalize s₁.heap.objs.size + 1 = i2 at *
  generalize s₁.heap.objs.size = i1 at *
  have E4 : EnvR base [] csc { cenv with scope := relabel csc env } [y, x] [none, none] s₄.heap := by
    obtain ⟨mm, hn, _⟩ := W₄.ns
    have nm : ∀ {i : Nat} {v : V}, ([none, none] : Loc)[i]? = some (some v) → False := fun {i v} hm => by
      have := List.mem_of_getElem? hm
      simp at this
    exact ⟨W₄.kind, W₄.glob, W₄.blt, rfl, W₄.kinds, W₄.fresh, ⟨mm, hn, fun x i v _ hm _ => (nm hm).elim⟩, W₄.cellat, fun x i v _ hm _ => (nm hm).elim, W₄.inj, W₄.has⟩
  have hF : ∀ n ∈ [x, y], ∀ a, At { cenv with scope := relabel csc env } n a → s₁.heap.get? a = none := fun n hn a ha => by
    rcases ha with rfl | ⟨h1, h2⟩
    · exact hnC
    · exact old_none st₃ (hcell n hn a h1 h2)
  have hXr : X.length ≤ room := by
    have := hI1.length; have := hrA.length; lia
  obtain ⟨hh4, tk4, e4⟩ := st₄.same
  have hbn : ∀ {a : Addr}, s₁.heap.get? a = none → base.get? a = none := fun {a} q => by
    cases z : base.get? a with
    | none => rfl
    | some o => rw [R₁.keep a o z] at q; cases q
  have hloop : codeAny (model prog w) A (.compLoop (.ListComp elt [⟨.Tuple [.Name x px, .Name y py] tk' tp, .Call (.Name (Str.ofString "zip") fp) args [] fpos, [], 0⟩] csc pos) 0 (.ref zA) (.ref d) { cenv with scope := relabel csc env }) (compPost (model prog w) A E use Q (.ref d) cenv.locals) s₄ := by
    refine zip_loop hh R₁.keep DA hT hL fz fTO fi1 fi2 hnd hall hxy hF hI1 hI2 hlen' hXr (IHe _) ⟨zs4, old4, E4, hd4, hh4, tk4, by rw [e4]⟩ hpz fun acc ys k m2 h5 tk5 hwz hacc haint hys old5 hd5 W5 => ?_
    obtain ⟨R6, r6⟩ := (R₁.grow old5).adopt (R₁.none_not hnd) (hbn hnd) hd5 (repL_ints (φ' := φ₁) (h' := h5) haint hacc) (by have := hacc.length; lia)
    obtain ⟨mm, hn5, _⟩ := W5.ns
    refine K d cenv.locals φ₁ H₁ _ acc hwz ((st₁.trans (Step.grow (tk := tk5) old5)).adopt (old_none st₁ hnd)) R6 r6 ⟨mm, hn5⟩ (old_none st₁ hnC) (hbn hnC) fun q => ?_
    rcases List.mem_append.mp q with q | q
    · exact R₁.none_not hnC q
    · simp only [List.mem_singleton] at q
      obtain ⟨o, es, ep, ho, hd', _⟩ := hn5
      rw [q, hd5] at ho; cases ho; cases hd'
  exact codeAny_compStart_list hloop (wpAny_pyIter_zip zs4.1 hloop)
set_option tactic.hygienic false

end
end Mine

open PySem
namespace Mine

section
variable {prog : Program} {w : World} {base : Heap} {D : Tabs} {T : Nat → Option Fn} {mg mb : Str → Option Value} {C : Calls} {A : Around} {sc : Scope} {Γ : List Str} {env : Env}

theorem ss_ret {e : Expr} {x : X} {pos : Pos} (he : SE prog w base C A e x sc Γ env) : SS prog w base C A (.Return (some e) pos) (.ret x) sc Γ env := fun m φ H s Q QQ E R W hw K => by
  simp only [ws_assign, ws_unpack, ws_setItem, ws_append, ws_expr, ws_ite, ws_loop, ws_each, ws_ret, ws_raise] at hw
  exact wpAny_Return_some (he m φ H s _ _ E R W hw fun v y φ' H' s' hp st R' r => K (.ret v) (.ret y) m φ' H' s' hp (up _ st) R' (W.step R st) ⟨y, rfl, r⟩)

theorem ss_if {t : Expr} {b c : List Stmt} {xt : X} {xb xc : List S} {pos : Pos} (ht : ST prog w base C A t xt sc Γ env) (hb : SSs prog w base C A b xb sc Γ env) (hc : SSs prog w base C A c xc sc Γ env) :
    SS prog w base C A (.If t b c pos) (.ite xt xb xc) sc Γ env := fun m φ H s Q QQ E R W hw K => by
  simp only [ws_assign, ws_unpack, ws_setItem, ws_append, ws_expr, ws_ite, ws_loop, ws_each, ws_ret, ws_raise] at hw
  refine wpAny_If (ht m φ H s _ _ E R W hw (fun v bb φ' H' s' hp hv st R' => ?_) fun v H' hp => ?_)
  · rw [hv] at hp
    cases bb with
    | true => simp only [if_true]; exact hb m φ' H' s' Q QQ E R' (W.step R st) hp (K.after (up _ st))
    | false => simp only [Bool.false_eq_true, if_false]; exact hc m φ' H' s' Q QQ E R' (W.step R st) hp (K.after (up _ st))
  · cases q : truth v with
    | none => rw [q] at hp; exact hp.elim
    | some b => exact ⟨b, rfl⟩

set_option tactic.hygienic true
theorem ss_expr {f : Str} {fp cp pos : Pos} {args : List Expr} {k : Nat} {as : List X} (he : SE prog w base C A (.Call (.Name f fp) args [] cp) (.call k as) sc Γ env) : SS prog w base C A (.Expr (.Call (.Name f fp) args [] cp) pos) (.expr k as) sc Γ env := fun m φ H s Q QQ E R W hw K => by
  simp only [ws_assign, ws_unpack, ws_setItem, ws_append, ws_expr, ws_ite, ws_loop, ws_each, ws_ret, ws_raise] at hw
  refine wpAny_Expr_any (he m φ H s (fun v H₂ => ended v m H₂ Q) _ E R W (by rw [ZA]; exact hw) fun v y φ' H' s' hp st R' r => ?_) (by unfold interactive; rw [W.kind]; rfl) rfl
  replace hp : ended v m H' Q := hp
  exact K .next .next m φ' H' s' hp (up _ st) R' (W.step R st) rfl
set_option tactic.hygienic false

set_option tactic.hygienic true
theorem ss_unpack (hh : A.handled = none) {x y : Str} {p q p' pos : Pos} {k : Nat} {v : Expr} {i j : Nat} {e : X} (hx : isOwn sc x = true) (hy : isOwn sc y = true) (hxy : x ≠ y) (hi : slot Γ x = some i) (hj : slot Γ y = some j) (hpl : plainPair v = true) (hv : SE prog w base C A v e sc Γ env) :
    SS prog w base C A (.Assign [.Tuple [.Name x p, .Name y q] k p'] v pos) (.unpack [i, j] e) sc Γ env := fun m φ H s Q QQ E R W hw K => by
  simp only [ws_assign, ws_unpack, ws_setItem, ws_append, ws_expr, ws_ite, ws_loop, ws_each, ws_ret, ws_raise] at hw
  obtain ⟨⟨f, args, pc⟩, hv'⟩ := Option.isSome_iff_exists.mp hpl
  cases callOf_eq hv'
  refine PyProof.Rows.Assign_Tuple (hv m φ H s _ _ E R W hw fun u z φ' H' s' hp st R' r => ?_) rfl rfl
  cases hm : put [i, j] u m with
  | none => rw [hm] at hp; exact hp.elim
  | some m₁ =>
    rw [hm] at hp
    exact put_sound (xs := [x, y]) (is := [i, j]) hh (if_neg (fun q => hxy (eq_of_beq q)) : (if (x == y) = true then none else some [x, y]) = some [x, y]) (slots_step hi (slots_step hj rfl)) (fun z hz => (List.mem_cons.mp hz).elim (fun e => e ▸ hx) fun hz => List.mem_singleton.mp hz ▸ hy) hm R' (W.step R st) r fun s'' st' R'' W'' => K .next .next m₁ φ' H' s'' hp ((up _ st).trans st') R'' W'' rfl
set_option tactic.hygienic false

set_option tactic.hygienic true
/-- a while -/
theorem ss_while {t : Expr} {b : List Stmt} {xt : X} {xb : List S} {pos : Pos} (ht : ST prog w base C A t xt sc Γ env) (hb : SSs prog w base C A b xb sc Γ env) : SS prog w base C A (.While t b [] pos) (.loop xt xb) sc Γ env := fun m φ H s Q QQ E R W hw K => by
  simp only [ws_assign, ws_unpack, ws_setItem, ws_append, ws_expr, ws_ite, ws_loop, ws_each, ws_ret, ws_raise] at hw
  obtain ⟨n, hn⟩ := hw
  refine wpAny_While (codeAny_whileLoop (fun k t' => Ex3 fun m' φ' H' => And4 (Step (own env) φ φ' s t') (Rel base φ' H' t'.heap) (EnvR base φ' sc env Γ m' t'.heap) (wpLoop (wpE C xt) (fun m H Q => wpSs C xb m H Q) Q k m' H')) ?_ n ⟨m, φ, H, Step.refl _ _ _, R, W, hn⟩)
  rintro k t' ⟨m', φ', H', st, R', W', hl⟩
  cases k with
  | zero => exact hl.elim
  | succ k =>
    refine ht m' φ' H' t' (fun c H₁ => match truth c with | some true => wpSs C xb m' H₁ (fun f m' H' => match f with | .next => wpLoop (wpE C xt) (fun m H Q => wpSs C xb m H Q) Q k m' H' | .ret v => Q (.ret v) m' H') | some false => Q .next m' H₁ | none => False) _ _ R' W' hl (fun v bb φ₁ H₁ s₁ hp hv st₁ R₁ => ?_) fun v H' hp => ?_
    · rw [hv] at hp
      have W₁ := W'.step R' st₁
      cases bb with
      | true =>
        simp only [if_true]
        refine hb m' φ₁ H₁ s₁ _ _ _ R₁ W₁ hp fun fl f m₂ φ₂ H₂ s₂ hq st₂ R₂ W₂ hf => ?_
        cases fl with
        | next =>
          rw [show f = .next from hf]
          exact ⟨k, Nat.lt_succ_self _, m₂, φ₂, H₂, (st.trans (up _ st₁)).trans st₂, R₂, W₂, hq⟩
        | ret x =>
          obtain ⟨y, rfl, r⟩ := hf
          exact K (.ret x) (.ret y) m₂ φ₂ H₂ s₂ hq ((st.trans (up _ st₁)).trans st₂) R₂ W₂ ⟨y, rfl, r⟩
      | false =>
        simp only [Bool.false_eq_true, if_false]
        exact wpAny_execs_nil (K .next .next m' φ₁ H₁ s₁ hp (st.trans (up _ st₁)) R₁ W₁ rfl)
    · cases q : truth v with
      | none => rw [q] at hp; exact hp.elim
      | some b => exact ⟨b, rfl⟩
set_option tactic.hygienic false

theorem tg_ok {tg : Expr} {xs : List Str} {it : It} (htg : tgts tg = some xs) (hit : okIt it xs.length = true) : TgOk it tg := by
  have one : xs.length = 1 → ∃ x p, tg = .Name x p := fun h => by
    obtain ⟨x, rfl⟩ := List.length_eq_one_iff.mp h
    obtain ⟨p, rfl⟩ := tgts_one htg
    exact ⟨x, p, rfl⟩
  cases it with
  | enum =>
    have h2 := eq_of_beq (show (xs.length == 2) = true from hit)
    cases xs with
    | nil => cases h2
    | cons x r => cases r with
      | nil => cases h2
      | cons y r => cases r with
        | cons _ _ => cases h2
        | nil =>
          obtain ⟨p, q, k, p', rfl, _⟩ := tgts_two htg
          exact ⟨fun _ => ⟨_, _, _, rfl⟩, fun q => absurd rfl q⟩
  | _ => exact ⟨(fun q => nomatch q), fun _ => one (eq_of_beq (show (xs.length == 1) = true from hit))⟩
set_option tactic.hygienic true
/-- a for, over any body -/
theorem for_gen (G : Ground base D T mg mb) (hh : A.handled = none) {tg iter : Expr} {b : List Stmt} {xs : List Str} {is : List Nat} {ix : X} {pos : Pos} (htg : tgts tg = some xs) (hs : slots Γ xs = some is) (hown : ∀ x ∈ xs, isOwn sc x = true) (hit : okIt (itOf ix).1 xs.length = true)
    (hci : cE D sc Γ iter = some ix) (IHi : ∀ e', sizeOf e' ≤ sizeOf iter → ∀ y, cE D sc Γ e' = some y → SE prog w base C A e' y sc Γ env)
    {Wb : Loc → Hp → PF → Prop} {m : Loc} {φ : List Addr} {H : Hp} {s : Shared} {Q : PF} {QQ : Flow → Shared → Prop} {E : Value → Shared → Prop}
    (hb : ∀ m' φ' H' s' Q' QQ', Step (own env) φ φ' s s' → Rel base φ' H' s'.heap → EnvR base φ' sc env Γ m' s'.heap → Wb m' H' Q' → ContF base sc Γ env φ' s' Q' QQ' →
      wpAny (model prog w) A (execs b env) QQ' (notedBy (model prog w) A env fun e s' => cameBackBy (model prog w) A env E e s') s')
    (R : Rel base φ H s.heap) (W : EnvR base φ sc env Γ m s.heap)
    (hw : wpE C (itOf ix).2.1 m H fun v H₁ => wpE C (itOf ix).2.2 m H₁ fun z H₂ => match items (itOf ix).1 v z H₂ with | some (vs, src) => wpEach is Wb src Q vs m H₂ | none => False)
    (K : ContF base sc Γ env φ s Q QQ) : wpAny (model prog w) A (exec (.For tg iter b [] pos) env) QQ E s := by
  have hnotset : ∀ y, foldedSetIterable iter env y = pure y := fun y => by
    exact cE_elim (M := fun e _ => foldedSetIterable e env y = pure y) (by intros; rfl) (by intros; rfl) (by intros; rfl) (by intros; rfl) (by intros; rfl) (by intros; rfl) (by intros; rfl) (by intros; rfl) (by intros; rfl) (by intros; rfl) (by intros; rfl) (by intros; rfl) (by intros; rfl) (by intros; rfl) _ _ hci
  have htok := tg_ok htg hit
  refine wpAny_For (source G (.inl hh) htok hci (fun e' he => IHi e' he.size) R W (P := fun vs src H' => wpEach is Wb src Q vs m H') hw fun vs src φ₁ H₁ s₁ I wr St Mid hp st₁ R₁ Wk st0 hwr hz => ?_) hnotset
  have W₁ := W.step R st₁
  refine codeAny_forLoop_any (fun n t => Ex4 fun (i : Nat) (m' : Loc) (φ' : List Addr) (H' : Hp) => And7 (n = vs.length - i) (i ≤ vs.length) (St i φ' t.heap) (Rel base φ' H' t.heap) (EnvR base φ' sc env Γ m' t.heap) (Step (own env) φ φ' s t) (wpEach is Wb src Q (vs.drop i) m' H')) ?_ vs.length ⟨0, m, φ₁, H₁, by simp, Nat.zero_le _, st0, R₁, W₁, up _ st₁, by simpa using hp⟩
  rintro n t ⟨i, m', φ', H', rfl, hi, hst, Rt, Wt, sst, hwc⟩
  have hF : Fields wr t.heap := Wk.fields hst
  have hwb : ∀ b ∈ wr, base.get? b = none := fun b hb => R.out (hwr b hb)
  cases hdr : vs.drop i with
  | nil =>
    cases drop_end hdr hi
    rw [hdr] at hwc
    obtain ⟨hstill, hQ⟩ := hwc
    refine Wk.done t φ' H' _ _ hst Rt hstill fun h' tk hk => ?_
    exact wpAny_execs_nil (K .next .next m' φ' H' _ hQ (sst.skip hwr hk ⟨_, _, rfl⟩) (Rt.butL hF hwb hk) (Wt.butL hF hk) rfl)
  | cons v rest =>
    obtain ⟨hv, hrest, hil⟩ := drop_at hdr
    rw [hdr] at hwc
    obtain ⟨hstill, hturn⟩ := hwc
    refine Wk.next i v t φ' H' _ _ hv hst Rt hstill fun xv h' tk hmid rv hk => ?_
    refine Wk.go i xv { t with heap := h', toks := tk } φ' _ _ hmid fun h'' hst' hk' => ?_
    have kall : ∀ b o, b ∉ wr → t.heap.get? b = some o → h''.get? b = some o := fun b o hb e => hk' b o hb (hk b o hb e)
    have R4 := Rt.butL (h' := h'') hF hwb kall
    have W4 := Wt.butL (h' := h'') hF kall
    have rv' : Rep base φ' h'' v xv := by
      refine Rep.mono (List.prefix_refl _) (fun c o e c' => ?_) _ _ rv
      refine hk' c o (fun q => ?_) e
      exact (Wk.wrmid i xv φ' h' hmid c q).elim fun o' ⟨fs, h1, h2⟩ => by
        rw [e] at h1; cases h1
        exact c'.not_fields h2
    cases hm : put is v m' with
    | none => rw [hm] at hturn; exact hturn.elim
    | some m₁ =>
      rw [hm] at hturn
      refine put_sound hh htg hs hown hm (s := { t with heap := h'', toks := tk }) R4 W4 rv' fun s5 st5 R5 W5 => ?_
      have st4 : Step (own env) φ φ' s { t with heap := h'', toks := tk } := sst.skip hwr kall ⟨_, _, rfl⟩
      have hst5 : St (i + 1) φ' s5.heap := Wk.frame (i + 1) φ' φ' h'' s5.heap hst' (List.prefix_refl _) (fun b o fs hb e hd => st5.walk R4 W4 b o fs e hd) (st5.tups R4 W4)
      refine hb m₁ φ' H' s5 _ _ (st4.trans st5) R5 W5 hturn fun fl f m₆ φ₆ H₆ s₆ hq st₆ R₆ W₆ hf => ?_
      cases fl with
      | next =>
        rw [show f = .next from hf]
        refine ⟨vs.length - (i + 1), Nat.sub_succ_lt_self _ _ hil, i + 1, m₆, φ₆, H₆, rfl, hil, ?_, R₆, W₆, (st4.trans st5).trans st₆, by rw [hrest]; exact hq⟩
        exact Wk.frame (i + 1) φ' φ₆ s5.heap s₆.heap hst5 st₆.pre (fun b o fs hb e hd => st₆.walk R5 W5 b o fs e hd) (st₆.tups R5 W5)
      | ret x =>
        obtain ⟨y, rfl, r⟩ := hf
        exact K (.ret x) (.ret y) m₆ φ₆ H₆ s₆ hq ((st4.trans st5).trans st₆) R₆ W₆ ⟨y, rfl, r⟩
set_option tactic.hygienic false

/-- a for -/
theorem ss_for (G : Ground base D T mg mb) (hh : A.handled = none) {tg iter : Expr} {b : List Stmt} {xs : List Str} {is : List Nat} {ix : X} {xb : List S} {pos : Pos} (htg : tgts tg = some xs) (hs : slots Γ xs = some is) (hown : ∀ x ∈ xs, isOwn sc x = true) (hit : okIt (itOf ix).1 xs.length = true)
    (hci : cE D sc Γ iter = some ix) (IHi : ∀ e', sizeOf e' ≤ sizeOf iter → ∀ y, cE D sc Γ e' = some y → SE prog w base C A e' y sc Γ env) (hb : SSs prog w base C A b xb sc Γ env) :
    SS prog w base C A (.For tg iter b [] pos) (.each is (itOf ix).1 (itOf ix).2.1 (itOf ix).2.2 xb) sc Γ env := fun m φ H s Q QQ E R W hw K => by
  rw [ws_each] at hw
  exact for_gen G hh htg hs hown hit hci IHi (fun m' φ' H' s' Q' QQ' _ R' W' hw' K' => hb m' φ' H' s' Q' QQ' _ R' W' hw' K') R W hw K
end
end Mine

open PySem
namespace Mine

section
variable {prog : Program} {w : World} {base : Heap} {D : Tabs} {T : Nat → Option Fn} {mg mb : Str → Option Value} {C : Calls} {A : Around}

/-- every tree is sound -/
noncomputable def SAll (prog : Program) (w : World) (base : Heap) (D : Tabs) (C : Calls) (A : Around) : Prop := ∀ (e : Expr) (sc : Scope) (Γ : List Str) (env : Env) (x : X), cE D sc Γ e = some x → SE prog w base C A e x sc Γ env ∧ ST prog w base C A e x sc Γ env
set_option tactic.hygienic true
/-- a name is told by a list that is made for it -/
theorem ss_comp (G : Ground base D T mg mb) (hh : A.handled = none) (hZ : D.zips = true → ZipSound prog w base D C A) (hE : SAll prog w base D C A) {sc : Scope} {Γ : List Str} {env : Env} {y : Str} {p pos cp : Pos} {i : Nat} {elt : Expr} {gens : List Comprehension} {csc : Scope} {e : X}
    (hown : isOwn sc y = true) (h1 : slot Γ y = some i) (h2 : cE D sc Γ (.ListComp elt gens csc cp) = some e) (hsw : swapsWith (.ListComp elt gens csc cp) (some (.Name y p)) pos.line env = pure true) :
    SS prog w base C A (.Assign [.Name y p] (.ListComp elt gens csc cp) pos) (.assign i e) sc Γ env := fun m φ H s Q QQ E R W hw K => by
  rw [exec_Assign_Name_used _ _ _ _ hsw]
  refine wpAny_bind (wpAny_standAt ?_)
  obtain ⟨tg, iter, ifs, rfl, hcc⟩ := inv_comp h2
  refine wpAny_bind ?_
  show wpAny (model prog w) A (comprehension (.ListComp elt [⟨tg, iter, ifs, 0⟩] csc cp) csc env iter.pos (newList []) false (eval iter env) (some (assign (.Name y p) env)) >>= fun _ => pure ()) _ E s
  refine wpAny_bind (wpAny_mono (Q := fun _ s'' => QQ .next s'') ?_ (fun _ s'' h => wpAny_pure (wpAny_pure h)) fun _ _ h => h)
  have fin : ∀ v φ' H' s', Q .next (m.set i (some v)) H' → Step (own env) φ φ' s s' → Rel base φ' H' s'.heap → EnvR base φ' sc env Γ (m.set i (some v)) s'.heap → QQ .next s' :=
    fun v φ' H' s' hq st R' W' => K .next .next _ φ' H' s' hq st R' W' rfl
  obtain ⟨xs, q1, ⟨hok, hownc, hall⟩, ⟨a, b, ex, q2, hz, hlen, rfl, hex, _, rfl⟩ | ⟨ix, cx, ex, q2, hlen, hit, h3, h4, rfl⟩⟩ := cComp_cases hcc
  · exact hZ hz sc csc Γ env elt iter tg xs cp _ a b ex _ q1 q2 hok hownc hall hlen hex (fun e' _ z hz => (hE e' sc Γ env z hz).1) (fun cenv => (hE elt csc xs.reverse cenv ex hex).1) m φ H s _ _ E R W hw (comp_some hown h1 R W fin)
  · obtain ⟨z, rfl⟩ := List.length_eq_one_iff.mp hlen
    obtain ⟨px, rfl⟩ := tgts_one q1
    exact comp_core G (.inl hh) q2 (okIt_ne hit) hok hownc (hall z (.head _)) h3 h4 (fun e' _ z hz => (hE e' sc Γ env z hz).1) (fun cenv => (hE elt csc _ cenv ex h4).1) (fun cenv e he z hz => (hE e csc _ cenv z hz).2) R W hw (comp_some hown h1 R W fin)
set_option tactic.hygienic false

set_option tactic.hygienic true
theorem ss_name (G : Ground base D T mg mb) (hh : A.handled = none) (hZ : D.zips = true → ZipSound prog w base D C A) (hE : SAll prog w base D C A) {sc : Scope} {Γ : List Str} {env : Env} {y : Str} {p pos : Pos} {i : Nat} {v : Expr} {e : X}
    (hown : isOwn sc y = true) (h1 : slot Γ y = some i) (h2 : cE D sc Γ v = some e) : SS prog w base C A (.Assign [.Name y p] v pos) (.assign i e) sc Γ env := by
  have go := fun q => ss_assign (pos := pos) (p := p) hown h1 (hE v sc Γ env e h2).1 q
  refine cE_elim (M := fun v e => (swapsWith v (some (.Name y p)) pos.line env = pure false → SS prog w base C A (.Assign [.Name y p] v pos) (.assign i e) sc Γ env) → cE D sc Γ v = some e → SS prog w base C A (.Assign [.Name y p] v pos) (.assign i e) sc Γ env)
    (by intros; rename_i q _; exact q rfl) (by intros; rename_i q _; exact q rfl) (by intros; rename_i q _; exact q rfl) (by intros; rename_i q _; exact q rfl) (by intros; rename_i q _; exact q rfl) (by intros; rename_i q _; exact q rfl) (by intros; rename_i q _; exact q rfl) (by intros; rename_i q _; exact q rfl) (by intros; rename_i q _; exact q rfl) (by intros; rename_i q _; exact q rfl) (by intros; rename_i q _; exact q rfl) (by intros; rename_i q _; exact q rfl) (by intros; rename_i q _; exact q rfl) ?_ v e h2 go h2
  intro elt tg iter ifs csc cp x _ q h2
  obtain ⟨bb, hsw⟩ : ∃ bb, swapsWith (.ListComp elt [⟨tg, iter, ifs, 0⟩] csc cp) (some (.Name y p)) pos.line env = pure bb := ⟨_, rfl⟩
  cases bb with
  | false => exact q hsw
  | true => exact ss_comp G hh hZ hE hown h1 h2 hsw
set_option tactic.hygienic false

theorem soundS (G : Ground base D T mg mb) (hh : A.handled = none) (hu : A.units + 64 < cLine) (hgd : A.guards = some []) (hC : SoundC prog w base D T C A) (hR : D.revs = true → RevSound prog w base A) (hZ : D.zips = true → ZipSound prog w base D C A)
    (sc : Scope) (Γ : List Str) (env : Env) :
    ∀ (N : Nat), (∀ (st : Stmt), sizeOf st < N → ∀ x, cS D sc Γ st = some x → SS prog w base C A st x sc Γ env) ∧ (∀ (sts : List Stmt), sizeOf sts < N → ∀ xs, cSs D sc Γ sts = some xs → SSs prog w base C A sts xs sc Γ env) := by
  have hE : SAll prog w base D C A := fun e sc Γ env x h => soundE G hh hu hgd hC hR hZ _ e (Nat.lt_succ_self _) sc Γ env x h
  have E1 : ∀ {e : Expr} {x : X}, cE D sc Γ e = some x → SE prog w base C A e x sc Γ env := fun {e x} h => (hE e sc Γ env x h).1
  have E2 : ∀ {e : Expr} {x : X}, cE D sc Γ e = some x → ST prog w base C A e x sc Γ env := fun {e x} h => (hE e sc Γ env x h).2
  intro N
  induction N with
  | zero => exact ⟨fun _ h => absurd h (Nat.not_lt_zero _), fun _ h => absurd h (Nat.not_lt_zero _)⟩
  | succ N ih =>
    obtain ⟨IH, IHs⟩ := ih
    refine ⟨fun st hN x hc => ?_, fun sts hN xs hc => ?_⟩
    · refine cS_elim (M := fun st x => sizeOf st < N + 1 → SS prog w base C A st x sc Γ env) ?_ ?_ ?_ ?_ ?_ ?_ ?_ st x hc hN
      · intro tgs v pos x hc hN
        refine cAssign_elim (M := fun tgs x => SS prog w base C A (.Assign tgs v pos) x sc Γ env) (fun y p i e q1 q2 q3 => ss_name G hh hZ hE q1 q2 q3) (fun o k p e a j q1 q2 q3 => ss_setItem (E1 q1) (E1 q2) (E1 q3) ?_) (fun y z p q k p' i j e q1 q2 q3 q4 q5 q6 q7 => ss_unpack hh q1 q2 q3 q5 q6 q4 (E1 q7)) hc
        cases v <;> rfl
      · intro e0 pos x hc hN
        exact cExpr_elim (M := fun e x => SS prog w base C A (.Expr e pos) x sc Γ env) (fun o ap g cp a e q1 q2 q3 q4 => ss_append q1 q2 q4 (E1 q3) (E1 q4)) (fun f fp args cp k as q => ss_expr (E1 q)) hc
      · intro t b c pos t' b' c' g1 g2 g3 hN
        exact ss_if (E2 g1) (IHs b (by simp at hN; lia) b' g2) (IHs c (by simp at hN; lia) c' g3)
      · intro t b pos t' b' g1 g2 hN
        exact ss_while (E2 g1) (IHs b (by simp at hN; lia) b' g2)
      · intro tg iter b pos xs ix b' is g1 g2 g3 hcond g4 hN
        simp only [Bool.and_eq_true, List.all_eq_true] at hcond
        exact ss_for G hh g1 g4 hcond.1 hcond.2 g2 (fun e' _ y hy => E1 hy) (IHs b (by simp at hN; lia) b' g3)
      · intro e pos e' g1 hN
        exact ss_ret (E1 g1)
      · intro a b pos x hc hN m φ H s Q QQ E R W hw K
        obtain ⟨k, rfl⟩ := cRaise_is hc
        exact False.elim hw
    · cases sts with
      | nil => rw [cSs_nil] at hc; cases hc; exact sss_nil
      | cons st r =>
        obtain ⟨a, as, g1, g2, rfl⟩ := cSs_cons hc
        exact sss_cons (IH st (by simp at hN; lia) a g1) (IHs r (by simp at hN; lia) as g2)
end
end Mine

open PySem
namespace Mine

theorem slot_at : ∀ {Γ : List Str}, Γ.Nodup → ∀ {i : Nat} {x : Str}, Γ.reverse[i]? = some x → slot Γ x = some i
  | [], _, _, _, e => by simp at e
  | z :: r, N, i, x, e => by
    obtain ⟨hz, hr⟩ := List.nodup_cons.mp N
    rw [List.reverse_cons] at e
    unfold slot
    rcases Nat.lt_or_ge i r.length with q | q
    · rw [List.getElem?_append_left (by simpa using q)] at e
      have hx : x ∈ r := List.mem_reverse.mp (List.mem_of_getElem? e)
      have : (z == x) = false := by
        rw [beq_eq_false_iff_ne]; intro h; exact hz (h ▸ hx)
      rw [this]
      simpa using slot_at hr e
    · rw [List.getElem?_append_right (by simpa using q)] at e
      simp only [List.length_reverse] at e
      have hi : i = r.length := by
        rcases Nat.lt_or_ge r.length i with y | y
        · rw [List.getElem?_eq_none (by simp; lia)] at e; cases e
        · lia
      subst hi
      simp at e
      simp [e]

noncomputable def putAll : Nat → List V → Loc → Loc
  | _, [], m => m
  | k, v :: r, m => putAll (k + 1) r (m.set k (some v))

theorem putAll_eq : ∀ (vs : List V) (pre : Loc) (n : Nat), vs.length ≤ n → putAll pre.length vs (pre ++ List.replicate n none) = pre ++ vs.map some ++ List.replicate (n - vs.length) none
  | [], pre, n, _ => by simp [putAll]
  | v :: r, pre, 0, h => by simp at h
  | v :: r, pre, n + 1, h => by
    have e : (pre ++ List.replicate (n + 1) none).set pre.length (some v) = (pre ++ [some v]) ++ List.replicate n none := by
      rw [List.replicate_succ, List.set_append_right _ _ (Nat.le_refl _)]; simp
    have ih := putAll_eq r (pre ++ [some v]) n (by simp at h; lia)
    rw [putAll, e]
    rw [show pre.length + 1 = (pre ++ [some v]).length by simp, ih]
    simp [List.append_assoc]

section
variable {prog : Program} {w : World} {base : Heap} {D : Tabs} {T : Nat → Option Fn} {mg mb : Str → Option Value} {A : Around}

theorem own_is {sc : Scope} {x : Str} (hok : okScope sc = true) (h : x ∈ ownNames sc) : isOwn sc x = true := by
  unfold ownNames at h
  rw [List.mem_reverse, List.mem_map] at h
  obtain ⟨p, hp, rfl⟩ := h
  rw [List.mem_filter] at hp
  have := okScope_once hok hp.1
  unfold isOwn
  rw [this]
  rcases p with ⟨n, k⟩
  cases k <;> simp at hp ⊢

/-- the parameters are stored -/
theorem bind_params {M : Model} {sc : Scope} {Γ : List Str} {env : Env} {E : Value → Shared → Prop} (f : Str × Value → PUnit → Sem (ForInStep PUnit)) (hf : ∀ n v u, f (n, v) u = (do storeName env n v; pure (.yield ⟨⟩))) :
    ∀ (ps : List Str) (vs : List V) (ws : List Value) (k : Nat) (m : Loc) (φ : List Addr) (H : Hp) (s : Shared) (Q : PUnit → Shared → Prop), (∀ i x, ps[i]? = some x → slot Γ x = some (k + i) ∧ isOwn sc x = true) → ps.length = vs.length → Rel base φ H s.heap → EnvR base φ sc env Γ m s.heap → RepL base φ s.heap vs ws →
      (∀ s', Step (own env) φ φ s s' → Rel base φ H s'.heap → EnvR base φ sc env Γ (putAll k vs m) s'.heap → Q ⟨⟩ s') → wpAny M A (forIn (ps.zip ws) ⟨⟩ f) Q E s
  | [], [], ws, k, m, φ, H, s, Q, _, _, R, W, _, h => by
    rw [List.zip_nil_left, List.forIn_nil]
    exact wpAny_pure (h s (Step.refl _ _ _) R W)
  | p :: ps, v :: vs, ws, k, m, φ, H, s, Q, hs, hl, R, W, ⟨y, r, e, hv, hr⟩, h => by
    subst e
    rw [List.zip_cons_cons, List.forIn_cons, hf]
    obtain ⟨h1, h2⟩ := hs 0 p rfl
    refine wpAny_bind (wpAny_bind (W.store R h2 h1 hv fun s' a ha st kp R' W' => wpAny_pure ?_))
    have nt : ∀ o, s.heap.get? a = some o → ¬ TupObj o := fun o e => by
      rcases ha with rfl | ⟨_, h2⟩
      · obtain ⟨mm, hn, _⟩ := W.ns; exact ns_not_tup hn o e
      · obtain ⟨_, v', hv'⟩ := W.cellat _ (mem_of_lookup h2); exact cell_not_tup hv' o e
    refine bind_params f hf ps vs r (k + 1) _ φ H s' Q (fun i x e => ?_) (by simpa using hl) R' W' (RepL.mono (List.prefix_refl _) (fun c o e c' => kp c o (fun q => nt o (q ▸ e) c') e) _ _ hr) fun s'' st' R'' W'' => ?_
    · have := hs (i + 1) x (by simpa using e)
      rw [show k + 1 + i = k + (i + 1) by lia]; exact this
    · exact h s'' ((st.weaken fun b hb => by simp only [List.mem_singleton] at hb; subst hb; exact own_of ha).trans st') R'' W''
  | [], _ :: _, _, _, _, _, _, _, _, _, hl, _, _, _, _ => by simp at hl
  | _ :: _, [], _, _, _, _, _, _, _, _, hl, _, _, _, _ => by simp at hl

/-- the frame of a call -/
theorem fn_env {M : Model} {E : Value → Shared → Prop} {s : Shared} {φ : List Addr} {H : Hp} {sc : Scope} {ps : List Str} {vs : List V} {ws : List Value} {qual : Str} {a : Addr} {code : Value} {Q : Env → Shared → Prop}
    (hok : okScope sc = true) (hnf : ∀ p ∈ sc.names, p.2 ≠ .free) (hnd : (ownNames sc).Nodup) (hps : (ownNames sc).reverse.take ps.length = ps) (hl : ps.length = vs.length) (hle : vs.length ≤ (ownNames sc).length) (R : Rel base φ H s.heap) (rv : RepL base φ s.heap vs ws)
    (h : ∀ env s', env.frame = some env.locals → Step [] φ φ s s' → (∀ b ∈ own env, s.heap.get? b = none) → Rel base φ H s'.heap →
      EnvR base φ sc env (ownNames sc) (vs.map some ++ List.replicate ((ownNames sc).length - vs.length) none) s'.heap → Q env s') :
    wpAny M A (newFunctionEnv sc mainGlobals [] (ps.zip ws) qual (some a) code none builtinsNs) Q E s := by
  simp only [newFunctionEnv, Option.isSome_none, Bool.false_eq_true, if_false]
  refine wpAny_bind (wpAny_alloc ?_)
  refine wpAny_bind (wpAny_layCells _ (fun name kind cells => by cases hkc : kind == NameKind.cell <;> simp [hkc]) _ _ _ _ ?_)
  have ok := cellsFrom_ok sc.names (s.heap.push { cls := .type "frame", data := .dict #[] }) (s.heap.objs.size + 1) [] ⟨fun _ _ hm => (nomatch hm), List.Pairwise.nil⟩ (by rw [Heap.size_push]; exact Nat.le_refl _)
  rw [Heap.size_push] at ok
  rw [show ({ s with heap := s.heap.push { cls := .type "frame", data := .dict #[] } } : Shared).heap.objs.size = s.heap.objs.size + 1 from Heap.size_push ..]
  have kp : ∀ b o, s.heap.get? b = some o → (pushCells (s.heap.push { cls := .type "frame", data := .dict #[] }) sc.names).get? b = some o := fun b o e => pushCells_keeps _ _ _ _ (Heap.get?_push_of_some _ e)
  have R' : Rel base φ H (pushCells (s.heap.push { cls := .type "frame", data := .dict #[] }) sc.names) := R.grow kp
  have hn : (pushCells (s.heap.push { cls := .type "frame", data := .dict #[] }) sc.names).Ns s.heap.objs.size fun _ => none := (Heap.Ns.new s.heap (.type "frame")).keeps (pushCells_keeps _ _)
  have big : ∀ b : Addr, s.heap.objs.size ≤ b → base.get? b = none := fun b hb => by
    cases q : base.get? b with
    | none => rfl
    | some o => have := Heap.lt_size (R.keep b o q); exact absurd this (Nat.not_lt.mpr hb)
  have W' : EnvR base φ sc (newEnv sc s.heap.objs.size mainGlobals (cellsFrom (s.heap.objs.size + 1) sc.names []) qual (some a) code none builtinsNs) (ownNames sc) (List.replicate (ownNames sc).length none)
      (pushCells (s.heap.push { cls := .type "frame", data := .dict #[] }) sc.names) := by
    have no : ∀ {i : Nat} {v : V}, (List.replicate (ownNames sc).length (none : Option V))[i]? ≠ some (some v) := fun {i v} e => by
      rw [List.getElem?_replicate] at e
      split at e <;> simp at e
    refine ⟨okScope_kind (sc := sc) hok, rfl, rfl, by simp, fun x => ?_, big _ (Nat.le_refl _), ⟨_, hn, fun x i v _ h2 _ => absurd h2 no⟩, fun p hp => ?_, fun x i v _ h2 _ => absurd h2 no, fun x y c hx hy => ?_, fun x hx => ?_⟩
    · show KindOk (sc.names.lookup x) (sc.names.lookup x)
      cases q : sc.names.lookup x with
      | none => trivial
      | some k => cases k <;> first | exact rfl | trivial | exact .inr rfl
    · have := ok.empty p.1 p.2 hp
      exact ⟨big _ (by have := this.2; lia), none, this.1⟩
    · exact name_of_addr ok.apart (mem_of_lookup hx) (mem_of_lookup hy)
    · have hc : sc.names.lookup x = some .cell := by
        rcases hx with q | q
        · exact q
        · exact absurd rfl (hnf (x, .free) (mem_lookupK q))
      obtain ⟨c, hc'⟩ := cellsFrom_has sc.names (s.heap.objs.size + 1) x (mem_lookupK hc)
      exact lookup_some_of_mem hc'
  refine wpAny_bind (bind_params (env := newEnv sc s.heap.objs.size mainGlobals (cellsFrom (s.heap.objs.size + 1) sc.names []) qual (some a) code none builtinsNs) _ (fun _ _ _ => rfl) ps vs ws 0 _ φ H
    { s with heap := pushCells (s.heap.push { cls := .type "frame", data := .dict #[] }) sc.names } _ (fun i x e => ?_) hl R' W' (RepL.mono (List.prefix_refl _) (fun c o e _ => kp c o e) _ _ rv) fun s' st R'' W'' => wpAny_pure ?_)
  · have hx : (ownNames sc).reverse[i]? = some x := by
      rw [← hps] at e
      rw [List.getElem?_take] at e
      split at e
      · exact e
      · cases e
    refine ⟨by simpa using slot_at hnd hx, own_is hok (List.mem_reverse.mp (List.mem_of_getElem? hx))⟩
  · have hown : ∀ b ∈ own (newEnv sc s.heap.objs.size mainGlobals (cellsFrom (s.heap.objs.size + 1) sc.names []) qual (some a) code none builtinsNs), s.heap.get? b = none := fun b hb => by
      rcases List.mem_cons.mp hb with rfl | hb
      · exact get_size _
      · obtain ⟨p, hp, rfl⟩ := List.mem_map.mp hb
        have := (ok.empty p.1 p.2 hp).2
        exact get_ge _ (by lia)
    have e := putAll_eq vs [] (ownNames sc).length hle
    simp only [List.length_nil, List.nil_append] at e
    rw [e] at W''
    refine h _ s' rfl ⟨List.prefix_refl _, fun _ h h' => absurd h h', fun x o e hx _ => ?_, fun x e => ?_, ?_⟩ hown R'' W''
    · exact st.evo x o (kp x o e) hx (fun q => by rw [hown x q] at e; cases e)
    · obtain ⟨o, ho⟩ := Option.isSome_iff_exists.mp e
      exact st.live x (by show ((pushCells _ _).get? x).isSome; rw [kp x o ho]; rfl)
    · obtain ⟨h', tk, e'⟩ := st.same
      exact ⟨h', tk, by rw [e']⟩

noncomputable def Room (n : Nat) (A : Around) : Prop := A.handled = none ∧ A.depth + n < 900 ∧ A.units + 8 * n + 100 < cLine ∧ A.guards = some []

theorem Room.deeper {n : Nat} (h : Room (n + 1) A) (env : Env) : Room n (A.deeper env) := by
  obtain ⟨h1, h2, h3, h4⟩ := h
  exact ⟨h1, by show A.depth + 1 + n < 900; lia, by show A.units + 3 + 8 * n + 100 < cLine; lia, h4⟩

set_option tactic.hygienic true
/-- the calls are sound to every depth -/
theorem soundC (G : Ground base D T mg mb) (hR : ∀ A, A.handled = none → D.revs = true → RevSound prog w base A) (hZ : ∀ C A, A.handled = none → D.zips = true → ZipSound prog w base D C A) :
    ∀ (n : Nat) (A : Around), Room n A → SoundC prog w base D T (run T n) A
  | 0, _, _ => fun _ _ _ _ _ _ _ _ _ _ _ _ _ _ _ _ _ _ hc _ => hc.elim
  | n + 1, A, hA => fun k a o fd body d params vs ws H P φ s Q E hF R rv hc K => by
    rw [run_at hF.tab] at hc
    obtain ⟨hp, hle, hw⟩ := hc
    have hcf := hF.comp
    unfold cFn at hcf
    split at hcf
    · rename_i hcond
      simp only [Bool.and_eq_true, Bool.not_eq_true', beq_iff_eq, List.all_eq_true, decide_eq_true_eq, bne_iff_ne, ne_eq] at hcond
      obtain ⟨⟨⟨⟨⟨hok, hgen⟩, hco⟩, hps⟩, hnf⟩, hnd⟩ := hcond
      simp only [Option.map_eq_some_iff] at hcf
      obtain ⟨b, hb, rfl⟩ := hcf
      dsimp only at hp hle hw
      have hlen := rv.length
      refine wpAny_call (codeAny_call_function (fd := fd) (body := body) (by have := hA.2.1; unfold recursionLimit; lia) (R.keep _ _ hF.obj) hF.dat hco hgen hF.bod (hF.code.keeps R.keep) ?_)
      rw [hF.bind ws (by rw [hlen, hp]), hF.glob, hF.clos, hF.blt]
      refine wpAny_pure (fn_env hok hnf hnd hps (by rw [hp]) (by rw [hp]; exact hle) R rv fun env s' _ st hown R' W' => ?_)
      refine ⟨(G.nolim.keeps R'.keep), codeAny_func ?_⟩
      have hA' := hA.deeper env
      have hS := (soundS (C := run T n) (A := A.deeper env) G hA'.1 (by have := hA'.2.2.1; lia) hA'.2.2.2 (soundC G hR hZ n _ hA') (hR _ hA'.1) (hZ _ _ hA'.1) fd.scope (ownNames fd.scope) env _).2 body (Nat.lt_succ_self _) b hb
      refine hS _ φ H s' _ _ _ R' W' (by simpa [entry, hp] using hw) fun fl f m' φ' H' s'' hq st' R'' W'' hf => ?_
      have stt : Step [] φ φ' s s'' := by
        refine ⟨st'.pre, fun x hx hx' => ?_, fun x o' e hx _ => ?_, fun x e => st'.live x (st.live x e), ?_⟩
        · exact old_none st (st'.new x hx hx')
        · exact st'.evo x o' (st.evo x o' e hx (by simp)) hx (fun q => by rw [hown x q] at e; cases e)
        · obtain ⟨h1, t1, e1⟩ := st.same
          obtain ⟨h2, t2, e2⟩ := st'.same
          exact ⟨h2, t2, by rw [e2, e1]⟩
      cases fl with
      | next =>
        rw [show f = .next from hf]
        exact K .none .none φ' H' s'' hq stt R'' rfl
      | ret v =>
        obtain ⟨x, rfl, r⟩ := hf
        exact K v x φ' H' s'' hq stt R'' r
    · cases hcf
set_option tactic.hygienic false

end
end Mine

open PySem
namespace Mine

noncomputable def void : Heap := {}
theorem void_get (a : Addr) : void.get? a = none := Heap.get?_none_of_le (Nat.zero_le _)

/-- the traceback's head of an exception -/
noncomputable def Tail (B : Heap) (e : Addr) (fl : Value) (h : Heap) (v : Value) : Prop := (v = .none ∧ fl = .none) ∨ Ex3 fun T oT ts => And6 (v = .ref T) (B.get? T = none) (T ≠ e) (h.get? T = some oT) (oT.data = .fields ts) (ts[3]? = some fl)
/-- an exception under way; all of B stays -/
structure Fly (B : Heap) (e : Addr) (cls fl : Value) (h : Heap) : Prop where
  stays : B.StaysIn h
  new : B.get? e = none
  exc : Ex3 fun oe vs v => And6 (h.get? e = some oe) (oe.cls = cls) (oe.data = .fields vs) (vs[2]? = some .none) (vs[1]? = some v) (Tail B e fl h v)

section
variable {M : Model} {A : Around} {E : Value → Shared → Prop} {s : Shared}

theorem entry_new {B : Heap} {env : Env} {outer : List Env} {L e : Addr} {oe : Obj} {vs : Array Value} {head : Value} {hadNext : Bool} {Q : Unit → Shared → Prop}
    (hfr : A.frames = some (env :: outer)) (hl : s.heap.FunFrames void (env :: outer)) (hB : ∀ b ∈ (env :: outer).filterMap (·.frame), B.get? b = none) (hf : env.frame = some L)
    (he : s.heap.get? e = some oe) (hkb : B.StaysIn s.heap) (hen : B.get? e = none) (hd : oe.data = .fields vs) (hsz : 1 < vs.size) (h2 : vs[2]? = some .none)
    (h : ∀ h', Fly B e oe.cls (rawInt L) h' → h'.FunFrames void (env :: outer) → s.heap.UpToSlots h' → Q () { s with heap := h' }) :
    wpAny M A (do let a ← frameOf env; let pl ← entryPlaceOf L hadNext; let b ← EntryCells.newEntry head a .none (rawInt L) .none pl; setField (.ref e) 1 b) Q E s := by
  have hene : e ∉ (env :: outer).filterMap (·.frame) := fun hm => by
    obtain ⟨_, o, ho, hnf⟩ := hl.mem hm
    rw [he] at ho; cases ho; exact hnf vs hd
  refine wpAny_bind (wpAny_frameOf_fun hfr hl hf fun h₁ hs₁ => ?_)
  refine wpAny_bind (wpAny_entryPlaceOf fun pl hpl => ?_)
  unfold EntryCells.newEntry newFields
  refine wpAny_bind (wpAny_newObj_type ?_ (hpl.sizeOk5 _ _ _ _ _))
  have he₁ : h₁.get? e = some oe := (hs₁.2.1 e hene).trans he
  have kb₁ : B.StaysIn h₁ := fun b o q => (hs₁.2.1 b fun hm => by rw [hB b hm] at q; cases q).trans (hkb b o q)
  generalize hob : ({ cls := .type "traceback", dict := none, data := .fields ([head, .ref L, .none, rawInt L, .none] ++ (if pl.isEmpty then List.replicate 6 Value.none else pl)).toArray } : Obj) = ob
  have hod : ob.data = .fields ([head, .ref L, .none, rawInt L, .none] ++ (if pl.isEmpty then List.replicate 6 Value.none else pl)).toArray := by rw [← hob]
  have he₂ := Heap.get?_push_of_some (h := h₁) ob he₁
  refine wpAny_setField he₂ hd hsz ?_
  have hTe : h₁.objs.size ≠ e := Nat.ne_of_gt (Heap.lt_size he₁)
  have hd₃ := Obj.data_mapFields hd (·.setIfInBounds 1 (Value.ref h₁.objs.size))
  have he₃ := Heap.get?_update_self (Obj.mapFields (·.setIfInBounds 1 (Value.ref h₁.objs.size))) he₂ (Obj.isFreed_of_fields hd₃)
  have hT₃ := (Heap.get?_update_other (h₁.push ob) (Obj.mapFields (·.setIfInBounds 1 (Value.ref h₁.objs.size))) (Ne.symm hTe)).trans (Heap.get?_push_size h₁ (o := ob) (Obj.isFreed_of_fields hod))
  have keep : ∀ b o, b ≠ e → h₁.get? b = some o → ((h₁.push ob).update e (Obj.mapFields (·.setIfInBounds 1 (Value.ref h₁.objs.size)))).get? b = some o := fun b o hbe hb => by
    rw [Heap.get?_update_other _ _ (Ne.symm hbe)]
    exact Heap.get?_push_of_some _ hb
  have noRec : ∀ b o, s.heap.get? b = some o → (∀ vs, o.data ≠ .fields vs) → b ≠ e := fun b o hb hnf q => by
    rw [q, he] at hb; cases hb; exact hnf vs hd
  have up : s.heap.UpToSlots ((h₁.push ob).update e (Obj.mapFields (·.setIfInBounds 1 (Value.ref h₁.objs.size)))) := fun b o hb hnf => by
    obtain ⟨sl, hs⟩ := hs₁.2.2 b o hb
    exact ⟨sl, keep b _ (noRec b o hb hnf) hs⟩
  refine h _ ⟨fun b o q => keep b o (fun z => by rw [z, hen] at q; cases q) (kb₁ b o q), hen, ?_⟩ (hl.of_keeps fun b o hb hnf => ?_) up
  · exact ⟨_, _, .ref h₁.objs.size, he₃, Obj.cls_mapFields _ _, hd₃, by rw [Array.getElem?_setIfInBounds_ne (by decide)]; exact h2, by simp [hsz], .inr ⟨_, _, _, rfl, kb₁.fresh, hTe, hT₃, hod, by rw [List.getElem?_toArray]; rfl⟩⟩
  · obtain ⟨sl, hs⟩ := up b o hb hnf
    exact ⟨_, hs, rfl⟩

/-- a frame is noted -/
theorem note {B : Heap} {env : Env} {outer : List Env} {L e : Addr} {cls fl : Value} {Q : Unit → Shared → Prop}
    (hfr : A.frames = some (env :: outer)) (hl : s.heap.FunFrames void (env :: outer)) (hB : ∀ b ∈ (env :: outer).filterMap (·.frame), B.get? b = none) (hf : env.frame = some L) (hfl : fl = .none ∨ fl = rawInt L) (F : Fly B e cls fl s.heap)
    (h : ∀ h', Fly B e cls (rawInt L) h' → h'.FunFrames void (env :: outer) → s.heap.UpToSlots h' → Q () { s with heap := h' }) : wpAny M A (noteFrame (.ref e) env) Q E s := by
  have F' := F
  obtain ⟨hkb, hen, oe, vs, v, he, rfl, hd, h2, h1, ht⟩ := F
  unfold noteFrame
  simp only [hf]
  refine wpAny_bind (wpAny_field he hd h1 ?_)
  rcases ht with ⟨rfl, rfl⟩ | ⟨T, oT, ts, rfl, hnT, hTe, hT, hdT, h3⟩
  · rw [if_neg (by decide)]
    exact entry_new hfr hl hB hf he hkb hen hd (Array.getElem?_eq_some_iff.mp h1).1 h2 h
  · rw [if_pos (show (Value.ref T != Value.none) = true from by simp)]
    refine wpAny_bind (wpAny_field hT hdT h3 ?_)
    rcases hfl with rfl | rfl
    · rw [if_neg (show ¬ ((Value.none == rawInt L) = true) from by simp [rawInt])]
      refine wpAny_bind (wpAny_setField hT hdT (Array.getElem?_eq_some_iff.mp h3).1 ?_)
      have other : ∀ b, b ≠ T → (s.heap.update T (Obj.mapFields (·.setIfInBounds 3 Value.none))).get? b = s.heap.get? b := fun b hb => Heap.get?_update_other _ _ (Ne.symm hb)
      have noRec : ∀ b o, s.heap.get? b = some o → (∀ vs, o.data ≠ .fields vs) → b ≠ T := fun b o hb hnf q => by
        rw [q, hT] at hb; cases hb; exact hnf ts hdT
      exact entry_new hfr (hl.of_keeps fun b o hb hnf => ⟨o, (other b (noRec b o hb hnf)).trans hb, rfl⟩) hB hf ((other e (Ne.symm hTe)).trans he)
        (fun b o q => (other b fun z => by rw [z, hnT] at q; cases q).trans (hkb b o q)) hen hd (Array.getElem?_eq_some_iff.mp h1).1 h2
        fun h' x1 x2 x3 => h h' x1 x2 fun b o hb hnf => x3 b o ((other b (noRec b o hb hnf)).trans hb) hnf
    · rw [if_pos (show (rawInt L == rawInt L) = true from by simp)]
      exact wpAny_pure (h s.heap F' hl (.refl _))

theorem flight {B : Heap} {l : List Env} {L e : Addr} {cls : Value} {x : Option Addr} {Q : Unit → Shared → Prop} (hl : s.heap.FunFrames void l) (F : Fly B e cls (rawInt L) s.heap)
    (h : ∀ h', Fly B e cls (x.elim .none fun f => rawInt f) h' → h'.FunFrames void l → s.heap.UpToSlots h' → Q () { s with heap := h' }) : wpAny M A (setFlight (.ref e) x) Q E s := by
  obtain ⟨hkb, hen, oe, vs, v, he, rfl, hd, h2, h1, ht⟩ := F
  rcases ht with ⟨_, q⟩ | ⟨T, oT, ts, rfl, hnT, hTe, hT, hdT, h3⟩
  · simp [rawInt] at q
  unfold setFlight
  refine wpAny_bind (wpAny_field he hd h1 ?_)
  rw [if_pos (show (Value.ref T != Value.none) = true from by simp)]
  have hs3 := (Array.getElem?_eq_some_iff.mp h3).1
  refine wpAny_setField hT hdT hs3 ?_
  have other : ∀ b, b ≠ T → (s.heap.update T (Obj.mapFields (·.setIfInBounds 3 (x.elim Value.none fun f => rawInt f)))).get? b = s.heap.get? b := fun b hb => Heap.get?_update_other _ _ (Ne.symm hb)
  have noRec : ∀ b o, s.heap.get? b = some o → (∀ vs, o.data ≠ .fields vs) → b ≠ T := fun b o hb hnf q => by
    rw [q, hT] at hb; cases hb; exact hnf ts hdT
  have hd' := Obj.data_mapFields hdT (·.setIfInBounds 3 (x.elim Value.none fun f => rawInt f))
  exact h _ ⟨fun b o q => (other b fun z => by rw [z, hnT] at q; cases q).trans (hkb b o q), hen, oe, vs, .ref T, (other e (Ne.symm hTe)).trans he, rfl, hd, h2, h1,
      .inr ⟨T, _, _, rfl, hnT, hTe, Heap.get?_update_self _ hT (Obj.isFreed_of_fields hd'), hd', by simp [hs3]⟩⟩
    (hl.of_keeps fun b o hb hnf => ⟨o, (other b (noRec b o hb hnf)).trans hb, rfl⟩) fun b o hb hnf => ⟨o.slots, (other b (noRec b o hb hnf)).trans hb⟩

/-- the exception leaves a frame, or lands in it -/
theorem leave {B : Heap} {env : Env} {outer : List Env} {L e : Addr} {cls fl : Value} {Q : Unit → Shared → Prop}
    (hfr : A.frames = some (env :: outer)) (hl : s.heap.FunFrames void (env :: outer)) (hB : ∀ b ∈ (env :: outer).filterMap (·.frame), B.get? b = none) (hf : env.frame = some L) (hfl : fl = .none ∨ fl = rawInt L) (F : Fly B e cls fl s.heap)
    (h : ∀ h', Fly B e cls .none h' → h'.FunFrames void (env :: outer) → s.heap.UpToSlots h' → Q () { s with heap := h' }) : wpAny M A (leaving env (.ref e)) Q E s := by
  unfold leaving
  exact wpAny_bind (note hfr hl hB hf hfl F fun h' F' l' u => flight (x := none) l' F' fun h'' F'' l'' u' => h h'' F'' l'' (u.trans u'))

/-- out of a loop -/
theorem came_back {B : Heap} {env : Env} {L e : Addr} {l : List Env} {cls : Value} (hf : env.frame = some L) (hl : s.heap.FunFrames void l) (F : Fly B e cls (rawInt L) s.heap)
    (h : ∀ h', Fly B e cls (rawInt L) h' → h'.FunFrames void l → s.heap.UpToSlots h' → E (.ref e) { s with heap := h' }) : cameBackBy M A env E (.ref e) s := by
  have F' := F
  obtain ⟨hkb, hen, oe, vs, v, he, rfl, hd, h2, h1, ht⟩ := F
  rcases ht with ⟨_, q⟩ | ⟨T, oT, ts, rfl, hnT, hTe, hT, hdT, h3⟩
  · simp [rawInt] at q
  unfold cameBackBy
  refine wpAny_bind (wpAny_field he hd h1 ?_)
  rw [if_neg (show ¬ ((Value.ref T == Value.none) = true) from by simp), hf]
  exact flight (x := some L) hl F' fun h' F'' l' u => h h' F'' l' u
end
end Mine

open PySem
namespace Mine

/-- the frames of a stack -/
noncomputable def frs (l : List Env) : List Addr := l.filterMap (·.frame)
noncomputable def Stk (base h : Heap) (l : List Env) : Prop := ∀ env ∈ l, env.scope.kind ≠ .module ∧ Ex2 fun L mm => And3 (env.frame = some L) (base.get? L = none) (h.Ns L mm)
theorem Stk.fun {base h : Heap} : ∀ {l : List Env}, Stk base h l → h.FunFrames void l
  | [], _ => trivial
  | env :: r, S => by
    obtain ⟨hk, L, mm, hf, _, hn⟩ := S env (.head _)
    exact Heap.FunFrames.cons hk hf hn (void_get _) (Stk.fun fun e he => S e (.tail _ he))
theorem Stk.at {base h : Heap} {l : List Env} (S : Stk base h l) : ∀ a ∈ frs l, base.get? a = none ∧ ∃ mm, h.Ns a mm:= fun a ha => by
  obtain ⟨env, he, hf⟩ := List.mem_filterMap.mp ha
  obtain ⟨_, L, mm, hf', hn, hm⟩ := S env he
  rw [hf] at hf'; cases hf'
  exact ⟨hn, mm, hm⟩
/-- the frames around are not the block's own things -/
noncomputable def Apart (env : Env) (l : List Env) : Prop := ∀ a ∈ frs l, a ∉ own env
theorem Stk.step {base : Heap} {l : List Env} {env : Env} {φ φ' : List Addr} {H : Hp} {s s' : Shared} (S : Stk base s.heap l) (R : Rel base φ H s.heap) (st : Step (own env) φ φ' s s') (ap : Apart env l) : Stk base s'.heap l := fun e he => by
  obtain ⟨hk, L, mm, hf, hb, o, es, ep, ho, hd, r⟩ := S e he
  refine ⟨hk, L, mm, hf, hb, o, es, ep, st.evo L o ho (fun q => ?_) (ap L (List.mem_filterMap.mpr ⟨e, he, hf⟩)), hd, r⟩
  obtain ⟨_, _, z⟩ := R.mem_list q
  rw [ho] at z; cases z; cases hd

/-- an exception of the kind k comes to the stack l; mid: the state just before it was raised -/
noncomputable def Land (base : Heap) (Kd : Nat → Value) (l : List Env) (fl : Value) (k : Nat) (e : Addr) (mid s' : Shared) : Prop :=
  Ex2 fun (fr : List Addr) (B : Heap) => And9 ((∀ a ∈ frs l, a ∈ fr)) ((∀ a ∈ fr, base.get? a = none ∧ ∃ mm, mid.heap.Ns a mm)) ((∀ b o, B.get? b = some o → mid.heap.get? b = some o)) ((∀ b o, mid.heap.get? b = some o → b ∉ fr → B.get? b = some o)) ((∀ a ∈ fr, B.get? a = none)) (Fly B e (Kd k) fl s'.heap) (s'.heap.FunFrames void l) (mid.heap.UpToSlots s'.heap) (Ex2 fun h tk => s' = { mid with heap := h, toks := tk })

/-- to a statement -/
noncomputable def ContX (base : Heap) (Kd : Nat → Value) (env : Env) (outer : List Env) (φ : List Addr) (s : Shared) (R : PX) (E : Value → Shared → Prop) : Prop :=
  ∀ k e fl mid φ' H' s', R k H' → Step (own env) φ φ' s mid → Rel base φ' H' mid.heap → Land base Kd (env :: outer) fl k e mid s' → (fl = .none ∨ fl = rawInt env.locals) → E (.ref e) s'
/-- to a call -/
noncomputable def ContZ (base : Heap) (Kd : Nat → Value) (outer : List Env) (φ : List Addr) (s : Shared) (R : PX) (E : Value → Shared → Prop) : Prop :=
  ∀ k e mid φ' H' s', R k H' → Step [] φ φ' s mid → Rel base φ' H' mid.heap → Land base Kd outer .none k e mid s' → E (.ref e) s'
theorem ContX.after {base : Heap} {Kd : Nat → Value} {env : Env} {outer : List Env} {φ φ' : List Addr} {s s' : Shared} {R : PX} {E : Value → Shared → Prop} (K : ContX base Kd env outer φ s R E) (st : Step (own env) φ φ' s s') : ContX base Kd env outer φ' s' R E :=
  fun k e fl mid φ'' H' s'' hr st' R' L hfl => K k e fl mid φ'' H' s'' hr (st.trans st') R' L hfl

/-- the exceptions' classes -/
noncomputable def ExcsOk (base : Heap) (D : Tabs) (Kd : Nat → Value) (mg : Str → Option Value) : Prop := ∀ f k, D.excs.lookup f = some k → Ex3 fun C bm newId => Kd k = .ref C ∧ PyProof.Rows.OwnCls f C bm newId mg base ∧
  (∃ Bn inN bmN, ExcBaseFacts Bn newId inN bmN ∧ bm.contains (.type Bn) = true) ∧ ∃ B nid initId, ExcBaseFacts B nid initId bm

noncomputable def SoundZ (prog : Program) (w : World) (base : Heap) (D : Tabs) (T : Nat → Option Fn) (Kd : Nat → Value) (Z : Raisers) (A : Around) : Prop :=
  ∀ (k : Nat) (a : Addr) (o : Obj) (fd : FuncData) (body : List Stmt) (d : Fn) (params : List Str) (vs : List V) (ws : List Value) (H : Hp) (X : PX) (φ : List Addr) (s : Shared) (Q : Value → Shared → Prop) (E : Value → Shared → Prop) (outer : List Env), FnAt base D T a k o fd body d params → A.frames = some outer → Stk base s.heap outer → Rel base φ H s.heap → RepL base φ s.heap vs ws → Z k vs H X → ContZ base Kd outer φ s X E → wpAny (model prog w) A (call (.ref a) ws []) Q E s

section
variable {prog : Program} {w : World} {base : Heap} {D : Tabs} {T : Nat → Option Fn} {mg mb : Str → Option Value} {C : Calls} {Z : Raisers} {A : Around} {sc : Scope} {Γ : List Str} {env : Env} {outer : List Env} {Kd : Nat → Value}

structure Here (A : Around) (env : Env) (outer : List Env) : Prop where
  frames : A.frames = some (env :: outer)
  frame : env.frame = some env.locals
  apart : Apart env outer

noncomputable def RS (prog : Program) (w : World) (base : Heap) (Kd : Nat → Value) (C : Calls) (Z : Raisers) (A : Around) (st : Stmt) (x : S) (sc : Scope) (Γ : List Str) (env : Env) (outer : List Env) : Prop :=
  ∀ (m : Loc) (φ : List Addr) (H : Hp) (s : Shared) (X : PX) (QQ : Flow → Shared → Prop) (E : Value → Shared → Prop), Rel base φ H s.heap → EnvR base φ sc env Γ m s.heap → Stk base s.heap outer → rzS C Z x m H X → ContX base Kd env outer φ s X E → wpAny (model prog w) A (exec st env) QQ E s
noncomputable def RSs (prog : Program) (w : World) (base : Heap) (Kd : Nat → Value) (C : Calls) (Z : Raisers) (A : Around) (sts : List Stmt) (xs : List S) (sc : Scope) (Γ : List Str) (env : Env) (outer : List Env) : Prop :=
  ∀ (m : Loc) (φ : List Addr) (H : Hp) (s : Shared) (X : PX) (QQ : Flow → Shared → Prop) (E : Value → Shared → Prop), Rel base φ H s.heap → EnvR base φ sc env Γ m s.heap → Stk base s.heap outer → rzSs C Z xs m H X → ContX base Kd env outer φ s X E → wpAny (model prog w) A (execs sts env) QQ E s

theorem stk_cons {φ : List Addr} {m : Loc} {h : Heap} (hx : Here A env outer) (W : EnvR base φ sc env Γ m h) (S : Stk base h outer) : Stk base h (env :: outer) := fun e he => by
  rcases List.mem_cons.mp he with rfl | he
  · obtain ⟨mm, hn, _⟩ := W.ns
    exact ⟨by rw [W.kind]; decide, e.locals, mm, hx.frame, W.fresh, hn⟩
  · exact S e he

/-- raise -/
theorem rs_raise (G : Ground base D T mg mb) (hh : A.handled = none) (hu : A.units + 64 < cLine) (hx : Here A env outer) (hX : ExcsOk base D Kd mg) {e c : Option Expr} {pos : Pos} {x : S} (hc : cRaise D sc Γ e c = some x)
    (IH : ∀ e x, cE D sc Γ e = some x → SE prog w base C A e x sc Γ env) : RS prog w base Kd C Z A (.Raise e c pos) x sc Γ env outer := fun m φ H s X QQ E R W S hw K => by
  unfold cRaise at hc
  obtain ⟨hcn, hc⟩ := if_some hc
  obtain ⟨⟨fe, args, cp⟩, he, hc⟩ := Zk hc
  obtain ⟨f, hf, hc⟩ := Zk hc
  obtain ⟨hg, hc⟩ := if_some hc
  obtain ⟨k, x', hk, hx', hc⟩ := opt2_some hc
  obtain ⟨t, rfl, rfl⟩ := wordX_eq hc
  obtain ⟨arg, harg, hxa⟩ := Zk hx'
  clear hx'
  obtain ⟨e', rfl, he⟩ := Zk he
  have he := callOf_eq he
  subst he
  have harg := one_eq harg
  dsimp only at harg hf
  subst harg
  obtain ⟨fp, rfl⟩ := nameOf_eq hf
  have hcn : c = none := by simpa using hcn
  subst hcn
  simp only [Bool.and_eq_true, Bool.not_eq_true'] at hg
  obtain ⟨C', bm, newId, hK, O, ⟨Bn, inN, bmN, Fn, hBn⟩, B, nid, initId, FB⟩ := hX f k hk
  obtain ⟨tl, N, nm, q, bs, hdct, sn, sub, ab, col, dd, k0, k1, k2, k3, k5, mN, hC, hN, hni, Tl⟩ := O.obj
  have hst := not_star (env := env) hxa []
  refine wpAny_Raise_call_subU (C := C') (nm := nm) (q := q) (N := N) (bs := bs) (bm := tl) (hdct := hdct) (sn := sn) (sub := sub) (ab := ab) (col := col) (dd := dd) (k0 := k0) (k1 := k1) (k2 := k2) (k3 := k3) (k5 := k5)
    Fn hBn FB (mN := mN) (Tl.hasType FB.hasBase) hh (by rw [hst]; rfl) hni (glob_name G R W hg.1 hg.2 O.bound ⟨rfl, ?_⟩)
  have e1 : backTo cp (starEach [arg] env) = (false, eval arg env) :: backTo cp (starEach [] env) := by rw [hst]; rfl
  rw [e1]
  refine PySem.Calls.evalArgs_plain ?_
  rw [← e1]
  refine se_args [arg] [.str t] (by rw [cEs_two, hxa, cEs_nil]; rfl) (fun e' he' y hy => IH e' y hy) m φ H s (fun _ H' => H' = H) _ E R W (by simp only [wes_nil, wes_cons, ZO]) fun vs ws φ' H' s' hp st R' rv hlen => ?_
  subst hp
  have hwl : ws.length ≤ 1 := by have := rv.length; simp at hlen; lia
  refine ⟨rfl, by show ws.length ≤ sizeLine; unfold sizeLine; lia, R'.keep _ _ hC, hN.keeps R'.keep, Tl.keeps R'.keep, fun h' e hm => ?_⟩
  have stu := up (own env) st
  have S' := stk_cons hx (W.step R st) (S.step R stu hx.apart)
  obtain ⟨tp, het, _, _⟩ := hm.there
  refine K k e .none s' φ' H' { s' with heap := h' } hw stu R' ⟨frs (env :: outer), PySem.W.hideAll s'.heap (frs (env :: outer)), fun _ h => h, S'.at, fun b o q => PySem.W.of_hideAll _ q, fun b o q hn => PySem.W.hideAll_get _ q hn, fun a ha => PySem.W.hideAll_none _ ha,
    ⟨fun b o q => hm.keeps b o (PySem.W.of_hideAll _ q), ?_, ⟨_, _, .none, het, hK.symm, rfl, rfl, rfl, .inl ⟨rfl, rfl⟩⟩⟩, S'.fun.of_keeps fun b o q _ => ⟨o, hm.keeps b o q, rfl⟩, Heap.UpToSlots.of_keeps hm.keeps, h', s'.toks, rfl⟩ (.inl rfl)
  cases z : (PySem.W.hideAll s'.heap (frs (env :: outer))).get? e with
  | none => rfl
  | some o => have := PySem.W.of_hideAll _ z; rw [hm.new] at this; cases this
end
end Mine

open PySem
namespace Mine
section
variable {prog : Program} {w : World} {base : Heap} {D : Tabs} {T : Nat → Option Fn} {mg mb : Str → Option Value} {C : Calls} {Z : Raisers} {A : Around} {sc : Scope} {Γ : List Str} {env : Env} {outer : List Env} {Kd : Nat → Value}

theorem Land.note {M : Model} {E : Value → Shared → Prop} {Q : Unit → Shared → Prop} {fl : Value} {k : Nat} {e : Addr} {mid s' : Shared} (hx : Here A env outer) (L : Land base Kd (env :: outer) fl k e mid s') (hfl : fl = .none ∨ fl = rawInt env.locals)
    (h : ∀ h', Land base Kd (env :: outer) (rawInt env.locals) k e mid { s' with heap := h' } → Q () { s' with heap := h' }) : wpAny M A (noteFrame (.ref e) env) Q E s' := by
  obtain ⟨fr, B, h1, h2, h3, h4, h5, F, hl, u, hh, tk, e1⟩ := L
  refine Mine.note hx.frames hl (fun b hb => h5 b (h1 b hb)) hx.frame hfl F fun h' F' l' u' => h h' ⟨fr, B, h1, h2, h3, h4, h5, F', l', u.trans u', h', tk, ?_⟩
  rw [e1]
theorem Land.back {M : Model} {E : Value → Shared → Prop} {k : Nat} {e : Addr} {mid s' : Shared} (hx : Here A env outer) (L : Land base Kd (env :: outer) (rawInt env.locals) k e mid s')
    (h : ∀ h', Land base Kd (env :: outer) (rawInt env.locals) k e mid { s' with heap := h' } → E (.ref e) { s' with heap := h' }) : cameBackBy M A env E (.ref e) s' := by
  obtain ⟨fr, B, h1, h2, h3, h4, h5, F, hl, u, hh, tk, e1⟩ := L
  refine came_back hx.frame hl F fun h' F' l' u' => h h' ⟨fr, B, h1, h2, h3, h4, h5, F', l', u.trans u', h', tk, ?_⟩
  rw [e1]
theorem Land.leave {M : Model} {E : Value → Shared → Prop} {Q : Unit → Shared → Prop} {fl : Value} {k : Nat} {e : Addr} {mid s' : Shared} (hx : Here A env outer) (L : Land base Kd (env :: outer) fl k e mid s') (hfl : fl = .none ∨ fl = rawInt env.locals)
    (h : ∀ h', Land base Kd (env :: outer) .none k e mid { s' with heap := h' } → Q () { s' with heap := h' }) : wpAny M A (leaving env (.ref e)) Q E s' := by
  obtain ⟨fr, B, h1, h2, h3, h4, h5, F, hl, u, hh, tk, e1⟩ := L
  refine Mine.leave hx.frames hl (fun b hb => h5 b (h1 b hb)) hx.frame hfl F fun h' F' l' u' => h h' ⟨fr, B, h1, h2, h3, h4, h5, F', l', u.trans u', h', tk, ?_⟩
  rw [e1]
theorem Land.out {fl : Value} {k : Nat} {e : Addr} {mid s' : Shared} (L : Land base Kd (env :: outer) fl k e mid s') : Land base Kd outer fl k e mid s' := by
  obtain ⟨fr, B, h1, h2, h3, h4, h5, F, ⟨_, _, hl⟩, u, hs⟩ := L
  refine ⟨fr, B, fun a ha => h1 a ?_, h2, h3, h4, h5, F, hl, u, hs⟩
  obtain ⟨e', he', hf⟩ := List.mem_filterMap.mp ha
  exact List.mem_filterMap.mpr ⟨e', .tail _ he', hf⟩

theorem ContX.call {φ φ' : List Addr} {s s' : Shared} {X : PX} {E : Value → Shared → Prop} (K : ContX base Kd env outer φ s X E) (st : Step [] φ φ' s s') : ContZ base Kd (env :: outer) φ' s' X E :=
  fun k e mid φ'' H'' s'' hr st' R' L => K k e .none mid φ'' H'' s'' hr ((up _ st).trans (up _ st')) R' L (.inl rfl)

theorem ContZ.after {φ φ' : List Addr} {s s' : Shared} {X : PX} {E : Value → Shared → Prop} (K : ContZ base Kd outer φ s X E) (st : Step [] φ φ' s s') : ContZ base Kd outer φ' s' X E :=
  fun k e mid φ'' H'' s'' hr st' R' L => K k e mid φ'' H'' s'' hr (st.trans st') R' L
/-- a call that raises -/
theorem rx_expr (G : Ground base D T mg mb) (hZ : SoundZ prog w base D T Kd Z A) (hx : Here A env outer) {f : Str} {k : Nat} {fp cp pos : Pos} {args : List Expr} {xs : List X} (hf : D.fids.lookup f = some k) (hg : isGlob sc f = true) (hd : (f == ("__debug__" : Str)) = false)
    (hc : cEs D sc Γ args = some xs) (IH : ∀ e ∈ args, ∀ x, cE D sc Γ e = some x → SE prog w base C A e x sc Γ env) {m : Loc} {φ : List Addr} {H : Hp} {s : Shared} {X : PX} {QQ : Flow → Shared → Prop} {E : Value → Shared → Prop} (R : Rel base φ H s.heap) (W : EnvR base φ sc env Γ m s.heap) (S : Stk base s.heap outer)
    (hw : rzS C Z (.expr k xs) m H X) (K : ContZ base Kd (env :: outer) φ s X E) : wpAny (model prog w) A (exec (.Expr (.Call (.Name f fp) args [] cp) pos) env) QQ E s := by
  refine wpAny_Expr_any ?_ (by unfold interactive; rw [W.kind]; rfl) rfl
  obtain ⟨a, o, fd, body, d, params, hm, hF⟩ := G.fn f k hf
  refine wpAny_Call_NameR (glob_name G R W hg hd hm ?_)
  refine PySem.Calls.callWith_function (o := o) (fd := fd) ?_
  replace hw : wpEs C xs m H fun vs H₁ => Z k vs H₁ X := hw
  cases args with
  | nil =>
    rw [cEs_nil] at hc; cases hc
    simp only [wes_nil, wes_cons] at hw
    exact evalArgs_none ⟨⟨R.keep _ _ hF.obj, hF.dat⟩, hZ k a o fd body d params [] [] H X φ s _ E _ hF hx.frames (stk_cons hx W S) R rfl hw K⟩
  | cons e r =>
    have hs : ∃ a as, cE D sc Γ e = some a ∧ cEs D sc Γ r = some as := by
      rcases cEs_cons hc with ⟨a, as, h1, h2, rfl⟩
      · exact ⟨a, as, h1, h2⟩
    obtain ⟨a', as, h1, h2⟩ := hs
    have e1 : backTo cp (starEach (e :: r) env) = (false, eval e env) :: backTo cp (starEach r env) := by rw [not_star h1]; rfl
    rw [e1]
    refine PySem.Calls.evalArgs_plain ?_
    rw [← e1]
    refine se_args (e :: r) xs hc IH m φ H s _ _ E R W hw fun vs ws φ' H' s' hp st R' rv _ => ⟨⟨R'.keep _ _ hF.obj, hF.dat⟩, ?_⟩
    exact hZ k a o fd body d params vs ws H' X φ' s' _ E _ hF hx.frames (stk_cons hx (W.step R st) (S.step R (up _ st) hx.apart)) R' rv hp (K.after st)
theorem rs_expr (G : Ground base D T mg mb) (hZ : SoundZ prog w base D T Kd Z A) (hx : Here A env outer) {f : Str} {k : Nat} {fp cp pos : Pos} {args : List Expr} {xs : List X} (hf : D.fids.lookup f = some k) (hg : isGlob sc f = true) (hd : (f == ("__debug__" : Str)) = false)
    (hc : cEs D sc Γ args = some xs) (IH : ∀ e ∈ args, ∀ x, cE D sc Γ e = some x → SE prog w base C A e x sc Γ env) : RS prog w base Kd C Z A (.Expr (.Call (.Name f fp) args [] cp) pos) (.expr k xs) sc Γ env outer := fun m φ H s X QQ E R W S hw K =>
  rx_expr G hZ hx hf hg hd hc IH R W S hw (K.call (Step.refl _ _ _))

theorem rs_if {t : Expr} {b c : List Stmt} {xt : X} {xb xc : List S} {pos : Pos} (hx : Here A env outer) (ht : ST prog w base C A t xt sc Γ env) (hb : RSs prog w base Kd C Z A b xb sc Γ env outer) (hc : RSs prog w base Kd C Z A c xc sc Γ env outer) :
    RS prog w base Kd C Z A (.If t b c pos) (.ite xt xb xc) sc Γ env outer := fun m φ H s X QQ E R W S hw K => by
  replace hw : wpE C xt m H fun v H₁ => match truth v with | some true => rzSs C Z xb m H₁ X | some false => rzSs C Z xc m H₁ X | none => False := hw
  refine wpAny_If (ht m φ H s _ _ E R W hw (fun v bb φ' H' s' hp hv st R' => ?_) fun v H' hp => ?_)
  · rw [hv] at hp
    have S' := S.step R (up _ st) hx.apart
    cases bb with
    | true => simp only [if_true]; exact hb m φ' H' s' X QQ E R' (W.step R st) S' hp (K.after (up _ st))
    | false => simp only [Bool.false_eq_true, if_false]; exact hc m φ' H' s' X QQ E R' (W.step R st) S' hp (K.after (up _ st))
  · cases q : truth v with
    | none => rw [q] at hp; exact hp.elim
    | some b => exact ⟨b, rfl⟩

theorem rs_for (G : Ground base D T mg mb) (hh : A.handled = none) (hx : Here A env outer) {tg iter : Expr} {b : List Stmt} {xs : List Str} {is : List Nat} {ix : X} {xb : List S} {pos : Pos} (htg : tgts tg = some xs) (hs : slots Γ xs = some is) (hown : ∀ x ∈ xs, isOwn sc x = true) (hit : okIt (itOf ix).1 xs.length = true)
    (hci : cE D sc Γ iter = some ix) (IHi : ∀ e', sizeOf e' ≤ sizeOf iter → ∀ y, cE D sc Γ e' = some y → SE prog w base C A e' y sc Γ env) (hn : SSs prog w base C A b xb sc Γ env) (hb : RSs prog w base Kd C Z A b xb sc Γ env outer) :
    RS prog w base Kd C Z A (.For tg iter b [] pos) (.each is (itOf ix).1 (itOf ix).2.1 (itOf ix).2.2 xb) sc Γ env outer := fun m φ H s X QQ E R W S hw K => by
  refine for_gen G hh htg hs hown hit hci IHi (Wb := fun m H Q => rzSs C Z xb m H X ∨ wpSs C xb m H Q) (Q := fun _ _ _ => False) (fun m' φ' H' s' Q' QQ' st' R' W' hw' K' => ?_) R W hw fun _ _ _ _ _ _ hq => hq.elim
  rcases hw' with hw' | hw'
  · refine hb m' φ' H' s' X QQ' _ R' W' (S.step R st' hx.apart) hw' fun k e fl mid φ'' H'' s'' hr st'' R'' L hfl => ?_
    exact L.note hx hfl fun h' L' => L'.back hx fun h'' L'' => K k e _ mid φ'' H'' _ hr (st'.trans st'') R'' L'' (.inr rfl)
  · exact hn m' φ' H' s' Q' QQ' _ R' W' hw' K'

set_option tactic.hygienic true
theorem rss_cons {st : Stmt} {r : List Stmt} {x : S} {xs : List S} (hx : Here A env outer) (hn : SS prog w base C A st x sc Γ env) (h1 : RS prog w base Kd C Z A st x sc Γ env outer) (h2 : RSs prog w base Kd C Z A r xs sc Γ env outer) :
    RSs prog w base Kd C Z A (st :: r) (x :: xs) sc Γ env outer := fun m φ H s X QQ E R W S hw K => by
  rcases (show rzS C Z x m H X ∨ wpS C x m H (fun f m' H' => match f with | .next => rzSs C Z xs m' H' X | .ret _ => False) from hw) with hw | hw
  · exact wpAny_execs_cons (h1 m φ H s X _ E R W S hw K)
  · refine wpAny_execs_cons (hn m φ H s _ _ E R W hw fun fl f m' φ' H' s' hq st' R' W' hf => ?_)
    cases fl with
    | next =>
      rw [show f = .next from hf]
      exact h2 m' φ' H' s' X QQ E R' W' (S.step R st' hx.apart) hq (K.after st')
    | ret v => exact hq.elim
set_option tactic.hygienic false

theorem rs_call (G : Ground base D T mg mb) (hZ : SoundZ prog w base D T Kd Z A) (hx : Here A env outer) {f : Str} {fp cp pos : Pos} {args : List Expr} {k : Nat} {as : List X} (he : cE D sc Γ (.Call (.Name f fp) args [] cp) = some (.call k as)) (E1 : ∀ e x, cE D sc Γ e = some x → SE prog w base C A e x sc Γ env) :
    RS prog w base Kd C Z A (.Expr (.Call (.Name f fp) args [] cp) pos) (.expr k as) sc Γ env outer := by
  obtain ⟨hn, h⟩ := if_some (show (if (!(f == ("__debug__" : Str)) && isGlob sc f) = true then (cEs D sc Γ args).bind fun as => mkCall D f as else none) = some (X.call k as) from he)
  obtain ⟨as', has, h⟩ := Zk h
  simp only [Bool.and_eq_true, Bool.not_eq_true'] at hn
  rcases mkCall_cases h with ⟨k', hk, e'⟩ | ⟨_, ⟨a, rfl, hq⟩ | ⟨a, b, rfl, hq⟩⟩
  · cases e'
    exact rs_expr G hZ hx hk hn.2 hn.1 has fun e _ x h => E1 e x h
  · --[nset
    rcases call1_cases hq with ⟨_, ⟨_, _, q⟩ | q⟩ | ⟨_, ⟨_, _, _, q⟩ | q⟩ | ⟨_, _, q⟩ <;> cases q
  · rcases call2_cases hq with ⟨_, _, _, _, _, q⟩ | ⟨_, _, q⟩ <;> cases q
theorem soundR (G : Ground base D T mg mb) (hh : A.handled = none) (hu : A.units + 64 < cLine) (hX : ExcsOk base D Kd mg) (hZ : SoundZ prog w base D T Kd Z A) (hx : Here A env outer)
    (E1 : ∀ {e : Expr} {x : X}, cE D sc Γ e = some x → SE prog w base C A e x sc Γ env) (E2 : ∀ {e : Expr} {x : X}, cE D sc Γ e = some x → ST prog w base C A e x sc Γ env)
    (S1 : ∀ {st : Stmt} {x : S}, cS D sc Γ st = some x → SS prog w base C A st x sc Γ env) (S2 : ∀ {sts : List Stmt} {xs : List S}, cSs D sc Γ sts = some xs → SSs prog w base C A sts xs sc Γ env) :
    ∀ (N : Nat), (∀ (st : Stmt), sizeOf st < N → ∀ x, cS D sc Γ st = some x → RS prog w base Kd C Z A st x sc Γ env outer) ∧ (∀ (sts : List Stmt), sizeOf sts < N → ∀ xs, cSs D sc Γ sts = some xs → RSs prog w base Kd C Z A sts xs sc Γ env outer)
  | 0 => ⟨fun _ h => absurd h (Nat.not_lt_zero _), fun _ h => absurd h (Nat.not_lt_zero _)⟩
  | N + 1 => by
    obtain ⟨IH, IHs⟩ := soundR G hh hu hX hZ hx E1 E2 S1 S2 N
    refine ⟨fun st hN x hc => ?_, fun sts hN xs hc => ?_⟩
    · refine cS_elim (M := fun st x => sizeOf st < N + 1 → RS prog w base Kd C Z A st x sc Γ env outer) ?_ ?_ ?_ ?_ ?_ ?_ ?_ st x hc hN
      · intro tgs v pos x hc hN m φ H s X QQ E R W S hw K
        exact cAssign_elim (M := fun _ x => rzS C Z x m H X → False) (fun _ _ _ _ _ _ _ q => q) (fun _ _ _ _ _ _ _ _ _ q => q) (fun _ _ _ _ _ _ _ _ _ _ _ _ _ _ _ _ q => q) hc hw |>.elim
      · intro e0 pos x hc hN
        exact cExpr_elim (M := fun e x => RS prog w base Kd C Z A (.Expr e pos) x sc Γ env outer) (fun _ _ _ _ _ _ _ _ _ _ m φ H s X QQ E R W S hw K => False.elim hw) (fun f fp args cp k as q => rs_call G hZ hx q fun e x h => E1 h) hc
      · intro t b c pos t' b' c' g1 g2 g3 hN
        exact rs_if hx (E2 g1) (IHs b (by simp at hN; lia) b' g2) (IHs c (by simp at hN; lia) c' g3)
      · intro t b pos t' b' g1 g2 hN
        exact fun m φ H s X QQ E R W S hw K => hw.elim
      · intro tg iter b pos xs ix b' is g1 g2 g3 hcond g4 hN
        simp only [Bool.and_eq_true, List.all_eq_true] at hcond
        exact rs_for G hh hx g1 g4 hcond.1 hcond.2 g2 (fun e' _ y hy => E1 hy) (S2 g3) (IHs b (by simp at hN; lia) b' g3)
      · intro e pos e' g1 hN
        exact fun m φ H s X QQ E R W S hw K => hw.elim
      · intro a b pos x hc hN
        exact rs_raise G hh hu hx hX hc fun e x h => E1 h
    · cases sts with
      | nil => rw [cSs_nil] at hc; cases hc; exact fun m φ H s X QQ E R W S hw K => hw.elim
      | cons st r =>
        obtain ⟨a, as, g1, g2, rfl⟩ := cSs_cons hc
        exact rss_cons hx (S1 g1) (IH st (by simp at hN; lia) a g1) (IHs r (by simp at hN; lia) as g2)

set_option tactic.hygienic true
/-- the raising calls are sound to every depth -/
theorem soundZ (G : Ground base D T mg mb) (hX : ExcsOk base D Kd mg) (hR : ∀ A, A.handled = none → D.revs = true → RevSound prog w base A) (hZ : ∀ C A, A.handled = none → D.zips = true → ZipSound prog w base D C A) :
    ∀ (n : Nat) (A : Around), Room n A → SoundZ prog w base D T Kd (runZ T n) A
  | 0, _, _ => fun _ _ _ _ _ _ _ _ _ _ _ _ _ _ _ _ _ _ _ _ _ hc _ => hc.elim
  | n + 1, A, hA => fun k a o fd body d params vs ws H X φ s Q E outer hF hfr S R rv hc K => by
    rw [runZ_at hF.tab] at hc
    obtain ⟨hp, hle, hw⟩ := hc
    have hcf := hF.comp
    unfold cFn at hcf
    split at hcf
    · rename_i hcond
      simp only [Bool.and_eq_true, Bool.not_eq_true', beq_iff_eq, List.all_eq_true, decide_eq_true_eq, bne_iff_ne, ne_eq] at hcond
      obtain ⟨⟨⟨⟨⟨hok, hgen⟩, hco⟩, hps⟩, hnf⟩, hnd⟩ := hcond
      simp only [Option.map_eq_some_iff] at hcf
      obtain ⟨b, hb, rfl⟩ := hcf
      dsimp only at hp hle hw
      have hlen := rv.length
      refine wpAny_call (codeAny_call_function (fd := fd) (body := body) (by have := hA.2.1; unfold recursionLimit; lia) (R.keep _ _ hF.obj) hF.dat hco hgen hF.bod (hF.code.keeps R.keep) ?_)
      rw [hF.bind ws (by rw [hlen, hp]), hF.glob, hF.clos, hF.blt]
      refine wpAny_pure (fn_env hok hnf hnd hps (by rw [hp]) (by rw [hp]; exact hle) R rv fun env s' hfe st hown R' W' => ?_)
      refine ⟨(G.nolim.keeps R'.keep), codeAny_func ?_⟩
      have hA' := hA.deeper env
      have ap : Apart env outer := fun x hx q => by
        obtain ⟨_, mm, o', es, ep, ho', _⟩ := S.at x hx
        rw [hown x q] at ho'; cases ho'
      have hx : Here (A.deeper env) env outer := ⟨Around.frames_deeper hfr, hfe, ap⟩
      have u64 : (A.deeper env).units + 64 < cLine := by have := hA'.2.2.1; lia
      have sC := soundC (prog := prog) (w := w) G hR hZ n _ hA'
      have sS := fun N => soundS (C := run T n) (A := A.deeper env) G hA'.1 u64 hA'.2.2.2 sC (hR _ hA'.1) (hZ _ _ hA'.1) fd.scope (ownNames fd.scope) env N
      have sE := fun e x h => soundE (C := run T n) (A := A.deeper env) G hA'.1 u64 hA'.2.2.2 sC (hR _ hA'.1) (hZ _ _ hA'.1) _ e (Nat.lt_succ_self _) fd.scope (ownNames fd.scope) env x h
      have hS := (soundR (C := run T n) (A := A.deeper env) G hA'.1 u64 hX (soundZ G hX hR hZ n _ hA') hx (fun h => (sE _ _ h).1) (fun h => (sE _ _ h).2) (fun h => (sS _).1 _ (Nat.lt_succ_self _) _ h) (fun h => (sS _).2 _ (Nat.lt_succ_self _) _ h) _).2 body (Nat.lt_succ_self _) b hb
      have S' : Stk base s'.heap outer := S.step R (env := env) (up _ st) ap
      refine hS _ φ H s' X _ _ R' W' S' (by simpa [entry, hp] using hw) fun k e fl mid φ' H' s'' hr st' R'' L hfl => ?_
      refine L.leave hx hfl fun h' L' => ?_
      refine K k e mid φ' H' _ hr ?_ R'' L'.out
      refine ⟨st'.pre, fun x hx hx' => ?_, fun x o' e hx _ => ?_, fun x e => st'.live x (st.live x e), ?_⟩
      · exact old_none st (st'.new x hx hx')
      · exact st'.evo x o' (st.evo x o' e hx (by simp)) hx (fun q => by rw [hown x q] at e; cases e)
      · obtain ⟨h1, t1, e1⟩ := st.same
        obtain ⟨h2, t2, e2⟩ := st'.same
        exact ⟨h2, t2, by rw [e2, e1]⟩
    · cases hcf
set_option tactic.hygienic false

end
end Mine

open PySem
namespace Mine
section
variable {prog : Program} {w : World} {base : Heap} {D : Tabs} {T : Nat → Option Fn} {mg mb : Str → Option Value} {C : Calls} {Z : Raisers} {A : Around} {sc : Scope} {Γ : List Str} {env : Env} {outer : List Env} {Kd : Nat → Value}
  {l : List Env} {fl : Value} {k : Nat} {e : Addr} {mid s' : Shared} {φ : List Addr} {H : Hp}

/-- what is no name space stays as it is -/
theorem Land.stays (L : Land base Kd l fl k e mid s') {b : Addr} {o : Obj} (ho : mid.heap.get? b = some o) (hn : ∀ es n, o.data = .dict es n → ¬ StrKeys es) : s'.heap.get? b = some o := by
  obtain ⟨fr, B, h1, h2, h3, h4, h5, F, _⟩ := L
  refine F.stays b o (h4 b o ho fun q => ?_)
  obtain ⟨_, mm, o', es, ep, ho', hd, hs, _⟩ := h2 b q
  rw [ho] at ho'; cases ho'
  exact hn es ep hd hs
theorem Land.ofBase (L : Land base Kd l fl k e mid s') (hk : ∀ b o, base.get? b = some o → mid.heap.get? b = some o) {b : Addr} {o : Obj} (ho : base.get? b = some o) : s'.heap.get? b = some o := by
  obtain ⟨fr, B, h1, h2, h3, h4, h5, F, _⟩ := L
  refine F.stays b o (h4 b o (hk b o ho) fun q => ?_)
  rw [(h2 b q).1] at ho; cases ho
theorem Land.ns (L : Land base Kd l fl k e mid s') {b : Addr} {mm : Str → Option Value} (hn : mid.heap.Ns b mm) : s'.heap.Ns b mm := by
  obtain ⟨fr, B, h1, h2, h3, h4, h5, F, _, u, _⟩ := L
  exact u.ns hn
theorem Land.tup (L : Land base Kd l fl k e mid s') {b : Addr} {o : Obj} (ho : mid.heap.get? b = some o) (t : TupObj o) : s'.heap.get? b = some o :=
  L.stays ho fun _ _ hd => t.not_ns hd
theorem Land.rel (L : Land base Kd l fl k e mid s') (R : Rel base φ H mid.heap) : Rel base φ H s'.heap := by
  refine ⟨fun a o q => L.ofBase R.keep q, R.len, R.nodup, R.fresh, R.small, fun k a q => ?_⟩
  obtain ⟨vs, n, xs, h1, h2, h3⟩ := R.lists k a q
  exact ⟨vs, n, xs, L.stays h1 (fun _ _ hd => by cases hd), h2, RepL.mono (List.prefix_refl _) (fun b o q t => L.tup q t) _ _ h3⟩
theorem Land.rep (L : Land base Kd l fl k e mid s') {x : V} {v : Value} (r : Rep base φ mid.heap x v) : Rep base φ s'.heap x v :=
  Rep.mono (List.prefix_refl _) (fun _ _ q t => L.tup q t) x v r
theorem Land.envR {m : Loc} (L : Land base Kd l fl k e mid s') (W : EnvR base φ sc env Γ m mid.heap) : EnvR base φ sc env Γ m s'.heap := by
  have cell : ∀ {c : Addr} {v : Option Value}, mid.heap.IsCell c v → s'.heap.IsCell c v := fun {c v} hc => by
    obtain ⟨o, ho, hd⟩ := hc
    exact ⟨o, L.stays ho (fun _ _ q => by rw [hd] at q; cases q), hd⟩
  obtain ⟨mm, hn, hm⟩ := W.ns
  refine ⟨W.kind, W.glob, W.blt, W.len, W.kinds, W.fresh, ⟨mm, L.ns hn, fun x i v h1 h2 h3 => ?_⟩, fun p e => ?_, fun x i v h1 h2 h3 => ?_, W.inj, W.has⟩
  · obtain ⟨w, e, r⟩ := hm x i v h1 h2 h3
    exact ⟨w, e, L.rep r⟩
  · obtain ⟨h1, v, hv⟩ := W.cellat p e
    exact ⟨h1, v, cell hv⟩
  · obtain ⟨c, w, e, hc, r⟩ := W.cellv x i v h1 h2 h3
    exact ⟨c, w, e, cell hc, L.rep r⟩
/-- the exception itself -/
theorem Land.lone (L : Land base Kd l fl k e mid s') : Ex2 fun o vs => And4 (s'.heap.get? e = some o) (o.cls = Kd k) (o.data = .fields vs) (vs[2]? = some .none):= by
  obtain ⟨fr, B, h1, h2, h3, h4, h5, F, _⟩ := L
  obtain ⟨oe, vs, v, q1, q2, q3, q4, _⟩ := F.exc
  exact ⟨oe, vs, q1, q2, q3, q4⟩
theorem Land.same (L : Land base Kd l fl k e mid s') : Ex2 fun h tk => s' = { mid with heap := h, toks := tk }:= by
  obtain ⟨fr, B, h1, h2, h3, h4, h5, F, _, _, h⟩ := L
  exact h
/-- it is no longer under way -/
theorem Land.flight0 {M : Model} {E : Value → Shared → Prop} {Q : Unit → Shared → Prop} (L : Land base Kd l .none k e mid s') (h : ∀ h', Land base Kd l .none k e mid { s' with heap := h' } → Q () { s' with heap := h' }) : wpAny M A (setFlight (.ref e) none) Q E s' := by
  obtain ⟨fr, B, h1, h2, h3, h4, h5, F, hl, u, hh, tk, e1⟩ := L
  have F' := F
  obtain ⟨hkb, hen, oe, vs, v, he, hc, hd, q2, q1, ht⟩ := F
  unfold setFlight
  refine wpAny_bind (wpAny_field he hd q1 ?_)
  rcases ht with ⟨rfl, _⟩ | ⟨T, oT, ts, rfl, hnT, hTe, hT, hdT, q3⟩
  · rw [if_neg (by decide)]
    exact wpAny_pure (h s'.heap ⟨fr, B, h1, h2, h3, h4, h5, F', hl, u, hh, tk, e1⟩)
  · rw [if_pos (show (Value.ref T != Value.none) = true from by simp)]
    have hs3 := (Array.getElem?_eq_some_iff.mp q3).1
    refine wpAny_setField hT hdT hs3 ?_
    have other : ∀ b, b ≠ T → (s'.heap.update T (Obj.mapFields (·.setIfInBounds 3 ((none : Option Addr).elim Value.none fun f => rawInt f)))).get? b = s'.heap.get? b := fun b hb => Heap.get?_update_other _ _ (Ne.symm hb)
    have noRec : ∀ b o, s'.heap.get? b = some o → (∀ vs, o.data ≠ .fields vs) → b ≠ T := fun b o hb hnf q => by
      rw [q, hT] at hb; cases hb; exact hnf ts hdT
    have hd' := Obj.data_mapFields hdT (·.setIfInBounds 3 ((none : Option Addr).elim Value.none fun f => rawInt f))
    refine h _ ⟨fr, B, h1, h2, h3, h4, h5, ⟨fun b o q => (other b fun z => by rw [z, hnT] at q; cases q).trans (hkb b o q), hen, oe, vs, .ref T, (other e (Ne.symm hTe)).trans he, hc, hd, q2, q1,
      .inr ⟨T, _, _, rfl, hnT, hTe, Heap.get?_update_self _ hT (Obj.isFreed_of_fields hd'), hd', by simp [hs3]⟩⟩, hl.of_keeps fun b o hb hnf => ⟨o, (other b (noRec b o hb hnf)).trans hb, rfl⟩,
      u.trans fun b o hb hnf => ⟨o.slots, (other b (noRec b o hb hnf)).trans hb⟩, _, tk, by rw [e1]⟩
end
end Mine

open PySem
namespace Mine
section
variable {base base' : Heap} {φ : List Addr} {h : Heap} {H : Hp}
mutual
theorem Rep.rebase (hl : ∀ a vs, base.IsList a vs → base'.IsList a vs) : ∀ (x : V) (v : Value), Rep base φ h x v → Rep base' φ h x v
  | .none, _, r => r
  | .bool _, _, r => r
  | .int _, _, r => r
  | .str _, _, r => r
  | .ref _, _, r => r
  | .tup xs, _, ⟨a, vs, e, t, r, z⟩ => ⟨a, vs, e, t, RepL.rebase hl xs vs r, z⟩
  | .frz _, _, ⟨a, vs, e, q, r, r'⟩ => ⟨a, vs, e, hl _ _ q, r, r'⟩
  | .dct, _, r => r
theorem RepL.rebase (hl : ∀ a vs, base.IsList a vs → base'.IsList a vs) : ∀ (xs : List V) (vs : List Value), RepL base φ h xs vs → RepL base' φ h xs vs
  | [], _, r => r
  | x :: xs, _, ⟨v, r, e, hv, hr⟩ => ⟨v, r, e, Rep.rebase hl x v hv, RepL.rebase hl xs r hr⟩
end
theorem Rel.rebase (R : Rel base φ H h) (hl : ∀ a vs, base.IsList a vs → base'.IsList a vs) (hk : ∀ a o, base'.get? a = some o → h.get? a = some o) (hf : ∀ a ∈ φ, base'.get? a = none) : Rel base' φ H h :=
  ⟨hk, R.len, R.nodup, hf, R.small, fun k a q => by
    obtain ⟨vs, n, xs, h1, h2, h3⟩ := R.lists k a q
    exact ⟨vs, n, xs, h1, h2, RepL.rebase hl _ _ h3⟩⟩
theorem EnvR.rebase {sc : Scope} {env : Env} {Γ : List Str} {m : Loc} (W : EnvR base φ sc env Γ m h) (hl : ∀ a vs, base.IsList a vs → base'.IsList a vs) (hf : ∀ a ∈ own env, base'.get? a = none) : EnvR base' φ sc env Γ m h := by
  obtain ⟨mm, hn, hm⟩ := W.ns
  refine ⟨W.kind, W.glob, W.blt, W.len, W.kinds, hf _ (.head _), ⟨mm, hn, fun x i v h1 h2 h3 => ?_⟩, fun p e => ?_, fun x i v h1 h2 h3 => ?_, W.inj, W.has⟩
  · obtain ⟨w, e, r⟩ := hm x i v h1 h2 h3
    exact ⟨w, e, Rep.rebase hl _ _ r⟩
  · exact ⟨hf _ (.tail _ (List.mem_map.mpr ⟨p, e, rfl⟩)), (W.cellat p e).2⟩
  · obtain ⟨c, w, e, hc, r⟩ := W.cellv x i v h1 h2 h3
    exact ⟨c, w, e, hc, Rep.rebase hl _ _ r⟩
theorem Ground.rebase {D : Tabs} {T : Nat → Option Fn} {mg mb : Str → Option Value} (G : Ground base D T mg mb) (hk : ∀ a o, base.get? a = some o → base'.get? a = some o) : Ground base' D T mg mb := by
  refine ⟨G.glob.keeps hk, G.blt.keeps hk, G.nolim.keeps hk, ?_, G.const, G.bi, fun f k hf => ?_⟩
  · obtain ⟨o, ho⟩ := G.sys
    exact ⟨o, hk _ _ ho⟩
  · obtain ⟨a, o, fd, body, d, params, hm, F⟩ := G.fn f k hf
    exact ⟨a, o, fd, body, d, params, hm, ⟨hk _ _ F.obj, F.dat, F.bod, F.code.keeps hk, F.glob, F.clos, F.blt, F.tab, F.comp, F.bind⟩⟩

/-- the ground and one more thing -/
structure Plus (base base' : Heap) (e : Addr) (oe : Obj) : Prop where
  old : ∀ a o, base.get? a = some o → base'.get? a = some o
  here : base'.get? e = some oe
  only : ∀ a o, base'.get? a = some o → base.get? a = some o ∨ (a = e ∧ o = oe)
noncomputable def plus (base h : Heap) (e : Addr) : Heap := PySem.W.hideAll h ((List.range h.objs.size).filter fun a => (base.get? a).isNone && a != e)
theorem plus_is {e : Addr} {oe : Obj} (hk : ∀ a o, base.get? a = some o → h.get? a = some o) (he : h.get? e = some oe) : Plus base (plus base h e) e oe ∧ ∀ a o, (plus base h e).get? a = some o → h.get? a = some o := by
  have sub : ∀ a o, (plus base h e).get? a = some o → h.get? a = some o := fun a o q => PySem.W.of_hideAll _ q
  refine ⟨⟨fun a o q => PySem.W.hideAll_get _ (hk a o q) fun z => ?_, PySem.W.hideAll_get _ he fun z => ?_, fun a o q => ?_⟩, sub⟩
  · have := (List.mem_filter.mp z).2; rw [q] at this; simp at this
  · have := (List.mem_filter.mp z).2; simp at this
  · by_cases z : a = e
    · subst z; have := sub _ _ q; rw [he] at this; cases this; exact .inr ⟨rfl, rfl⟩
    · cases hb : base.get? a with
      | some o' => have := sub _ _ q; rw [hk a o' hb] at this; cases this; exact .inl rfl
      | none =>
        have hm : a ∈ (List.range h.objs.size).filter fun a => (base.get? a).isNone && a != e := List.mem_filter.mpr ⟨List.mem_range.mpr (Heap.lt_size (sub _ _ q)), by simp [hb, z]⟩
        rw [show (plus base h e).get? a = none from PySem.W.hideAll_none _ hm] at q; cases q
theorem Plus.fwd {e : Addr} {oe : Obj} (P : Plus base base' e oe) : ∀ a vs, base.IsList a vs → base'.IsList a vs := fun a vs ⟨o, ho, r⟩ => ⟨o, P.old _ _ ho, r⟩
theorem Plus.bwd {e : Addr} {oe : Obj} (P : Plus base base' e oe) {us : Array Value} (hd : oe.data = .fields us) : ∀ a vs, base'.IsList a vs → base.IsList a vs := fun a vs ⟨o, ho, hc, n, q⟩ => by
  rcases P.only _ _ ho with z | ⟨_, rfl⟩
  · exact ⟨o, z, hc, n, q⟩
  · rw [hd] at q; cases q
end
end Mine

open PySem
namespace Mine
noncomputable def vbm : List Value := [.type "ValueError", .type "Exception", .type "BaseException", .type "object"]
noncomputable def hush : List Str := ["__getattribute__", "__getattr__", "__class__", "__init__"]
/-- a class of exceptions and what stands behind it -/
noncomputable def ClsAt (h : Heap) (C : Addr) (bm : List Value) : Prop := Ex9 fun nm q N bs hdct sn sub ab col => Ex8 fun dd k0 k1 k2 k3 k5 newId mN => And3 (h.get? C = some (excClassObj nm q C N bs bm hdct sn sub ab col dd k0 k1 k2 k3 k5 newId)) (h.Ns N mN) (∀ n ∈ hush, mN n = none)
theorem ClsAt.keeps {h h' : Heap} {C : Addr} {bm : List Value} (c : ClsAt h C bm) (hk : ∀ a o, h.get? a = some o → h'.get? a = some o) : ClsAt h' C bm := by
  obtain ⟨nm, q, N, bs, hdct, sn, sub, ab, col, dd, k0, k1, k2, k3, k5, newId, mN, hC, hN, hq⟩ := c
  exact ⟨nm, q, N, bs, hdct, sn, sub, ab, col, dd, k0, k1, k2, k3, k5, newId, mN, hk _ _ hC, hN.keeps hk, hq⟩

section
variable {prog : Program} {w : World} {A : Around} {E : Value → Shared → Prop} {s : Shared} {C C' e : Addr} {bm bm' : List Value} {oe : Obj}

theorem matches_cls {Q : Bool → Shared → Prop} (c : ClsAt s.heap C bm) (c' : ClsAt s.heap C' bm') (he : s.heap.get? e = some oe) (hcls : oe.cls = .ref C) (hb : bm'.contains (.type "BaseException") = true) (hc : (Value.ref C :: bm).contains (.ref C') = true)
    (hq : Q true s) : wpAny (model prog w) A (excMatches (.ref e) (.ref C')) Q E s := by
  obtain ⟨nm, q, N, bs, hdct, sn, sub, ab, col, dd, k0, k1, k2, k3, k5, newId, mN, hC, _, _⟩ := c
  obtain ⟨nm', q', N', bs', hdct', sn', sub', ab', col', dd', k0', k1', k2', k3', k5', newId', mN', hC', _, _⟩ := c'
  obtain ⟨h, g, d, t, os⟩ := s
  have hcB : (Value.ref C' :: bm').contains (.type "BaseException") = true := by rw [List.contains_cons, hb, Bool.or_true]
  have f := tc_notTuple
  unfold excMatches
  repeat (first | (with_reducible refine wpAny_loadPart_at he ?_; rw [hcls]) | with_reducible refine wpAny_loadPart_at hC' ?_ | (with_reducible refine wpAny_isSubtype_exc hC' ?_; rw [hcB]) | (with_reducible refine wpAny_isSubtype_exc hC ?_; rw [hc]) | wp_step)
  exact hq
end

section
variable {prog : Program} {w : World} {A : Around} {E : Value → Shared → Prop} {h : Heap} {g : Array GenState} {d : Drawn} {t : Nat} {os : OsState} {C S e : Addr} {oe : Obj}

theorem lookup_cls {M : Model} {n : Str} {y : Option Value} {Q : Option Value → Shared → Prop} (c : ClsAt h C (.ref S :: vbm)) (cs : ClsAt h S vbm) (hn : n ∈ hush) (hB : typeLookup (.type "ValueError") n = pure y) (hq : Q y ⟨h, g, d, t, os⟩) :
    wpAny M A (typeLookup (.ref C) n) Q E ⟨h, g, d, t, os⟩ := by
  obtain ⟨nm, q, N, bs, hdct, sn, sub, ab, col, dd, k0, k1, k2, k3, k5, newId, mN, hC, hN, hm⟩ := c
  obtain ⟨nm', q', N', bs', hdct', sn', sub', ab', col', dd', k0', k1', k2', k3', k5', newId', mN', hC', hN', hm'⟩ := cs
  have hrest : lookupAlong vbm n = pure y := by rw [typeLookup_eq, show mroOf (.type "ValueError") = pure vbm from by kernel_rfl] at hB; exact hB
  rw [typeLookup_eq]
  refine wpAny_bind (wpAny_mroOf_exc hC ?_)
  rw [lookupAlong_cons]
  refine wpAny_bind (wpAny_classOwn_exc hC hN ?_)
  rw [hm n hn]
  show wpAny M A (lookupAlong (.ref S :: vbm) n) Q E _
  rw [lookupAlong_cons]
  refine wpAny_bind (wpAny_classOwn_exc hC' hN' ?_)
  rw [hm' n hn]
  show wpAny M A (lookupAlong vbm n) Q E _
  rw [hrest]
  exact wpAny_pure hq

theorem lk_value_class : typeLookup (.type "ValueError") "__class__" = pure (some (.builtin "object.__class__")) := by rw [typeLookup_type, builtinLookup_eq_fast]; kernel_rfl
theorem lk_value_ga : typeLookup (.type "ValueError") "__getattribute__" = pure (some (.builtin "BaseException.__getattribute__")) := by rw [typeLookup_type, builtinLookup_eq_fast]; kernel_rfl
theorem lk_value_gn : typeLookup (.type "ValueError") "__getattr__" = pure none := by rw [typeLookup_type, builtinLookup_eq_fast]; kernel_rfl

theorem class_get {R : Result → Shared → Prop} (c : ClsAt h C (.ref S :: vbm)) (hx : h.get? e = some oe) (hc : oe.cls = .ref C) (hq : R (.ok (.ret (.ref C))) ⟨h, g, d, t, os⟩) :
    codeAny (model prog w) A (.call (.builtin "getset_descriptor.__get__") ⟨[.builtin "object.__class__", .ref e, .ref C], []⟩) R ⟨h, g, d, t, os⟩ := by
  obtain ⟨nm, q, N, bs, hdct, sn, sub, ab, col, dd, k0, k1, k2, k3, k5, newId, mN, hC, hN, hm⟩ := c
  have hT5 : (⟨h, g, d, t, os⟩ : Shared).TypeIs (.builtin "object.__class__") "getset_descriptor" := F.typeOf_object_class
  have hcB : (Value.ref C :: .ref S :: vbm).contains (.type (".".intercalate ("object.__class__".cutAt '.').dropLast)) = true := by rw [F.owner_object_class]; simp [vbm]
  refine codeAny_call_builtin F.slot_gs_get.plain F.entry_gs_get (F.slot_gs_get.check _ _ _ _ _ _ _ _ hT5 (F.args_gs_get _ _ _) ?_)
  repeat (any_goals (first | assumption | (with_reducible refine wpAny_loadPart_at hx ?_; rw [hc]) | (with_reducible refine wpAny_isSubtype_exc hC ?_; rw [hcB]) | wp_step))
  refine ⟨Code.quiet_builtin _ (by decide +kernel), codeAny_builtin F.entry_object_class ?_⟩
  repeat (any_goals (first | assumption | (with_reducible refine wpAny_loadPart_at hx ?_; rw [hc]) | wp_step))

theorem class_entry {tk : Tok} {Q : Fin → Shared → Prop} (c : ClsAt h C (.ref S :: vbm)) (cs : ClsAt h S vbm) (hx : h.get? e = some oe) (hc : oe.cls = .ref C) (hq : Q (.done (.ret (.ref C))) ⟨h, g, d, t, os⟩) :
    wpAny (model prog w) A (Builtin.«object.__getattribute__» ⟨[.ref e, .str "__class__" tk], []⟩) Q E ⟨h, g, d, t, os⟩ := by
  have hT5 : (⟨h, g, d, t, os⟩ : Shared).TypeIs (.builtin "object.__class__") "getset_descriptor" := F.typeOf_object_class
  have f5 := F.typeOf_object_class
  have f6 := F.slot_gs_get.lookup
  have f7 := F.slot_gs_set.lookup
  have hm : ("__class__" : Str) ∈ hush := .tail _ (.tail _ (.head _))
  repeat (any_goals (first | assumption | (with_reducible refine wpAny_loadPart_at hx ?_; rw [hc]) | with_reducible refine lookup_cls c cs hm lk_value_class ?_ | wp_step))
  refine class_get c hx hc ?_
  repeat (any_goals (first | assumption | wp_step))

theorem check_ga {M : Model} {v : Value} {Q : Unit → Shared → Prop} (c : ClsAt h C (.ref S :: vbm)) (hx : h.get? e = some oe) (hc : oe.cls = .ref C) (hq : Q () ⟨h, g, d, t, os⟩) :
    wpAny M A (checkBuiltinCall "BaseException.__getattribute__" ⟨[.ref e, v], []⟩) Q E ⟨h, g, d, t, os⟩ := by
  have hk : builtinKind "BaseException.__getattribute__" = some .slot := by decide +kernel
  have hsplit : splitId "BaseException.__getattribute__" = some ("BaseException", "__getattribute__") := by decide +kernel
  have hcB : (Value.ref C :: .ref S :: vbm).contains (.type "BaseException") = true := by simp [vbm]
  have ha := F.args_bexc_ga (.ref e) v
  obtain ⟨nm, q, N, bs, hdct, sn, sub, ab, col, dd, k0, k1, k2, k3, k5, newId, mN, hC, hN, hm⟩ := c
  simp only [checkBuiltinCall, hk, hsplit]
  refine wpAny_bind ?_
  unfold isInstance
  repeat (first | (with_reducible refine wpAny_loadPart_at hx ?_; rw [hc]) | (with_reducible refine wpAny_isSubtype_exc hC ?_; rw [hcB]) | wp_step)
  exact hq

theorem class_call {tk : Tok} {R : Result → Shared → Prop} (c : ClsAt h C (.ref S :: vbm)) (cs : ClsAt h S vbm) (hx : h.get? e = some oe) (hc : oe.cls = .ref C) (hq : R (.ok (.ret (.ref C))) ⟨h, g, d, t, os⟩) :
    codeAny (model prog w) A (.call (.builtin "BaseException.__getattribute__") ⟨[.ref e, .str "__class__" tk], []⟩) R ⟨h, g, d, t, os⟩ :=
  codeAny_call_builtin F.attrBase_ValueError.ga.plain F.entry_bexc_ga (check_ga c hx hc (class_entry c cs hx hc hq))

theorem class_by {tk : Tok} {Q : Value → Shared → Prop} (c : ClsAt h C (.ref S :: vbm)) (cs : ClsAt h S vbm) (hx : h.get? e = some oe) (hc : oe.cls = .ref C) (hq : Q (.ref C) ⟨h, g, d, t, os⟩) :
    wpAny (model prog w) A (getAttrBy (.ref e) (.str "__class__" tk) false) Q E ⟨h, g, d, t, os⟩ := by
  have f3 := F.attrBase_ValueError.ga.bind (.ref e)
  have hx2 : (Value.builtin "BaseException.__getattribute__" == Value.builtin "object.__getattribute__") = false := by decide +kernel
  have hx1 : (onTheHeap (Value.ref C) && Value.builtin "BaseException.__getattribute__" == Value.builtin "object.__getattribute__") = false := by rw [hx2]; rfl
  have hm1 : ("__getattribute__" : Str) ∈ hush := .head _
  have hm2 : ("__getattr__" : Str) ∈ hush := .tail _ (.head _)
  repeat (any_goals (first | assumption | (with_reducible refine wpAny_loadPart_at hx ?_; rw [hc]) | with_reducible refine lookup_cls c cs hm1 lk_value_ga ?_ | with_reducible refine lookup_cls c cs hm2 lk_value_gn ?_ | wp_step))
  refine class_call c cs hx hc ?_
  repeat (any_goals (first | assumption | wp_step))

theorem class_attr {Q : Option Value → Shared → Prop} (c : ClsAt h C (.ref S :: vbm)) (cs : ClsAt h S vbm) (hx : h.get? e = some oe) (hc : oe.cls = .ref C) (hq : Q (some (.ref C)) ⟨h, g, d, t + 1, os⟩) :
    wpAny (model prog w) A (getAttr? (.ref e) "__class__") Q E ⟨h, g, d, t, os⟩ := by
  unfold getAttr? getAttrBy?
  repeat (any_goals (first | assumption | with_reducible apply class_by c cs hx hc | wp_step))

theorem isinst_self {dep : Int} {tk : Tok} {Q : Fin → Shared → Prop} (hx : h.get? e = some oe) (hc : oe.cls = .ref C) (hq : Q (.done (.ret (.bool true))) ⟨h, g, d, t, os⟩) :
    wpAny (model prog w) A (Builtin.«isinstance.nested» ⟨[.ref e, .ref C, .int dep tk], []⟩) Q E ⟨h, g, d, t, os⟩ := by
  repeat (any_goals (first | assumption | (with_reducible refine wpAny_loadPart_at hx ?_; rw [hc]) | wp_step))

theorem isinst_other {C' : Addr} {bm' : List Value} {dep : Int} {tk : Tok} {Q : Fin → Shared → Prop} (c : ClsAt h C (.ref S :: vbm)) (cs : ClsAt h S vbm) (c' : ClsAt h C' bm') (h1 : C ≠ C') (h2 : S ≠ C') (hx : h.get? e = some oe) (hc : oe.cls = .ref C) (hq : Q (.done (.ret (.bool false))) ⟨h, g, d, t + 1, os⟩) :
    wpAny (model prog w) A (Builtin.«isinstance.nested» ⟨[.ref e, .ref C', .int dep tk], []⟩) Q E ⟨h, g, d, t, os⟩ := by
  have ca := c
  obtain ⟨nm, q, N, bs, hdct, sn, sub, ab, col, dd, k0, k1, k2, k3, k5, newId, mN, hC, hN, hm⟩ := c
  obtain ⟨nm', q', N', bs', hdct', sn', sub', ab', col', dd', k0', k1', k2', k3', k5', newId', mN', hC', hN', hm'⟩ := c'
  have hne : (Value.ref C == Value.ref C') = false := by simp [h1]
  have hcc : (Value.ref C :: .ref S :: vbm).contains (.ref C') = false := by simp [vbm, Ne.symm h1, Ne.symm h2]
  repeat (any_goals (first | assumption | (with_reducible refine wpAny_loadPart_at hx ?_; rw [hc]) | with_reducible refine wpAny_loadPart_at hC' ?_ | with_reducible refine wpAny_loadPart_at hC ?_ | (with_reducible refine wpAny_isSubtype_exc hC ?_; rw [hcc]) | with_reducible apply class_attr ca cs hx hc | wp_step))

theorem isinst_value {dep : Int} {tk : Tok} {Q : Fin → Shared → Prop} (c : ClsAt h C (.ref S :: vbm)) (hx : h.get? e = some oe) (hc : oe.cls = .ref C) (hq : Q (.done (.ret (.bool true))) ⟨h, g, d, t, os⟩) :
    wpAny (model prog w) A (Builtin.«isinstance.nested» ⟨[.ref e, .type "ValueError", .int dep tk], []⟩) Q E ⟨h, g, d, t, os⟩ := by
  obtain ⟨nm, q, N, bs, hdct, sn, sub, ab, col, dd, k0, k1, k2, k3, k5, newId, mN, hC, hN, hm⟩ := c
  have hty : typeOf (.type "ValueError") = pure (.type "type") := by kernel_rfl
  have hne : (Value.ref C == Value.type "ValueError") = false := by simp
  have hcc : (Value.ref C :: .ref S :: vbm).contains (.type "ValueError") = true := by simp [vbm]
  repeat (any_goals (first | assumption | (with_reducible refine wpAny_loadPart_at hx ?_; rw [hc]) | (with_reducible refine wpAny_isSubtype_exc hC ?_; rw [hcc]) | wp_step))
end
end Mine

open PySem
namespace Mine
section
variable {prog : Program} {w : World} {base : Heap} {φ φ' : List Addr} {H H' : Hp} {A : Around} {sc : Scope} {Γ : List Str} {env : Env} {m : Loc}

/-- a value of any kind is stored; EnvR says nothing of it -/
theorem store_any {M : Model} {E : Value → Shared → Prop} {s : Shared} {Q : Unit → Shared → Prop} {x : Str} {i : Nat} {v : Value} (W : EnvR base φ sc env Γ m s.heap) (R : Rel base φ H s.heap) (hk : env.kindOf x = some .local) (hi : slot Γ x = some i) (h0 : m[i]? = some none)
    (h : ∀ s', Step (own env) φ φ s s' → (∀ b o, b ≠ env.locals → s.heap.get? b = some o → s'.heap.get? b = some o) → Rel base φ H s'.heap → EnvR base φ sc env Γ m s'.heap → Stands env s'.heap x v → Q () s') : wpAny M A (storeName env x v) Q E s := by
  obtain ⟨mm, hn, hm⟩ := W.ns
  refine wpAny_storeName_local hk hn (fun h' hn' hs => ?_) (by rw [W.kind]; rfl)
  have hL := R.ns_not hn
  have nt := ns_not_tup hn
  have kp : ∀ b o, b ≠ env.locals → s.heap.get? b = some o → h'.get? b = some o := hs.extBut
  refine h _ (Step.but (List.mem_cons_self ..) (by obtain ⟨o, _, _, ho, _⟩ := hn'; rw [ho]; rfl) kp) kp (R.but hL W.fresh kp nt) ?_ ⟨_, hn', by simp⟩
  have cell : ∀ {c : Addr} {v : Option Value}, s.heap.IsCell c v → h'.IsCell c v := fun {c v} hc => by
    obtain ⟨o, ho, hd⟩ := hc
    refine ⟨o, kp c o (fun q => ?_) ho, hd⟩
    obtain ⟨o', es, ep, ho', hd', _⟩ := hn
    rw [← q, ho] at ho'; cases ho'; rw [hd] at hd'; cases hd'
  refine ⟨W.kind, W.glob, W.blt, W.len, W.kinds, W.fresh, ⟨_, hn', fun y j u h1 h2 h3 => ?_⟩, fun p e => ?_, fun y j u h1 h2 h3 => ?_, W.inj, W.has⟩
  · have hy : y ≠ x := fun z => by
      rw [z, hi] at h1; cases h1; rw [h0] at h2; cases h2
    obtain ⟨u', e', r⟩ := hm y j u h1 h2 h3
    exact ⟨u', by simp [hy, e'], r.but kp nt⟩
  · obtain ⟨h1, v, hv⟩ := W.cellat p e
    exact ⟨h1, v, cell hv⟩
  · obtain ⟨c, w', e', hc, r⟩ := W.cellv y j u h1 h2 h3
    exact ⟨c, w', e', cell hc, r.but kp nt⟩

variable {D : Tabs} {T : Nat → Option Fn} {mg mb : Str → Option Value}
theorem name_told {M : Model} {E : Value → Shared → Prop} {s : Shared} {Q : Value → Shared → Prop} {x : Str} {p : Pos} {v : Value} (W : EnvR base φ sc env Γ m s.heap) (hk : env.kindOf x = some .local) (hd : (x == ("__debug__" : Str)) = false) (t : Stands env s.heap x v) (h : Q v s) :
    wpAny M A (eval (.Name x p) env) Q E s := by
  obtain ⟨mm, hn, hx⟩ := t
  exact wpAny_Name (wpAny_loadName_local W.kind hk hn hx h) hd

/-- isinstance(e, C) -/
theorem isi_eval {E : Value → Shared → Prop} {s : Shared} {Q : Value → Shared → Prop} {x cn : Str} {p p1 p2 pos : Pos} {v c : Value} (G : Ground base D T mg mb) (R : Rel base φ H s.heap) (W : EnvR base φ sc env Γ m s.heap) (hi : isGlob sc "isinstance" = true)
    (hk : env.kindOf x = some .local) (hd : (x == ("__debug__" : Str)) = false) (t : Stands env s.heap x v) (hc : wpAny (model prog w) A (eval (.Name cn p2) env) (fun y s' => y = c ∧ s' = s) E s)
    (h : wpAny (model prog w) A (call (.builtin "isinstance") [v, c]) Q E s) : wpAny (model prog w) A (eval (.Call (.Name "isinstance" p) [.Name x p1, .Name cn p2] [] pos) env) Q E s := by
  refine wpAny_Call_NameR (blt_name G R W hi (by decide) (v := .builtin "isinstance") (bt 10 rfl) ?_)
  have e1 : backTo pos (starEach [.Name x p1, .Name cn p2] env) = [(false, eval (.Name x p1) env), (false, eval (.Name cn p2) env)] := rfl
  rw [e1]
  refine PySem.Calls.callWith_builtin rfl (PySem.Calls.evalArgs_plain ?_)
  rw [← e1]
  refine wpAny_items_cons (name_told W hk hd t ?_) rfl
  exact wpAny_items_cons (wpAny_mono hc (fun y s' q => by obtain ⟨rfl, rfl⟩ := q; exact wpAny_items_nil h) fun _ _ q => q) rfl

/-- three of them in a list -/
theorem three_list {E : Value → Shared → Prop} {s : Shared} {Q : Value → Shared → Prop} {e1 e2 e3 : Expr} {pos : Pos} {b1 b2 b3 : Bool} (n1 : ∀ r, starEach (e1 :: r) env = (false, eval e1 env) :: starEach r env) (n2 : ∀ r, starEach (e2 :: r) env = (false, eval e2 env) :: starEach r env) (n3 : ∀ r, starEach (e3 :: r) env = (false, eval e3 env) :: starEach r env)
    (h : wpAny (model prog w) A (eval e1 env) (fun v1 s1 => v1 = .bool b1 ∧ wpAny (model prog w) A (eval e2 env) (fun v2 s2 => v2 = .bool b2 ∧ wpAny (model prog w) A (eval e3 env) (fun v3 s3 => v3 = .bool b3 ∧ Rel base φ H s3.heap ∧
      ∀ φ' s4, Step [] φ φ' s3 s4 → Rel base φ' (H ++ [[.bool b1, .bool b2, .bool b3]]) s4.heap → ∀ y, Rep base φ' s4.heap (.ref H.length) y → Q y s4) E s2) E s1) E s) :
    wpAny (model prog w) A (eval (.List [e1, e2, e3] pos) env) Q E s := by
  refine wpAny_List ?_
  refine wpAny_items_cons (wpAny_mono h (fun v1 s1 q => ?_) fun _ _ q => q) (n1 _)
  obtain ⟨rfl, q⟩ := q
  refine wpAny_items_cons (wpAny_mono q (fun v2 s2 q => ?_) fun _ _ q => q) (n2 _)
  obtain ⟨rfl, q⟩ := q
  refine wpAny_items_cons (wpAny_mono q (fun v3 s3 q => wpAny_items_nil ?_) fun _ _ q => q) (n3 _)
  obtain ⟨rfl, R, K⟩ := q
  refine ⟨by simp [sizeLine], ?_⟩
  exact Cont.pushList (xs := [.bool b1, .bool b2, .bool b3]) (P := fun v H' => v = .ref H.length ∧ H' = H ++ [[.bool b1, .bool b2, .bool b3]]) (fun v y φ' H' s' hp st R' r => by obtain ⟨rfl, rfl⟩ := hp; exact K φ' s' st R' y r) R ⟨_, _, rfl, rfl, _, _, rfl, rfl, _, _, rfl, rfl, rfl⟩ (by simp [room]) ⟨rfl, rfl⟩
end
end Mine

open PySem
namespace Mine
section
variable {prog : Program} {w : World} {base : Heap} {φ φ' : List Addr} {H H' : Hp} {A : Around} {sc : Scope} {Γ : List Str} {env : Env} {m : Loc} {D : Tabs} {T : Nat → Option Fn} {mg mb : Str → Option Value}

theorem join_ok {x : Str} (hx : x.length ≤ 1000) : JoinOk "" [x] = true := by
  have e : (([x] : List Str).toArray.foldl (· + ·.length + ("" : Str).length) 0) = x.length := by
    show 0 + x.length + 0 = x.length
    lia
  unfold JoinOk Builtin.Str.tooLong
  show (!decide ((([x] : List Str).toArray.foldl (· + ·.length + ("" : Str).length) 0) > sizeLine)) = true
  rw [e, decide_eq_false (by simp only [sizeLine]; lia)]
  rfl
theorem join_one (x : Str) : Txt.join "" [x] = x := rfl
theorem mul_ok : MulOk "none" 0 := ⟨by decide, fun h => absurd (by decide) h, fun h => absurd (by decide) h⟩
theorem add_nil (x : Str) : x ++ Str.empty = x := by
  cases x with
  | mk c => show Str.mk (c ++ #[]) = _; rw [Array.append_empty]

set_option maxRecDepth 100000 in
/-- ''.join(words) + 'none' * int(not isinstance(e, ValueError)) -/
theorem last_expr {E : Value → Shared → Prop} {s : Shared} {Q : Value → Shared → Prop} {wn : Str} {k1 k2 : Nat} {p1 p2 pa pw pc pi pn pci pm pb : Pos} {isi : Expr} {a : Addr} {l : List (Str × Tok)} {x : Str}
    (G : Ground base D T mg mb) (R : Rel base φ H s.heap) (W : EnvR base φ sc env Γ m s.heap) (hi : isGlob sc "int" = true) (hline : (pa.endLine == pc.line) = true)
    (h1 : ∀ k, wpAny (model prog w) A (eval (.Name wn pw) env) (fun v s₁ => v = .ref a ∧ s₁ = { s with toks := k }) E { s with toks := k }) (hl : s.heap.IsList a (strValues l).toArray) (ht : l.map (·.1) = [x]) (hx : x.length ≤ 1000)
    (h2 : ∀ k, wpAny (model prog w) A (eval isi env) (fun v s₂ => v = .bool true ∧ ∃ k', s₂ = { s with toks := k' }) E { s with toks := k })
    (h : ∀ t k, Q (.str x t) { s with toks := k }) :
    wpAny (model prog w) A (eval (.BinOp (.Call (.Attribute (.Constant (.str "") k1 p1) "join" pa) [.Name wn pw] [] pc) .Add (.BinOp (.Constant (.str "none") k2 p2) .Mult (.Call (.Name "int" pi) [.UnaryOp .Not isi pn] [] pci) pm) pb) env) Q E s := by
  refine wpAny_BinOp ?_
  refine Call_method1 ?_ ?_ hline ?_
  · rfl
  · rfl
  refine wpAny_Constant_str (SB.join (wpAny_mono (h1 _) (fun v s₁ q => ?_) fun _ _ q => q))
  obtain ⟨rfl, rfl⟩ := q
  refine ⟨a, l, rfl, hl, [x], ht, ?_, fun t k => ?_⟩
  · exact join_ok hx
  refine wpAny_BinOp (wpAny_Constant_str ?_)
  refine wpAny_Call_NameR (blt_name G (s := { s with toks := k + 1 }) R W hi (by decide) (v := .type "int") (bt 11 rfl) ?_)
  have e1 : backTo pci (starEach [.UnaryOp .Not isi pn] env) = [(false, eval (.UnaryOp .Not isi pn) env)] := rfl
  rw [e1]
  refine callWith_type rfl (PySem.Calls.evalArgs_plain ?_)
  rw [← e1]
  refine wpAny_items_cons (wpAny_UnaryOp (wpAny_mono (h2 _) (fun v s₂ q => ?_) fun _ _ q => q)) rfl
  obtain ⟨rfl, k', rfl⟩ := q
  refine not_value (truth_sound (base := base) (φ := φ) (v := .bool true) (b := true) rfl rfl ?_)
  refine wpAny_items_nil (call_int_bool ?_)
  refine SB.mul ?_ fun t' k'' => ?_
  · exact mul_ok
  rw [join_one]
  refine SB.add (y := Str.empty) (fun t2 k2 => ?_) (by show x.length + 0 ≤ sizeLine; simp only [sizeLine]; lia)
  rw [add_nil]
  exact h t2 k2
end
end Mine

open PySem
namespace Mine

/-! ## the forms of a few statements -/
noncomputable def selS {α : Type} (st : Stmt) (r : Option Expr → Option α) (a : List Expr → Expr → Option α) (x : Expr → Option α) (t : List Stmt → List ExceptHandler → List Stmt → List Stmt → Option α) : Option α := match st with
  | .Return e _ => r e
  | .Assign ts v _ => a ts v
  | .Expr e _ => x e
  | .Try b h o f _ => t b h o f
  | _ => none
inductive SelS {α : Type} (st : Stmt) (r : Option Expr → Option α) (a : List Expr → Expr → Option α) (x : Expr → Option α) (t : List Stmt → List ExceptHandler → List Stmt → List Stmt → Option α) (y : α) : Prop where
  | r (e : Option Expr) (p : Pos) (e1 : st = .Return e p) (h : r e = some y)
  | a (ts : List Expr) (v : Expr) (p : Pos) (e1 : st = .Assign ts v p) (h : a ts v = some y)
  | x (e : Expr) (p : Pos) (e1 : st = .Expr e p) (h : x e = some y)
  | t (b : List Stmt) (hs : List ExceptHandler) (o f : List Stmt) (p : Pos) (e1 : st = .Try b hs o f p) (h : t b hs o f = some y)
theorem selS_some {α : Type} {st : Stmt} {r : Option Expr → Option α} {a : List Expr → Expr → Option α} {x : Expr → Option α} {t : List Stmt → List ExceptHandler → List Stmt → List Stmt → Option α} {y : α} (h : selS st r a x t = some y) : SelS st r a x t y := by
  cases st with
  | Return e p => exact .r e p rfl h
  | Assign ts v p => exact .a ts v p rfl h
  | Expr e p => exact .x e p rfl h
  | Try b hs o f p => exact .t b hs o f p rfl h
  | _ => exact Zj h
noncomputable def retOf (st : Stmt) : Option Expr := selS st id (fun _ _ => none) (fun _ => none) (fun _ _ _ _ => none)
theorem retOf_eq {st : Stmt} {e : Expr} (h : retOf st = some e) : ∃ p, st = .Return (some e) p:= by
  cases selS_some h with
  | r e' p e1 h => exact ⟨p, by rw [e1, show e' = some e from h]⟩
  | _ => exact Zj (by assumption)
noncomputable def asgOf (st : Stmt) : Option (Str × Expr) := selS st (fun _ => none) (fun ts v => (one? ts).bind fun t => (nameOf t).bind fun x => some (x, v)) (fun _ => none) (fun _ _ _ _ => none)
theorem asgOf_eq {st : Stmt} {x : Str} {v : Expr} (h : asgOf st = some (x, v)) : Ex2 fun p q => st = .Assign [.Name x p] v q:= by
  cases selS_some h with
  | a ts v' q e1 h =>
    obtain ⟨t, h1, h⟩ := Zk h
    obtain ⟨y, h2, h⟩ := Zk h
    obtain ⟨p, e2⟩ := nameOf_eq h2
    cases h
    exact ⟨p, q, by rw [e1, one_eq h1, e2]⟩
  | _ => exact Zj (by assumption)
noncomputable def exprOf (st : Stmt) : Option Expr := selS st (fun _ => none) (fun _ _ => none) some (fun _ _ _ _ => none)
theorem exprOf_eq {st : Stmt} {e : Expr} (h : exprOf st = some e) : ∃ p, st = .Expr e p:= by
  cases selS_some h with
  | x e' p e1 h => cases h; exact ⟨p, e1⟩
  | _ => exact Zj (by assumption)
noncomputable def tryOf (st : Stmt) : Option (List Stmt × ExceptHandler) := selS st (fun _ => none) (fun _ _ => none) (fun _ => none) fun b h o f => if o.isEmpty && f.isEmpty then (one? h).bind fun h => some (b, h) else none
theorem nil_of {α : Type} {l : List α} (h : l.isEmpty = true) : l = [] := by cases l with
  | nil => rfl
  | cons _ _ => cases h
theorem tryOf_eq {st : Stmt} {b : List Stmt} {hd : ExceptHandler} (h : tryOf st = some (b, hd)) : ∃ p, st = .Try b [hd] [] [] p:= by
  cases selS_some h with
  | t b' hs o f p e1 h =>
    obtain ⟨h1, h⟩ := if_some h
    obtain ⟨y, h2, h⟩ := Zk h
    obtain ⟨g1, g2⟩ := Bool.and_eq_true_iff.mp h1
    cases h
    exact ⟨p, by rw [e1, nil_of g1, nil_of g2, one_eq h2]⟩
  | _ => exact Zj (by assumption)
noncomputable def handOf : ExceptHandler → Option (Str × Str × List Stmt)
  | .ExceptHandler t n b _ => opt2 (t.bind nameOf) n fun c n => some (c, n, b)
theorem handOf_eq {hd : ExceptHandler} {c n : Str} {b : List Stmt} (h : handOf hd = some (c, n, b)) : Ex2 fun p q => hd = .ExceptHandler (some (.Name c p)) (some n) b q:= by
  cases hd with
  | ExceptHandler t n' b' q =>
    obtain ⟨c', n'', h1, h2, h⟩ := opt2_some (show opt2 (t.bind nameOf) n' (fun c n => some (c, n, b')) = some (c, n, b) from h)
    cases h
    obtain ⟨t', rfl, h1⟩ := Zk h1
    obtain ⟨p, rfl⟩ := nameOf_eq h1
    exact ⟨p, q, by rw [h2]⟩
noncomputable def selE {α : Type} (e : Expr) (c : Const → Option α) (l : List Expr → Option α) (b : Expr → Operator → Expr → Option α) (u : PySem.UnaryOp → Expr → Option α) (o : PySem.BoolOp → List Expr → Option α) (m : Expr → List CmpOp → List Expr → Option α) (g : Expr → List Comprehension → Scope → Option α) : Option α := match e with
  | .Constant k _ _ => c k
  | .List es _ => l es
  | .BinOp x op y _ => b x op y
  | .UnaryOp op x _ => u op x
  | .BoolOp op es _ => o op es
  | .Compare x ops es _ => m x ops es
  | .ListComp x gs sc _ => g x gs sc
  | _ => none
inductive SelE {α : Type} (e : Expr) (c : Const → Option α) (l : List Expr → Option α) (b : Expr → Operator → Expr → Option α) (u : PySem.UnaryOp → Expr → Option α) (o : PySem.BoolOp → List Expr → Option α) (m : Expr → List CmpOp → List Expr → Option α) (g : Expr → List Comprehension → Scope → Option α) (y : α) : Prop where
  | c (k : Const) (n : Nat) (p : Pos) (e1 : e = .Constant k n p) (h : c k = some y)
  | l (es : List Expr) (p : Pos) (e1 : e = .List es p) (h : l es = some y)
  | b (x : Expr) (op : Operator) (z : Expr) (p : Pos) (e1 : e = .BinOp x op z p) (h : b x op z = some y)
  | u (op : PySem.UnaryOp) (x : Expr) (p : Pos) (e1 : e = .UnaryOp op x p) (h : u op x = some y)
  | o (op : PySem.BoolOp) (es : List Expr) (p : Pos) (e1 : e = .BoolOp op es p) (h : o op es = some y)
  | m (x : Expr) (ops : List CmpOp) (es : List Expr) (p : Pos) (e1 : e = .Compare x ops es p) (h : m x ops es = some y)
  | g (x : Expr) (gs : List Comprehension) (sc : Scope) (p : Pos) (e1 : e = .ListComp x gs sc p) (h : g x gs sc = some y)
theorem selE_some {α : Type} {e : Expr} {c : Const → Option α} {l : List Expr → Option α} {b : Expr → Operator → Expr → Option α} {u : PySem.UnaryOp → Expr → Option α} {o : PySem.BoolOp → List Expr → Option α} {m : Expr → List CmpOp → List Expr → Option α} {g : Expr → List Comprehension → Scope → Option α} {y : α} (h : selE e c l b u o m g = some y) : SelE e c l b u o m g y := by
  cases e with
  | Constant k n p => exact .c k n p rfl h
  | List es p => exact .l es p rfl h
  | BinOp x op z p => exact .b x op z p rfl h
  | UnaryOp op x p => exact .u op x p rfl h
  | BoolOp op es p => exact .o op es p rfl h
  | Compare x ops es p => exact .m x ops es p rfl h
  | ListComp x gs sc p => exact .g x gs sc p rfl h
  | _ => exact Zj h
noncomputable def strOf (e : Expr) : Option Str := selE e (fun k => match k with | .str s => some s | _ => none) (fun _ => none) (fun _ _ _ => none) (fun _ _ => none) (fun _ _ => none) (fun _ _ _ => none) (fun _ _ _ => none)
theorem strOf_eq {e : Expr} {x : Str} (h : strOf e = some x) : Ex2 fun k p => e = .Constant (.str x) k p:= by
  cases selE_some h with
  | c k n p e1 h => cases k with
    | str s => cases h; exact ⟨n, p, e1⟩
    | _ => exact Zj h
  | _ => exact Zj (by assumption)
noncomputable def listOf (e : Expr) : Option (List Expr) := selE e (fun _ => none) some (fun _ _ _ => none) (fun _ _ => none) (fun _ _ => none) (fun _ _ _ => none) (fun _ _ _ => none)
theorem listOf_eq {e : Expr} {es : List Expr} (h : listOf e = some es) : ∃ p, e = .List es p:= by
  cases selE_some h with
  | l es' p e1 h => cases h; exact ⟨p, e1⟩
  | _ => exact Zj (by assumption)
noncomputable def binOf (o : Operator) (e : Expr) : Option (Expr × Expr) := selE e (fun _ => none) (fun _ => none) (fun x op y => if op == o then some (x, y) else none) (fun _ _ => none) (fun _ _ => none) (fun _ _ _ => none) (fun _ _ _ => none)
theorem binOf_eq {o : Operator} {e x y : Expr} (h : binOf o e = some (x, y)) : ∃ p, e = .BinOp x o y p:= by
  cases selE_some h with
  | b x' op y' p e1 h =>
    obtain ⟨h1, h⟩ := if_some h
    cases h
    exact ⟨p, beq_iff_eq.mp h1 ▸ e1⟩
  | _ => exact Zj (by assumption)
noncomputable def notOf (e : Expr) : Option Expr := selE e (fun _ => none) (fun _ => none) (fun _ _ _ => none) (fun op x => if op == .Not then some x else none) (fun _ _ => none) (fun _ _ _ => none) (fun _ _ _ => none)
theorem notOf_eq {e x : Expr} (h : notOf e = some x) : ∃ p, e = .UnaryOp .Not x p:= by
  cases selE_some h with
  | u op x' p e1 h =>
    obtain ⟨h1, h⟩ := if_some h
    cases h
    exact ⟨p, beq_iff_eq.mp h1 ▸ e1⟩
  | _ => exact Zj (by assumption)
noncomputable def andOf (e : Expr) : Option (Expr × Expr) := selE e (fun _ => none) (fun _ => none) (fun _ _ _ => none) (fun _ _ => none) (fun op es => if op == .And then two? es else none) (fun _ _ _ => none) (fun _ _ _ => none)
theorem andOf_eq {e x y : Expr} (h : andOf e = some (x, y)) : ∃ p, e = .BoolOp .And [x, y] p:= by
  cases selE_some h with
  | o op es p e1 h =>
    obtain ⟨h1, h⟩ := if_some h
    exact ⟨p, by rw [e1, beq_iff_eq.mp h1, two_eq h]⟩
  | _ => exact Zj (by assumption)
noncomputable def eqOf (e : Expr) : Option (Expr × Expr) := selE e (fun _ => none) (fun _ => none) (fun _ _ _ => none) (fun _ _ => none) (fun _ _ => none) (fun x ops es => opt2 (one? ops) (one? es) fun o y => if o == .Eq then some (x, y) else none) (fun _ _ _ => none)
theorem eqOf_eq {e x y : Expr} (h : eqOf e = some (x, y)) : ∃ p, e = .Compare x [.Eq] [y] p:= by
  cases selE_some h with
  | m x' ops es p e1 h =>
    obtain ⟨o, y', h1, h2, h⟩ := opt2_some h
    obtain ⟨h3, h⟩ := if_some h
    cases h
    exact ⟨p, by rw [e1, one_eq h1, one_eq h2, beq_iff_eq.mp h3]⟩
  | _ => exact Zj (by assumption)
noncomputable def isLc (e : Expr) : Option Unit := selE e (fun _ => none) (fun _ => none) (fun _ _ _ => none) (fun _ _ => none) (fun _ _ => none) (fun _ _ _ => none) (fun _ _ _ => some ())
theorem isLc_eq {e : Expr} (h : isLc e = some ()) : Ex4 fun elt gens csc cp => e = .ListComp elt gens csc cp:= by
  cases selE_some h with
  | g x gs sc p e1 h => exact ⟨_, _, _, _, e1⟩
  | _ => exact Zj (by assumption)

/-- isinstance(x, c) -/
noncomputable def instOf (e : Expr) : Option (Str × Str) := (callOf e).bind fun c => (nameOf c.1).bind fun f => if f == ("isinstance" : Str) then (two? c.2.1).bind fun p => opt2 (nameOf p.1) (nameOf p.2) fun x y => some (x, y) else none
theorem instOf_eq {e : Expr} {x c : Str} (h : instOf e = some (x, c)) : Ex4 fun p p1 p2 q => e = .Call (.Name "isinstance" p) [.Name x p1, .Name c p2] [] q:= by
  obtain ⟨⟨f, args, q⟩, h1, h⟩ := Zk h
  obtain ⟨fn, h2, h⟩ := Zk h
  obtain ⟨h3, h⟩ := if_some h
  obtain ⟨⟨a, b⟩, h4, h⟩ := Zk h
  obtain ⟨x', c', h5, h6, h⟩ := opt2_some h
  cases h
  obtain ⟨p, rfl⟩ := nameOf_eq h2
  obtain ⟨p1, rfl⟩ := nameOf_eq h5
  obtain ⟨p2, rfl⟩ := nameOf_eq h6
  dsimp only at h4
  exact ⟨p, p1, p2, q, by rw [callOf_eq h1, two_eq h4, beq_iff_eq.mp h3]⟩
/-- [isinstance(x, a), isinstance(x, b), isinstance(x, c)] -/
noncomputable def three? {α : Type} : List α → Option (α × α × α)
  | [] => none
  | a :: r => (two? r).bind fun p => some (a, p.1, p.2)
theorem three_eq {α : Type} {l : List α} {a b c : α} (h : three? l = some (a, b, c)) : l = [a, b, c] := by
  cases l with
  | nil => cases h
  | cons d r =>
    obtain ⟨⟨x, y⟩, h1, h2⟩ := Zk (show ((two? r).bind fun p => some (d, p.1, p.2)) = some (a, b, c) from h)
    cases h2
    rw [two_eq h1]
noncomputable def kindsOf (e : Expr) : Option ((Str × Str) × (Str × Str) × (Str × Str)) := (listOf e).bind fun es => (three? es).bind fun t => opt3 (instOf t.1) (instOf t.2.1) (instOf t.2.2) fun a b c => some (a, b, c)
theorem kindsOf_eq {e : Expr} {x1 c1 x2 c2 x3 c3 : Str} (h : kindsOf e = some ((x1, c1), (x2, c2), (x3, c3))) : Ex4 fun e1 e2 e3 p => And4 (e = .List [e1, e2, e3] p) (instOf e1 = some (x1, c1)) (instOf e2 = some (x2, c2)) (instOf e3 = some (x3, c3)):= by
  obtain ⟨es, h1, h⟩ := Zk h
  obtain ⟨⟨a, b, c⟩, h2, h⟩ := Zk h
  obtain ⟨_, _, _, h3, h4, h5, h⟩ := opt3_some h
  cases h
  obtain ⟨p, rfl⟩ := listOf_eq h1
  exact ⟨a, b, c, p, by rw [three_eq h2], h3, h4, h5⟩
/-- ''.join(words) + 'none' * int(not isinstance(x, c)) -/
noncomputable def joinOf (e : Expr) : Option Str := (callOf e).bind fun c => (attrOf c.1).bind fun a => (one? c.2.1).bind fun g => if strOf a.1 == some ("" : Str) && (a.2.1 == ("join" : Str) && a.2.2.endLine == c.2.2.line) then nameOf g else none
noncomputable def JoinIs (e : Expr) (wn : Str) : Prop := Ex5 fun k1 p1 pa pw pc => (pa.endLine == pc.line) = true ∧ e = .Call (.Attribute (.Constant (.str "") k1 p1) "join" pa) [.Name wn pw] [] pc
theorem joinOf_eq {e : Expr} {wn : Str} (h : joinOf e = some wn) : JoinIs e wn := by
  obtain ⟨⟨fe, args, pc⟩, h2, h⟩ := Zk h
  obtain ⟨⟨o, mt, pa⟩, h3, h⟩ := Zk h
  obtain ⟨g, h4, h⟩ := Zk h
  obtain ⟨hc, h⟩ := if_some h
  obtain ⟨c1, hc⟩ := Bool.and_eq_true_iff.mp hc
  obtain ⟨c2, c3⟩ := Bool.and_eq_true_iff.mp hc
  obtain ⟨k1, p1, e1⟩ := strOf_eq (beq_iff_eq.mp c1)
  obtain ⟨pw, e2⟩ := nameOf_eq h
  exact ⟨k1, p1, pa, pw, pc, c3, by rw [callOf_eq h2, show fe = _ from attrOf_eq h3, show args = [g] from one_eq h4, e2, show o = _ from e1, show mt = _ from beq_iff_eq.mp c2]⟩
noncomputable def noneOf (e : Expr) : Option (Str × Str) := (binOf .Mult e).bind fun mr => (callOf mr.2).bind fun d => (one? d.2.1).bind fun u => (notOf u).bind fun i => if strOf mr.1 == some ("none" : Str) && nameOf d.1 == some ("int" : Str) then instOf i else none
noncomputable def NoneIs (e : Expr) (x c : Str) : Prop := Ex7 fun k2 p2 pi i pn pci pm => instOf i = some (x, c) ∧ e = .BinOp (.Constant (.str "none") k2 p2) .Mult (.Call (.Name "int" pi) [.UnaryOp .Not i pn] [] pci) pm
theorem noneOf_eq {e : Expr} {x c : Str} (h : noneOf e = some (x, c)) : NoneIs e x c := by
  obtain ⟨⟨l2, r2⟩, h5, h⟩ := Zk h
  obtain ⟨⟨f2, args2, pci⟩, h6, h⟩ := Zk h
  obtain ⟨u, h7, h⟩ := Zk h
  obtain ⟨i, h8, h⟩ := Zk h
  obtain ⟨hc, h⟩ := if_some h
  obtain ⟨c4, c5⟩ := Bool.and_eq_true_iff.mp hc
  obtain ⟨k2, p2, e1⟩ := strOf_eq (beq_iff_eq.mp c4)
  obtain ⟨pi, e2⟩ := nameOf_eq (beq_iff_eq.mp c5)
  obtain ⟨pn, e3⟩ := notOf_eq h8
  obtain ⟨pm, e4⟩ := binOf_eq h5
  exact ⟨k2, p2, pi, i, pn, pci, pm, h, by rw [e4, show l2 = _ from e1, show r2 = _ from callOf_eq h6, show f2 = _ from e2, show args2 = [u] from one_eq h7, e3]⟩
noncomputable def lastOf (e : Expr) : Option (Str × Str × Str) := (binOf .Add e).bind fun lr => opt2 (joinOf lr.1) (noneOf lr.2) fun w xc => some (w, xc)
noncomputable def LastIs (e : Expr) (wn x c : Str) : Prop := Ex3 fun l r pb => And3 (JoinIs l wn) (NoneIs r x c) (e = .BinOp l .Add r pb)
theorem lastOf_eq {e : Expr} {wn x c : Str} (h : lastOf e = some (wn, x, c)) : LastIs e wn x c := by
  obtain ⟨⟨l, r⟩, h1, h⟩ := Zk h
  obtain ⟨w', xc, h2, h3, h⟩ := opt2_some h
  cases h
  obtain ⟨pb, e1⟩ := binOf_eq h1
  exact ⟨l, r, pb, joinOf_eq h2, noneOf_eq h3, e1⟩
end Mine

open PySem
namespace Mine

section
variable {prog : Program} {w : World} {base : Heap} {φ φ' : List Addr} {H H' : Hp} {A : Around} {sc : Scope} {Γ : List Str} {env : Env} {m : Loc} {D : Tabs} {T : Nat → Option Fn} {mg mb : Str → Option Value} {C : Calls}

/-! ## the three classes and the one above them -/
structure Kinds (base : Heap) (mg : Str → Option Value) (cn : Nat → Str) (Cl : Nat → Addr) (S : Addr) : Prop where
  each : ∀ j, j < 3 → mg (cn j) = some (.ref (Cl j)) ∧ ClsAt base (Cl j) (.ref S :: vbm) ∧ S ≠ Cl j
  inj : ∀ i j, i < 3 → j < 3 → Cl i = Cl j → i = j
  top : ClsAt base S vbm

variable {cn : Nat → Str} {Cl : Nat → Addr} {S e : Addr} {oe : Obj} {x : Str} {k : Nat}

theorem isi_kind {E : Value → Shared → Prop} {s : Shared} (N : Kinds base mg cn Cl S) (G : Ground base D T mg mb) (R : Rel base φ H s.heap) (W : EnvR base φ sc env Γ m s.heap) {j : Nat} (hk3 : k < 3) (hj3 : j < 3) {c : Expr} (hc' : instOf c = some (x, cn j))
    (hi : isGlob sc "isinstance" = true) (hg : isGlob sc (cn j) = true) (hgd : (cn j == ("__debug__" : Str)) = false) (hk : env.kindOf x = some .local) (hd : (x == ("__debug__" : Str)) = false) (t : Stands env s.heap x (.ref e)) (he : base.get? e = some oe) (hc : oe.cls = .ref (Cl k)) :
    wpAny (model prog w) A (eval c env) (fun v s' => v = .bool (decide (k = j)) ∧ ∃ tk, s' = { s with toks := tk }) E s := by
  obtain ⟨p, p1, p2, pos, rfl⟩ := instOf_eq hc'
  obtain ⟨hm, hcl, hS⟩ := N.each j hj3
  obtain ⟨_, hck, _⟩ := N.each k hk3
  refine isi_eval G R W hi hk hd t (glob_name G R W hg hgd hm ⟨rfl, rfl⟩) (PyProof.Rows.call_isinstance_of ?_)
  have he := R.keep _ _ he
  have k1 := hck.keeps R.keep
  have k2 := N.top.keeps R.keep
  have k3 := hcl.keeps R.keep
  obtain ⟨h, g, d, tk, os⟩ := s
  by_cases q : k = j
  · subst q
    refine isinst_self he hc ?_
    exact ⟨by rw [decide_eq_true rfl], tk, rfl⟩
  · refine isinst_other k1 k2 k3 (fun z => q (N.inj k j hk3 hj3 z)) hS he hc ?_
    exact ⟨by rw [decide_eq_false q], tk + 1, rfl⟩

theorem inst_star {c : Expr} {y : Str × Str} (h : instOf c = some y) (r : List Expr) : starEach (c :: r) env = (false, eval c env) :: starEach r env := by
  obtain ⟨_, _, _, _, rfl⟩ := instOf_eq (show instOf c = some (y.1, y.2) from h)
  rfl

set_option tactic.hygienic true
/-- _law_kinds = [...] -/
theorem kinds_stmt {E : Value → Shared → Prop} {s : Shared} {QQ : Flow → Shared → Prop} (N : Kinds base mg cn Cl S) (G : Ground base D T mg mb) (R : Rel base φ H s.heap) (W : EnvR base φ sc env Γ m s.heap) (hk3 : k < 3) {st : Stmt} {v : Expr} {kn : Str} {i : Nat}
    (hst : asgOf st = some (kn, v)) (hv : kindsOf v = some ((x, cn 0), (x, cn 1), (x, cn 2)))
    (hi : isGlob sc "isinstance" = true) (hg : ∀ j, j < 3 → isGlob sc (cn j) = true ∧ (cn j == ("__debug__" : Str)) = false) (hk : env.kindOf x = some .local) (hd : (x == ("__debug__" : Str)) = false) (t : Stands env s.heap x (.ref e)) (he : base.get? e = some oe) (hc : oe.cls = .ref (Cl k))
    (hown : isOwn sc kn = true) (hsl : slot Γ kn = some i) (hne : x ≠ kn)
    (h : ∀ φ' s', Step (own env) φ φ' s s' → Rel base φ' (H ++ [[.bool (decide (k = 0)), .bool (decide (k = 1)), .bool (decide (k = 2))]]) s'.heap → EnvR base φ' sc env Γ (m.set i (some (.ref H.length))) s'.heap → Stands env s'.heap x (.ref e) → QQ .next s') :
    wpAny (model prog w) A (exec st env) QQ E s := by
  obtain ⟨p, q, rfl⟩ := asgOf_eq hst
  obtain ⟨e1, e2, e3, pl, rfl, h1, h2, h3⟩ := kindsOf_eq hv
  refine wpAny_Assign_Name (three_list (base := base) (φ := φ) (H := H) (b1 := decide (k = 0)) (b2 := decide (k = 1)) (b3 := decide (k = 2)) (inst_star h1) (inst_star h2) (inst_star h3) ?_) rfl
  refine wpAny_mono (isi_kind N G R W hk3 (by decide) h1 hi (hg 0 (by decide)).1 (hg 0 (by decide)).2 hk hd t he hc) (fun v s1 q => ?_) fun _ _ q => q
  obtain ⟨rfl, tk, rfl⟩ := q
  refine ⟨rfl, wpAny_mono (isi_kind (s := { s with toks := tk }) N G R W hk3 (by decide) h2 hi (hg 1 (by decide)).1 (hg 1 (by decide)).2 hk hd t he hc) (fun v s1 q => ?_) fun _ _ q => q⟩
  obtain ⟨rfl, tk2, rfl⟩ := q
  refine ⟨rfl, wpAny_mono (isi_kind (s := { s with toks := tk2 }) N G R W hk3 (by decide) h3 hi (hg 2 (by decide)).1 (hg 2 (by decide)).2 hk hd t he hc) (fun v s1 q => ?_) fun _ _ q => q⟩
  obtain ⟨rfl, tk3, rfl⟩ := q
  refine ⟨rfl, R, fun φ' s4 st4 R' y r => ?_⟩
  have t4 := Stands.step (s := { s with toks := tk3 }) t R st4
  have W4 := EnvR.step (s := { s with toks := tk3 }) W R st4
  refine W4.storeT R' hown hsl r fun s5 a ha st5 kp R5 W5 tl => h φ' s5 ?_ R5 W5 (tl _ _ hne t4)
  exact ((up _ (Step.tok φ s tk3)).trans (up _ st4)).trans (st5.weaken fun b hb => by simp only [List.mem_singleton] at hb; subst hb; exact own_of ha)
set_option tactic.hygienic false

/-! ## the words of the kinds -/
noncomputable def words : List Str := ["row", "count", "letter"]
noncomputable def wordsX : List X := [.str "row", .str "count", .str "letter"]
noncomputable def wordsV : List V := [.str "row", .str "count", .str "letter"]
noncomputable def wordAt (k : Nat) : Str := words.getD k ""
noncomputable def bits (k : Nat) : List V := [.bool (decide (k = 0)), .bool (decide (k = 1)), .bool (decide (k = 2))]
section
variable {cond elt : V → Hp → PV → Prop} {src : List (Nat × List V)} {v y : V} {r acc : List V} {H H2 : Hp} {P : PV}
theorem comp_yes (hs : Still src H) (hc : ∀ R : PV, R (.bool true) H → cond v H R) (he : ∀ R : PV, R y H2 → elt v H R) (h : wpComp cond elt src r (acc ++ [y]) H2 P) : wpComp cond elt src (v :: r) acc H P := ⟨hs, hc _ (he _ h)⟩
theorem comp_no (hs : Still src H) (hc : ∀ R : PV, R (.bool false) H → cond v H R) (h : wpComp cond elt src r acc H P) : wpComp cond elt src (v :: r) acc H P := ⟨hs, hc _ h⟩
theorem comp_end (hs : Still src H) (h : P (.ref H.length) (H ++ [acc])) : wpComp cond elt src [] acc H P := ⟨hs, h⟩
end
theorem wp_words {C : Calls} {m : Loc} {H : Hp} {P : PV} {i kd n : Nat} (hk3 : k < 3) (hm : m[i]? = some (some (.ref kd))) (hn : m.length = n) (hkd : H[kd]? = some (bits k)) (h : P (.ref (H ++ [wordsV]).length) (H ++ [wordsV] ++ [[.str (wordAt k)]])) :
    wpE C (.comp (.bin .item (.list wordsX) (.var n)) 1 .range (.int 0) (.int 3) (.bin .item (.var i) (.var n))) m H P := by
  have hi : i < m.length := (List.getElem?_eq_some_iff.mp hm).1
  have vi : ∀ (z : Option V), (m ++ [z])[i]? = some (some (.ref kd)) := fun z => by rw [List.getElem?_append_left hi]; exact hm
  have vn : ∀ (z : Option V), (m ++ [z])[n]? = some z := fun z => by subst hn; simp
  have cond : ∀ (j : Nat) (z : Int) (b : Bool) (H' : Hp), (bits k)[j]? = some (.bool b) → z = j → H'[kd]? = some (bits k) → ∀ R : PV, R (.bool b) H' → wpE C (.bin .item (.var i) (.var n)) (m ++ [some (.int z)]) H' R := fun j z b H' hb hz e R hR => by
    have hj : j < 3 := (List.getElem?_eq_some_iff.mp hb).1
    rw [ZN, ZH, vi]
    show wpE C (.var n) _ _ _
    rw [ZH, vn]
    show optV H'[kd]? _
    rw [e]
    show optV (place z 3) fun j => optV (bits k)[j]? fun x => R x H'
    rw [show place z 3 = some j by unfold place; rw [if_pos (by lia)]; congr 1; lia]
    show optV (bits k)[j]? _
    rw [hb]
    exact hR
  have elt : ∀ (j : Nat) (z : Int) (t : Str) (H' : Hp), wordsV[j]? = some (.str t) → z = j → ∀ R : PV, R (.str t) (H' ++ [wordsV]) → wpE C (.bin .item (.list wordsX) (.var n)) (m ++ [some (.int z)]) H' R := fun j z t H' hb hz R hR => by
    have hj : j < 3 := (List.getElem?_eq_some_iff.mp hb).1
    rw [ZN, ZC]
    unfold wordsX
    simp only [wes_cons, wes_nil, ZO]
    rw [ZH, vn]
    show optV (H' ++ [wordsV])[H'.length]? _
    rw [List.getElem?_append_right (Nat.le_refl _), Nat.sub_self]
    show optV (place z 3) fun j => optV wordsV[j]? fun x => R x _
    rw [show place z 3 = some j by unfold place; rw [if_pos (by lia)]; congr 1; lia]
    show optV wordsV[j]? _
    rw [hb]
    exact hR
  have hk2 : (H ++ [wordsV])[kd]? = some (bits k) := by rw [List.getElem?_append_left (List.getElem?_eq_some_iff.mp hkd).1]; exact hkd
  rw [ZB, ZM, ZM]
  show wpComp (fun x H P => match bound 1 x with | some l => wpE C (.bin .item (.var i) (.var n)) (m ++ l) H P | none => False) (fun x H P => match bound 1 x with | some l => wpE C (.bin .item (.list wordsX) (.var n)) (m ++ l) H P | none => False) [] [.int 0, .int 1, .int 2] [] H P
  have h0 : ∀ H' : Hp, Still [] H' := fun _ p hp => by cases hp
  rcases (show k = 0 ∨ k = 1 ∨ k = 2 by lia) with rfl | rfl | rfl
  · refine comp_yes (h0 _) (cond 0 0 true H rfl rfl hkd) (elt 0 0 "row" H rfl rfl) ?_
    refine comp_no (h0 _) (cond 1 1 false _ rfl rfl hk2) ?_
    refine comp_no (h0 _) (cond 2 2 false _ rfl rfl hk2) ?_
    exact comp_end (h0 _) h
  · refine comp_no (h0 _) (cond 0 0 false H rfl rfl hkd) ?_
    refine comp_yes (h0 _) (cond 1 1 true H rfl rfl hkd) (elt 1 1 "count" H rfl rfl) ?_
    refine comp_no (h0 _) (cond 2 2 false _ rfl rfl hk2) ?_
    exact comp_end (h0 _) h
  · refine comp_no (h0 _) (cond 0 0 false H rfl rfl hkd) ?_
    refine comp_no (h0 _) (cond 1 1 false H rfl rfl hkd) ?_
    refine comp_yes (h0 _) (cond 2 2 true H rfl rfl hkd) (elt 2 2 "letter" H rfl rfl) ?_
    exact comp_end (h0 _) h
end
end Mine

open PySem
namespace Mine
section
variable {prog : Program} {w : World} {base : Heap} {φ φ' : List Addr} {H H' : Hp} {A : Around} {sc : Scope} {Γ : List Str} {env : Env} {m : Loc} {D : Tabs} {T : Nat → Option Fn} {mg mb : Str → Option Value}
variable {cn : Nat → Str} {Cl : Nat → Addr} {S e : Addr} {oe : Obj} {x : Str} {k : Nat}

noncomputable def wordsP (H : Hp) (k : Nat) : PV := fun v H' => v = .ref (H ++ [wordsV]).length ∧ H' = H ++ [wordsV] ++ [[.str (wordAt k)]]
theorem itOf_range {ix a b : X} (h1 : It.range = (itOf ix).1) (h2 : a = (itOf ix).2.1) (h3 : b = (itOf ix).2.2) : ix = .un .upto b ∨ ix = .bin .range a b := by
  unfold itOf at h1 h2 h3
  split at h1
  · exact .inl (by rw [h3])
  · exact .inr (by rw [h2, h3])
  all_goals cases h1
set_option tactic.hygienic true
/-- _law_words = [... for ... in range(3) if ...] -/
theorem words_stmt (C : Calls) {E : Value → Shared → Prop} {s : Shared} {QQ : Flow → Shared → Prop} (G : Ground base D T mg mb) (R : Rel base φ H s.heap) (W : EnvR base φ sc env Γ m s.heap) (hA : Calm A base) (hk3 : k < 3) {st : Stmt} {v : Expr} {wn : Str} {i j kd : Nat}
    (hst : asgOf st = some (wn, v)) (hlc : isLc v = some ()) (hv : cE D sc Γ v = some (.comp (.bin .item (.list wordsX) (.var Γ.length)) 1 .range (.int 0) (.int 3) (.bin .item (.var j) (.var Γ.length))))
    (hm : m[j]? = some (some (.ref kd))) (hkd : H[kd]? = some (bits k)) (t : Stands env s.heap x (.ref e))
    (hown : isOwn sc wn = true) (hsl : slot Γ wn = some i) (hne : x ≠ wn)
    (h : ∀ φ' s', Step (own env) φ φ' s s' → Rel base φ' (H ++ [wordsV] ++ [[.str (wordAt k)]]) s'.heap → EnvR base φ' sc env Γ (m.set i (some (.ref (H ++ [wordsV]).length))) s'.heap → Stands env s'.heap x (.ref e) → QQ .next s') :
    wpAny (model prog w) A (exec st env) QQ E s := by
  obtain ⟨p, pos, rfl⟩ := asgOf_eq hst
  obtain ⟨elt, gens, csc, cp, rfl⟩ := isLc_eq hlc
  obtain ⟨tg, iter, ifs, rfl, hcc⟩ := inv_comp hv
  obtain ⟨xs, q1, ⟨hok, hownc, hall⟩, ⟨a, b, ex, q2, hz, hlen, rfl, hex, _, q3⟩ | ⟨ix, cx, ex, q2, hlen, hit, h3, h4, q3⟩⟩ := cComp_cases hcc
  · cases q3
  obtain ⟨z, rfl⟩ := List.length_eq_one_iff.mp hlen
  obtain ⟨px, rfl⟩ := tgts_one q1
  have hw := wp_words (C := C) (P := wordsP H k) hk3 hm W.len hkd ⟨rfl, rfl⟩
  injection q3 with r1 r2 r3 r4 r5 r6
  subst r1 r6
  have IHi : ∀ e', Part e' iter → ∀ y, cE D sc Γ e' = some y → SE prog w base C A e' y sc Γ env := by
    rcases itOf_range r3 r4 r5 with rfl | rfl
    · obtain ⟨f, p, args, pos, as, rfl, hd, hg, has, hm'⟩ := inv_un q2 (by simp)
      obtain ⟨hf, rfl, rfl⟩ := mk_un hm' rfl
      rintro e' (rfl | ⟨f', args', pos', q, he⟩) y hy
      · rw [q2] at hy; cases hy
        exact fun m φ H s P Q E R W hw K => (show False from hw).elim
      · cases q
        exact (soundE0 G _ e' (Nat.lt_succ_self _) sc Γ env y hy (.inr (calm_all has rfl e' he y hy))).1
    · obtain ⟨f, p, args, pos, as, rfl, hd, hg, has, hm'⟩ := inv_bin q2 (.inl rfl)
      obtain ⟨hf, rfl, rfl⟩ := mk_bin hm' rfl
      rintro e' (rfl | ⟨f', args', pos', q, he⟩) y hy
      · rw [q2] at hy; cases hy
        exact fun m φ H s P Q E R W hw K => (show False from hw).elim
      · cases q
        exact (soundE0 G _ e' (Nat.lt_succ_self _) sc Γ env y hy (.inr (calm_all has rfl e' he y hy))).1
  have IHe : ∀ cenv, SE prog w base C A elt (.bin .item (.list wordsX) (.var Γ.length)) csc (z :: Γ) cenv := fun cenv => (soundE0 G _ elt (Nat.lt_succ_self _) csc (z :: Γ) cenv _ h4 (.inr rfl)).1
  have IHc : ∀ cenv, ∀ e ∈ ifs, ∀ y, cE D csc (z :: Γ) e = some y → ST prog w base C A e y csc (z :: Γ) cenv := fun cenv e' he y hy => by
    have hcalm : calm y = true := by
      cases ifs with
      | nil => cases he
      | cons e1 r => cases r with
        | nil =>
          rw [List.mem_singleton.mp he] at hy
          have h3' : cE D csc (z :: Γ) e1 = some _ := h3
          rw [hy] at h3'; cases h3'; rfl
        | cons _ _ => exact Zj h3
    exact (soundE0 G _ e' (Nat.lt_succ_self _) csc (z :: Γ) cenv y hy (.inr hcalm)).2
  have hw' : wpE C (.comp (.bin .item (.list wordsX) (.var Γ.length)) 1 (itOf ix).1 (itOf ix).2.1 (itOf ix).2.2 (.bin .item (.var j) (.var Γ.length))) m H (wordsP H k) := by
    rw [← r3, ← r4, ← r5]; exact hw
  have hsw : ∃ bb, swapsWith (.ListComp elt [⟨.Name z px, iter, ifs, 0⟩] csc cp) (some (.Name wn p)) pos.line env = pure bb := ⟨_, rfl⟩
  obtain ⟨bb, hsw⟩ := hsw
  have hhi : A.handled = none ∨ ((itOf ix).1 = .range ∧ Calm A base) := .inr ⟨r3.symm, hA⟩
  cases bb with
  | true =>
    rw [exec_Assign_Name_used _ _ _ _ hsw]
    refine wpAny_bind (wpAny_standAt ?_)
    refine wpAny_bind ?_
    show wpAny (model prog w) A (comprehension (.ListComp elt [⟨.Name z px, iter, ifs, 0⟩] csc cp) csc env iter.pos (newList []) false (eval iter env) (some (assign (.Name wn p) env)) >>= fun _ => pure ()) _ E s
    refine wpAny_bind (wpAny_mono (Q := fun _ s'' => QQ .next s'') ?_ (fun _ s'' h => wpAny_pure (wpAny_pure h)) fun _ _ h => h)
    refine comp_core G hhi q2 (okIt_ne hit) hok hownc (hall z (.head _)) h3 h4 IHi IHe IHc R W hw' (comp_someT (P := wordsP H k) hown hsl R W fun v φ' H' s' hp st R' W' tl => ?_)
    obtain ⟨rfl, rfl⟩ := hp
    exact h φ' s' st R' W' (tl _ _ hne t)
  | false =>
    refine wpAny_Assign_Name (Q := QQ) ?_ hsw
    refine comp_core G hhi q2 (okIt_ne hit) hok hownc (hall z (.head _)) h3 h4 IHi IHe IHc R W hw' (comp_none (P := wordsP H k) fun v y φ' H' s' hp st R' r => ?_)
    obtain ⟨rfl, rfl⟩ := hp
    refine (W.step R st).storeT R' hown hsl r fun s5 a ha st5 kp R5 W5 tl => h φ' s5 ?_ R5 W5 (tl _ _ hne (t.step R st))
    exact (up _ st).trans (st5.weaken fun b hb => by simp only [List.mem_singleton] at hb; subst hb; exact own_of ha)
set_option tactic.hygienic false

end
end Mine

open PySem
namespace Mine
section
variable {prog : Program} {w : World} {base : Heap} {φ φ' : List Addr} {H H' : Hp} {A : Around} {sc : Scope} {Γ : List Str} {env : Env} {m : Loc} {D : Tabs} {T : Nat → Option Fn} {mg mb : Str → Option Value}
variable {cn : Nat → Str} {Cl : Nat → Addr} {S e : Addr} {oe : Obj} {x : Str} {k : Nat}

set_option maxRecDepth 100000 in
/-- return ''.join(_law_words) + ... -/
theorem last_stmt {E : Value → Shared → Prop} {s : Shared} {QQ : Flow → Shared → Prop} (N : Kinds base mg cn Cl S) (G : Ground base D T mg mb) (R : Rel base φ H s.heap) (W : EnvR base φ sc env Γ m s.heap) (hk3 : k < 3) {st : Stmt} {v : Expr} {wn y : Str} {i kd : Nat}
    (hst : retOf st = some v) (hv : lastOf v = some (wn, x, Str.ofString "ValueError")) (hint : isGlob sc "int" = true) (hi : isGlob sc "isinstance" = true) (hve : isGlob sc "ValueError" = true) (hk : env.kindOf x = some .local) (hd : (x == ("__debug__" : Str)) = false) (t : Stands env s.heap x (.ref e)) (he : base.get? e = some oe) (hc : oe.cls = .ref (Cl k))
    (hwn : isVar sc wn = true) (hw1 : (wn == ("__debug__" : Str)) = false) (hw2 : (wn == ("__classdict__" : Str)) = false) (hsl : slot Γ wn = some i) (hm : m[i]? = some (some (.ref kd))) (hkd : H[kd]? = some [.str y]) (hy : y.length ≤ 1000)
    (h : ∀ t k, QQ (.ret (.str y t)) { s with toks := k }) : wpAny (model prog w) A (exec st env) QQ E s := by
  obtain ⟨rp, rfl⟩ := retOf_eq hst
  obtain ⟨lx, rx, pb, ⟨k1, p1, pa, pw, pc, hline, rfl⟩, ⟨k2, p2, pi, isi, pn, pci, pm, hisi, rfl⟩, rfl⟩ := lastOf_eq hv
  obtain ⟨q, q1, q2, qp, rfl⟩ := instOf_eq hisi
  refine wpAny_Return_some ?_
  have hlt : kd < φ.length := by rw [R.len]; exact (List.getElem?_eq_some_iff.mp hkd).1
  obtain ⟨a, vs, n, ea, ha, ho, hr⟩ := R.list hkd (v := .ref φ[kd]) ⟨_, rfl, List.getElem?_eq_getElem hlt⟩
  obtain ⟨y', r, rfl, ⟨ty, rfl⟩, hnil⟩ := hr
  rw [show r = [] from hnil] at ho
  obtain ⟨_, hck, _⟩ := N.each k hk3
  refine last_expr (a := a) (l := [(y, ty)]) G R W hint hline (fun tk => ?_) ⟨_, ho, rfl, n, rfl⟩ rfl hy (fun tk => ?_) h
  · refine wpAny_Name (EnvR.load (s := { s with toks := tk }) W hwn hw2 hsl hm fun u r => ?_) hw1
    obtain ⟨b, rfl, hb⟩ := r
    rw [ha] at hb; cases hb
    exact ⟨rfl, rfl⟩
  · refine isi_eval (s := { s with toks := tk }) G R W hi hk hd t (blt_name (s := { s with toks := tk }) G R W hve (by decide) (bt 17 rfl) ⟨rfl, rfl⟩) (PyProof.Rows.call_isinstance_of ?_)
    have he := R.keep _ _ he
    have k1 := hck.keeps R.keep
    obtain ⟨h, g, d, tk', os⟩ := s
    refine isinst_value k1 he hc ?_
    exact ⟨rfl, tk, rfl⟩

/-- the three statements of the handler -/
theorem suite_run (C : Calls) {E : Value → Shared → Prop} {s : Shared} {QQ : Flow → Shared → Prop} (N : Kinds base mg cn Cl S) (G : Ground base D T mg mb) (R : Rel base φ H s.heap) (W : EnvR base φ sc env Γ m s.heap) (hA : Calm A base) (hk3 : k < 3)
    {st1 st2 st3 : Stmt} {v1 v2 v3 : Expr} {kn wn : Str} {i j : Nat} (h1 : asgOf st1 = some (kn, v1)) (h1' : kindsOf v1 = some ((x, cn 0), (x, cn 1), (x, cn 2)))
    (h2 : asgOf st2 = some (wn, v2)) (h2' : isLc v2 = some ()) (h2'' : cE D sc Γ v2 = some (.comp (.bin .item (.list wordsX) (.var Γ.length)) 1 .range (.int 0) (.int 3) (.bin .item (.var j) (.var Γ.length))))
    (h3 : retOf st3 = some v3) (h3' : lastOf v3 = some (wn, x, Str.ofString "ValueError"))
    (hint : isGlob sc "int" = true) (hi : isGlob sc "isinstance" = true) (hve : isGlob sc "ValueError" = true) (hg : ∀ j, j < 3 → isGlob sc (cn j) = true ∧ (cn j == ("__debug__" : Str)) = false)
    (hk : env.kindOf x = some .local) (hd : (x == ("__debug__" : Str)) = false) (t : Stands env s.heap x (.ref e)) (he : base.get? e = some oe) (hc : oe.cls = .ref (Cl k))
    (hkn : isOwn sc kn = true) (sk : slot Γ kn = some j) (nk : x ≠ kn) (hwn : isOwn sc wn = true) (hwv : isVar sc wn = true) (sw : slot Γ wn = some i) (nw : x ≠ wn) (hw1 : (wn == ("__debug__" : Str)) = false) (hw2 : (wn == ("__classdict__" : Str)) = false)
    (h : ∀ t φ' H' m' s', H <+: H' → Step (own env) φ φ' s s' → Rel base φ' H' s'.heap → EnvR base φ' sc env Γ m' s'.heap → QQ (.ret (.str (wordAt k) t)) s') :
    wpAny (model prog w) A (execs [st1, st2, st3] env) QQ E s := by
  refine wpAny_execs_cons (kinds_stmt N G R W hk3 h1 h1' hi hg hk hd t he hc hkn sk nk fun φ1 s1 st1 R1 W1 t1 => ?_)
  have jl : j < m.length := by rw [W.len]; exact slot_lt sk
  refine wpAny_execs_cons (words_stmt C G R1 W1 hA hk3 h2 h2' h2'' (List.getElem?_set_self jl) (show (H ++ [bits k])[H.length]? = some (bits k) by simp) t1 hwn sw nw fun φ2 s2 st2 R2 W2 t2 => ?_)
  have il : i < (m.set j (some (.ref H.length))).length := by rw [List.length_set, W.len]; exact slot_lt sw
  have hwl : (wordAt k).length ≤ 1000 := by
    rcases (show k = 0 ∨ k = 1 ∨ k = 2 by lia) with rfl | rfl | rfl <;> decide
  refine wpAny_execs_cons (last_stmt N G R2 W2 hk3 h3 h3' hint hi hve hk hd t2 he hc hwv hw1 hw2 sw (List.getElem?_set_self il) (by simp) hwl fun t tk => ?_)
  refine h t φ2 _ _ _ ?_ ((st1.trans st2).trans (up _ (Step.tok φ2 s2 tk))) R2 W2
  exact ⟨_, (by rw [List.append_assoc, List.append_assoc])⟩
end
end Mine

open PySem
namespace Mine
section
variable {prog : Program} {w : World} {base : Heap} {φ φ' : List Addr} {H H' : Hp} {A : Around} {sc : Scope} {Γ : List Str} {env : Env} {m : Loc} {D : Tabs} {T : Nat → Option Fn} {mg mb : Str → Option Value}
variable {cn : Nat → Str} {Cl : Nat → Addr} {S e : Addr} {oe : Obj} {x : Str} {k : Nat} {Kd : Nat → Value} {l : List Env} {mid s' : Shared}

theorem Land.land0 {M : Model} {E : Value → Shared → Prop} {Q : Unit → Shared → Prop} {a : Addr} (L : Land base Kd l (rawInt a) k e mid s') (h : ∀ h', Land base Kd l .none k e mid { s' with heap := h' } → Q () { s' with heap := h' }) : wpAny M A (setFlight (.ref e) none) Q E s' := by
  obtain ⟨fr, B, h1, h2, h3, h4, h5, F, hl, u, hh, tk, e1⟩ := L
  exact flight (x := none) hl F fun h' F' l' u' => h h' ⟨fr, B, h1, h2, h3, h4, h5, F', l', u.trans u', h', tk, by rw [e1]⟩

/-- a step of another block -/
theorem EnvR.away {ow : List Addr} {s s' : Shared} (W : EnvR base φ sc env Γ m s.heap) (R : Rel base φ H s.heap) (st : Step ow φ φ' s s') (hd : ∀ b ∈ own env, b ∉ ow) (ht : ∀ b o, s.heap.get? b = some o → TupObj o → s'.heap.get? b = some o) : EnvR base φ' sc env Γ m s'.heap := by
  obtain ⟨mm, hn, hm⟩ := W.ns
  have hL := R.ns_not hn
  have cell : ∀ p ∈ env.cells, ∀ {v : Option Value}, s.heap.IsCell p.2 v → s'.heap.IsCell p.2 v := fun p hp {v} hc => by
    obtain ⟨o, ho, hd'⟩ := hc
    exact ⟨o, st.evo p.2 o ho (R.cell_not ⟨o, ho, hd'⟩) (hd _ (List.mem_cons_of_mem _ (List.mem_map.mpr ⟨p, hp, rfl⟩))), hd'⟩
  refine ⟨W.kind, W.glob, W.blt, W.len, W.kinds, W.fresh, ⟨mm, ?_, fun x i v h1 h2 h3 => ?_⟩, fun p e => ?_, fun x i v h1 h2 h3 => ?_, W.inj, W.has⟩
  · obtain ⟨o, es, ep, ho, r⟩ := hn
    exact ⟨o, es, ep, st.evo _ o ho hL (hd _ (List.mem_cons_self ..)), r⟩
  · obtain ⟨w, e, r⟩ := hm x i v h1 h2 h3
    exact ⟨w, e, Rep.mono st.pre ht _ _ r⟩
  · obtain ⟨h1, v, hv⟩ := W.cellat p e
    exact ⟨h1, v, cell p e hv⟩
  · obtain ⟨c, w, e, hc, r⟩ := W.cellv x i v h1 h2 h3
    exact ⟨c, w, e, cell (x, c) (mem_of_lookup e) hc, Rep.mono st.pre ht _ _ r⟩

/-- a block's own things are there -/
theorem EnvR.there {h : Heap} (W : EnvR base φ sc env Γ m h) : ∀ b ∈ own env, ∃ o, h.get? b = some o ∧ ∀ vs, o.data ≠ .fields vs:= fun b hb => by
  rcases List.mem_cons.mp hb with rfl | hb
  · obtain ⟨mm, ⟨o, es, ep, ho, hd, _⟩, _⟩ := W.ns
    exact ⟨o, ho, fun vs q => by rw [hd] at q; cases q⟩
  · obtain ⟨p, hp, rfl⟩ := List.mem_map.mp hb
    obtain ⟨_, v, o, ho, hd⟩ := W.cellat p hp
    exact ⟨o, ho, fun vs q => by rw [hd] at q; cases q⟩
theorem EnvR.new {h : Heap} (W : EnvR base φ sc env Γ m h) : ∀ b ∈ own env, base.get? b = none := fun b hb => by
  rcases List.mem_cons.mp hb with rfl | hb
  · exact W.fresh
  · obtain ⟨p, hp, rfl⟩ := List.mem_map.mp hb
    exact (W.cellat p hp).1

/-- the handler -/
theorem word_handle (C : Calls) {E : Value → Shared → Prop} {Q : Flow → Shared → Prop} (N : Kinds base mg cn Cl S) (hKd : Kd k = .ref (Cl k)) (hk3 : k < 3) (G : Ground base D T mg mb) (Rm : Rel base φ H mid.heap) (Wm : EnvR base φ sc env Γ m mid.heap) (L : Land base Kd l .none k e mid s')
    {st1 st2 st3 : Stmt} {v1 v2 v3 : Expr} {kn wn sn : Str} {i j ie : Nat} {p2 p3 : Pos} (h1 : asgOf st1 = some (kn, v1)) (h1' : kindsOf v1 = some ((x, cn 0), (x, cn 1), (x, cn 2)))
    (h2 : asgOf st2 = some (wn, v2)) (h2' : isLc v2 = some ()) (h2'' : cE D sc Γ v2 = some (.comp (.bin .item (.list wordsX) (.var Γ.length)) 1 .range (.int 0) (.int 3) (.bin .item (.var j) (.var Γ.length))))
    (h3 : retOf st3 = some v3) (h3' : lastOf v3 = some (wn, x, Str.ofString "ValueError"))
    (hint : isGlob sc "int" = true) (hi : isGlob sc "isinstance" = true) (hve : isGlob sc "ValueError" = true) (hg : ∀ j, j < 3 → isGlob sc (cn j) = true ∧ (cn j == ("__debug__" : Str)) = false)
    (hsn : mg sn = some (.ref S)) (gsn : isGlob sc sn = true) (dsn : (sn == ("__debug__" : Str)) = false)
    (hk : env.kindOf x = some .local) (hd : (x == ("__debug__" : Str)) = false) (sx : slot Γ x = some ie) (mx : m[ie]? = some none)
    (hkn : isOwn sc kn = true) (sk : slot Γ kn = some j) (nk : x ≠ kn) (hwn : isOwn sc wn = true) (hwv : isVar sc wn = true) (sw : slot Γ wn = some i) (nw : x ≠ wn) (hw1 : (wn == ("__debug__" : Str)) = false) (hw2 : (wn == ("__classdict__" : Str)) = false)
    (h : ∀ t φ' H' s'', H <+: H' → Rel base φ' H' s''.heap → (∀ sc' env' Γ' m', EnvR base φ sc' env' Γ' m' mid.heap → (∀ b ∈ own env', b ∉ own env) → EnvR base φ' sc' env' Γ' m' s''.heap) → (∃ hh tk, s'' = { mid with heap := hh, toks := tk }) → Q (.ret (.str (wordAt k) t)) s'') :
    wpAny (model prog w) A (handleBy (.ref e) env [.ExceptHandler (some (.Name sn p2)) (some x) [st1, st2, st3] p3]) Q E s' := by
  have R := L.rel Rm
  have W := L.envR Wm
  obtain ⟨_, hck, hne⟩ := N.each k hk3
  obtain ⟨oe, vs, he, hcls, hdat, hctx⟩ := L.lone
  refine wpAny_handleBy_cons (codeAny_handlers_test (glob_name (A := A.mark (some (.ref e))) G R W gsn dsn hsn ?_)) (by intro q; cases q)
  refine matches_cls (hck.keeps R.keep) (N.top.keeps R.keep) he (hcls.trans hKd) (by simp [vbm]) (by simp) ?_
  refine codeAny_handlers_suite_as (L.flight0 fun hL LL => ?_)
  have RL := LL.rel Rm
  have WL := LL.envR Wm
  obtain ⟨oe, vs, he, hcls, hdat, hctx⟩ := LL.lone
  refine store_any WL RL hk sx mx fun s3 st3' kp R3 W3 t3 => ?_
  have ene : e ∉ own env := fun q => by
    obtain ⟨o, ho, hnf⟩ := WL.there e q
    rw [he] at ho; cases ho; exact hnf vs hdat
  have he3 : s3.heap.get? e = some oe := kp e oe (fun q => ene (q ▸ List.mem_cons_self ..)) he
  obtain ⟨P, sub⟩ := plus_is (base := base) (h := s3.heap) (e := e) (oe := oe) R3.keep he3
  have hfr : ∀ a ∈ φ, (plus base s3.heap e).get? a = none := fun a ha => by
    cases q : (plus base s3.heap e).get? a with
    | none => rfl
    | some o =>
      rcases P.only a o q with z | ⟨z1, _⟩
      · rw [R3.fresh a ha] at z; cases z
      · obtain ⟨i, hi⟩ := List.getElem?_of_mem ha
        obtain ⟨us, n, ys, g1, _⟩ := R3.lists i a hi
        rw [z1, he3] at g1; cases g1; cases hdat
  have hfo : ∀ a ∈ own env, (plus base s3.heap e).get? a = none := fun a ha => by
    cases q : (plus base s3.heap e).get? a with
    | none => rfl
    | some o =>
      rcases P.only a o q with z | ⟨z1, _⟩
      · rw [W3.new a ha] at z; cases z
      · exact absurd (z1 ▸ ha) ene
  have R3' := R3.rebase P.fwd sub hfr
  have W3' := W3.rebase P.fwd hfo
  have N' : Kinds (plus base s3.heap e) mg cn Cl S := ⟨fun j hj => ⟨(N.each j hj).1, (N.each j hj).2.1.keeps P.old, (N.each j hj).2.2⟩, N.inj, N.top.keeps P.old⟩
  refine suite_run C N' (G.rebase P.old) R3' W3' (.inr ⟨e, rfl, oe, vs, P.here, hdat, hctx⟩) hk3 h1 h1' h2 h2' h2'' h3 h3' hint hi hve hg hk hd t3 P.here (hcls.trans hKd) hkn sk nk hwn hwv sw nw hw1 hw2 fun t φ4 H4 m4 s4 hp st4 R4' W4' => ?_
  have R4 : Rel base φ4 H4 s4.heap := R4'.rebase (P.bwd hdat) (fun a o q => R4'.keep a o (P.old a o q)) fun a ha => by
    cases q : base.get? a with
    | none => rfl
    | some o => have := P.old a o q; rw [R4'.fresh a ha] at this; cases this
  obtain ⟨mm, hn, _⟩ := W4'.ns
  refine wpAny_nameGoes hk hn (by rw [W4'.kind]; rfl) fun h' m' hn' hs => ?_
  have nt := ns_not_tup hn
  have hL4 := R4.ns_not hn
  have kp5 : ∀ b o, b ≠ env.locals → s4.heap.get? b = some o → h'.get? b = some o := hs.extBut
  have st5 : Step [env.locals] φ4 φ4 s4 { s4 with heap := h', toks := s4.toks + 1 } := Step.but (List.mem_cons_self ..) (by obtain ⟨o, _, _, ho, _⟩ := hn'; rw [ho]; rfl) kp5
  refine h t φ4 H4 _ hp (R4.but hL4 W3.fresh kp5 nt) (fun sc' env' Γ' m' We hdis => ?_) ?_
  · have stt := st3'.trans st4
    have We4 := (LL.envR We).away RL stt hdis (stt.tups RL WL)
    refine We4.away R4 st5 (fun b hb q => ?_) fun b o ho ht => kp5 b o (fun z => nt o (z ▸ ho) ht) ho
    rw [List.mem_singleton.mp q] at hb
    exact hdis _ hb (List.mem_cons_self ..)
  · obtain ⟨h1, t1, e1⟩ := LL.same
    obtain ⟨h3, t3, e3⟩ := st3'.same
    obtain ⟨h4, t4, e4⟩ := st4.same
    exact ⟨h', s4.toks + 1, by rw [e4, e3, e1]⟩
end
end Mine

open PySem
namespace Mine

/-! ## the word's function -/
structure WP where
  f : Str
  args : List Expr
  sn : Str
  en : Str
  kn : Str
  v1 : Expr
  wn : Str
  v2 : Expr
  v3 : Expr
noncomputable def callSt (tb : List Stmt) : Option (Str × List Expr) := (one? tb).bind fun s => (exprOf s).bind fun c => (callOf c).bind fun c => (nameOf c.1).bind fun f => some (f, c.2.1)
noncomputable def CallStIs (tb : List Stmt) (f : Str) (args : List Expr) : Prop := Ex3 fun fp cp ep => tb = [.Expr (.Call (.Name f fp) args [] cp) ep]
theorem callSt_eq {tb : List Stmt} {f : Str} {args : List Expr} (h : callSt tb = some (f, args)) : CallStIs tb f args := by
  obtain ⟨s, h3, h⟩ := Zk h
  obtain ⟨c, h4, h⟩ := Zk h
  obtain ⟨⟨fe, args, cp⟩, h5, h⟩ := Zk h
  obtain ⟨f, h6, h⟩ := Zk h
  cases h
  obtain ⟨ep, e1⟩ := exprOf_eq h4
  obtain ⟨fp, e2⟩ := nameOf_eq h6
  exact ⟨fp, cp, ep, by rw [one_eq h3, e1, callOf_eq h5, show fe = _ from e2]⟩
noncomputable def suiteOf (hb : List Stmt) : Option ((Str × Expr) × (Str × Expr) × Expr) := (three? hb).bind fun q => opt3 (asgOf q.1) (asgOf q.2.1) (retOf q.2.2) fun a b c => some (a, b, c)
noncomputable def SuiteIs (hb : List Stmt) (kn : Str) (v1 : Expr) (wn : Str) (v2 v3 : Expr) : Prop := Ex3 fun st1 st2 st3 => And4 (hb = [st1, st2, st3]) (asgOf st1 = some (kn, v1)) (asgOf st2 = some (wn, v2)) (retOf st3 = some v3)
theorem suiteOf_eq {hb : List Stmt} {kn wn : Str} {v1 v2 v3 : Expr} (h : suiteOf hb = some ((kn, v1), (wn, v2), v3)) : SuiteIs hb kn v1 wn v2 v3 := by
  obtain ⟨⟨st1, st2, st3⟩, h8, h⟩ := Zk h
  obtain ⟨_, _, _, h9, h10, h11, h⟩ := opt3_some h
  cases h
  exact ⟨st1, st2, st3, three_eq h8, h9, h10, h11⟩
noncomputable def tryPart (st : Stmt) : Option WP := (tryOf st).bind fun t => opt2 (callSt t.1) (handOf t.2) fun c h => (suiteOf h.2.2).bind fun q => some ⟨c.1, c.2, h.1, h.2.1, q.1.1, q.1.2, q.2.1.1, q.2.1.2, q.2.2⟩
noncomputable def TryIs (st : Stmt) (W : WP) : Prop := Ex5 fun tb hb p2 p3 p4 => And3 (CallStIs tb W.f W.args) (SuiteIs hb W.kn W.v1 W.wn W.v2 W.v3) (st = .Try tb [.ExceptHandler (some (.Name W.sn p2)) (some W.en) hb p3] [] [] p4)
theorem tryPart_eq {st : Stmt} {W : WP} (h : tryPart st = some W) : TryIs st W := by
  obtain ⟨⟨tb, hd⟩, h2, h⟩ := Zk h
  obtain ⟨c, ⟨sn, en, hb⟩, h3, h7, h⟩ := opt2_some h
  obtain ⟨q, h8, h⟩ := Zk h
  cases h
  obtain ⟨p2, p3, e1⟩ := handOf_eq h7
  obtain ⟨p4, e2⟩ := tryOf_eq h2
  exact ⟨tb, hb, p2, p3, p4, callSt_eq h3, suiteOf_eq h8, by rw [e2, show hd = _ from e1]⟩
noncomputable def wordOf (body : List Stmt) : Option WP := (two? body).bind fun p => if (retOf p.2).bind strOf == some ("" : Str) then tryPart p.1 else none
noncomputable def WordIs (body : List Stmt) (W : WP) : Prop := Ex4 fun st k p5 p6 => TryIs st W ∧ body = [st, .Return (some (.Constant (.str "") k p5)) p6]
theorem wordOf_eq {body : List Stmt} {W : WP} (h : wordOf body = some W) : WordIs body W := by
  obtain ⟨⟨x1, x2⟩, h1, h⟩ := Zk h
  obtain ⟨h13, h⟩ := if_some h
  obtain ⟨r, h12, h14⟩ := Zk (beq_iff_eq.mp h13)
  obtain ⟨k, p5, rfl⟩ := strOf_eq h14
  obtain ⟨p6, e1⟩ := retOf_eq h12
  exact ⟨x1, k, p5, p6, tryPart_eq h, by rw [two_eq h1, show x2 = _ from e1]⟩

/-- a function's frame is plain -/
noncomputable def frameOk (sc : Scope) (params : List Str) : Bool := okScope sc && !sc.isGenerator && !sc.isCoroutine && (ownNames sc).reverse.take params.length == params && sc.names.all (fun p => p.2 != .free) && decide (ownNames sc).Nodup
structure CodeAt (base : Heap) (a : Addr) (o : Obj) (fd : FuncData) (body : List Stmt) (params : List Str) : Prop where
  obj : base.get? a = some o
  dat : o.data = .func fd
  bod : fd.body = .stmts body
  code : base.CodeRec fd.code fd.qualname
  glob : fd.globals = mainGlobals
  clos : fd.closure = []
  blt : fd.builtins = builtinsNs
  frame : frameOk fd.scope params = true
  bind : ∀ vs : List Value, vs.length = params.length → bindArgs fd ⟨vs, []⟩ = pure (params.zip vs)

/-- what the text says of the word's function -/
structure WordOk (D : Tabs) (cn : Nat → Str) (sc : Scope) (kc : Nat) (W : WP) : Prop where
  lenΓ : (ownNames sc).length = 8
  fid : D.fids.lookup W.f = some kc
  gf : isGlob sc W.f = true
  df : (W.f == ("__debug__" : Str)) = false
  args : cEs D sc (ownNames sc) W.args = some [.var 0, .var 1, .var 2, .var 3, .var 4]
  kinds : kindsOf W.v1 = some ((W.en, cn 0), (W.en, cn 1), (W.en, cn 2))
  lc : isLc W.v2 = some ()
  comp : cE D sc (ownNames sc) W.v2 = some (.comp (.bin .item (.list wordsX) (.var 8)) 1 .range (.int 0) (.int 3) (.bin .item (.var 6) (.var 8)))
  last : lastOf W.v3 = some (W.wn, W.en, Str.ofString "ValueError")
  gint : isGlob sc "int" = true
  ginst : isGlob sc "isinstance" = true
  gval : isGlob sc "ValueError" = true
  gcn : ∀ j, j < 3 → isGlob sc (cn j) = true ∧ (cn j == ("__debug__" : Str)) = false
  gsn : isGlob sc W.sn = true
  dsn : (W.sn == ("__debug__" : Str)) = false
  loce : sc.names.lookup W.en = some .local
  dbge : (W.en == ("__debug__" : Str)) = false
  sle : slot (ownNames sc) W.en = some 5
  ownk : isOwn sc W.kn = true
  slk : slot (ownNames sc) W.kn = some 6
  nek : W.en ≠ W.kn
  ownw : isOwn sc W.wn = true
  varw : isVar sc W.wn = true
  slw : slot (ownNames sc) W.wn = some 7
  new : W.en ≠ W.wn
  dbgw : (W.wn == ("__debug__" : Str)) = false
  clsw : (W.wn == ("__classdict__" : Str)) = false

noncomputable def outWord : Option Nat → Str
  | none => ""
  | some k => wordAt k

section
variable {prog : Program} {w : World} {base : Heap} {φ φ' : List Addr} {H H' : Hp} {A : Around} {D : Tabs} {T : Nat → Option Fn} {mg mb : Str → Option Value}
variable {cn : Nat → Str} {Cl : Nat → Addr} {S : Addr} {Kd : Nat → Value}

/-- a function is called that raises nothing -/
theorem call_plain (G : Ground base D T mg mb) {s : Shared} (R : Rel base φ H s.heap) {a : Addr} {o : Obj} {fd : FuncData} {body : List Stmt} {params : List Str} (F : CodeAt base a o fd body params) (hdep : A.depth + 1 < 900) {vs : List V} {ws : List Value} (rv : RepL base φ s.heap vs ws)
    (hl : params.length = vs.length) (hle : vs.length ≤ (ownNames fd.scope).length) {Q : Value → Shared → Prop} {E : Value → Shared → Prop}
    (h : ∀ env s1 QQ EE, env.frame = some env.locals → Step [] φ φ s s1 → (∀ b ∈ own env, s.heap.get? b = none) → Rel base φ H s1.heap → EnvR base φ fd.scope env (ownNames fd.scope) (vs.map some ++ List.replicate ((ownNames fd.scope).length - vs.length) none) s1.heap →
      (∀ v s', Q v s' → QQ (.ret v) s') → wpAny (model prog w) (A.deeper env) (execs body env) QQ EE s1) : wpAny (model prog w) A (call (.ref a) ws []) Q E s := by
  have hfo := F.frame
  unfold frameOk at hfo
  simp only [Bool.and_eq_true, Bool.not_eq_true', beq_iff_eq, List.all_eq_true, decide_eq_true_eq, bne_iff_ne, ne_eq] at hfo
  obtain ⟨⟨⟨⟨⟨hok, hgen⟩, hco⟩, hps⟩, hnf⟩, hnd⟩ := hfo
  have hlen := rv.length
  refine wpAny_call (codeAny_call_function (fd := fd) (body := body) (by unfold recursionLimit; lia) (R.keep _ _ F.obj) F.dat hco hgen F.bod (F.code.keeps R.keep) ?_)
  rw [F.bind ws (by rw [hlen, hl]), F.glob, F.clos, F.blt]
  refine wpAny_pure (fn_env hok hnf hnd hps hl hle R rv fun env s1 hfe st hown R1 W1 => ?_)
  exact ⟨(G.nolim.keeps R1.keep), codeAny_func (h env s1 _ _ hfe st hown R1 W1 fun v s' q => q)⟩

theorem word_call (G : Ground base D T mg mb) (hX : ExcsOk base D Kd mg) (hR : ∀ A, A.handled = none → D.revs = true → RevSound prog w base A) (hZ : ∀ C A, A.handled = none → D.zips = true → ZipSound prog w base D C A)
    (N : Kinds base mg cn Cl S) (hKd : ∀ k, k < 3 → Kd k = .ref (Cl k)) {n kc : Nat} (hA : Room (n + 1) A) {outer : List Env} (hfr : A.frames = some outer) {s : Shared} (S0 : Stk base s.heap outer) (R : Rel base φ H s.heap)
    {a : Addr} {o : Obj} {fd : FuncData} {body : List Stmt} {params : List Str} {W : WP} (F : CodeAt base a o fd body params) (hl5 : params.length = 5) (hW : wordOf body = some W) (O : WordOk D cn fd.scope kc W) (hsn : mg W.sn = some (.ref S))
    {v0 v1 v2 v3 v4 : V} {ws : List Value} (rv : RepL base φ s.heap [v0, v1, v2, v3, v4] ws) {PO : Option Nat → Hp → Prop}
    (hrun : (run T n kc [v0, v1, v2, v3, v4] H fun _ H' => PO none H') ∨ runZ T n kc [v0, v1, v2, v3, v4] H fun k H' => k < 3 ∧ PO (some k) H')
    {Q : Value → Shared → Prop} {E : Value → Shared → Prop}
    (K : ∀ oc t φ' H' H'' s'', PO oc H' → H' <+: H'' → Rel base φ' H'' s''.heap → (∀ sc' env' Γ' m', EnvR base φ sc' env' Γ' m' s.heap → EnvR base φ' sc' env' Γ' m' s''.heap) → (∃ hh tk, s'' = { s with heap := hh, toks := tk }) → Q (.str (outWord oc) t) s'') :
    wpAny (model prog w) A (call (.ref a) ws []) Q E s := by
  refine call_plain G R F (by have := hA.2.1; lia) rv (by rw [hl5]; rfl) (by rw [O.lenΓ]; exact Nat.le_of_ble_eq_true rfl) fun env s1 QQ EE hfe st hown R1 W1 hQ => ?_
  rw [O.lenΓ] at W1
  change EnvR base φ fd.scope env (ownNames fd.scope) [some v0, some v1, some v2, some v3, some v4, none, none, none] s1.heap at W1
  have hA' := hA.deeper env
  have u64 : (A.deeper env).units + 64 < cLine := by have := hA'.2.2.1; lia
  have ap : Apart env outer := fun x hx q => by
    obtain ⟨_, mm, o', es, ep, ho', _⟩ := S0.at x hx
    rw [hown x q] at ho'; cases ho'
  have hx : Here (A.deeper env) env outer := ⟨Around.frames_deeper hfr, hfe, ap⟩
  have S1 : Stk base s1.heap outer := S0.step R (env := env) (up _ st) ap
  have dis : ∀ {sc' : Scope} {env' : Env} {Γ' : List Str} {m' : Loc}, EnvR base φ sc' env' Γ' m' s.heap → ∀ b ∈ own env', b ∉ own env := fun We b hb q => by
    obtain ⟨o', ho', _⟩ := We.there b hb
    rw [hown b q] at ho'; cases ho'
  obtain ⟨_, kk, p5, p6, ⟨_, _, p2, p3, p4, ⟨fp, cp, ep, rfl⟩, ⟨st1, st2, st3, rfl, g1, g2, g3⟩, rfl⟩, rfl⟩ := wordOf_eq hW
  have sC := soundC (prog := prog) (w := w) G hR hZ n _ hA'
  have sE := fun e x h => (soundE (C := run T n) (A := A.deeper env) G hA'.1 u64 hA'.2.2.2 sC (hR _ hA'.1) (hZ _ _ hA'.1) _ e (Nat.lt_succ_self _) fd.scope (ownNames fd.scope) env x h).1
  have hwe : ∀ {P : List V → Hp → Prop}, P [v0, v1, v2, v3, v4] H → wpEs (run T n) [.var 0, .var 1, .var 2, .var 3, .var 4] [some v0, some v1, some v2, some v3, some v4, none, none, none] H P := fun h => by
    simp only [wes_cons, wes_nil, ZH]
    exact h
  refine wpAny_execs_cons (wpAny_Try_except ?_)
  rcases hrun with hrun | hrun
  · refine wpAny_execs_cons (wpAny_Expr_any (se_call_f G sC (sc := fd.scope) (Γ := ownNames fd.scope) O.fid O.gf O.df O.args (fun e _ x h => sE e x h) R1 W1 (hwe (P := fun vs H₁ => run T n kc vs H₁ fun _ H' => PO none H') hrun) fun v y φ2 H2 s2 hp st2 R2 r => ?_) (by unfold interactive; rw [W1.kind]; rfl) rfl)
    refine wpAny_execs_nil ?_
    refine wpAny_execs_nil ?_
    refine wpAny_execs_cons (wpAny_Return_some (wpAny_Constant_str ?_))
    refine hQ _ _ (K none _ φ2 H2 H2 _ hp (List.prefix_refl _) R2 (fun sc' env' Γ' m' We => EnvR.step (s' := s2) (We.step R st) R1 st2) ?_)
    obtain ⟨_, _, e1⟩ := st.same
    obtain ⟨h2, t2, e2⟩ := st2.same
    exact ⟨h2, t2 + 1, by rw [e2, e1]⟩
  · refine wpAny_execs_cons (rx_expr G (soundZ G hX hR hZ n _ hA') hx O.fid O.gf O.df O.args (fun e _ x h => sE e x h) R1 W1 S1 (X := fun k H' => k < 3 ∧ PO (some k) H') (hwe (P := fun vs H₁ => runZ T n kc vs H₁ fun k H' => k < 3 ∧ PO (some k) H') hrun) fun k e mid φ' H' s' hr stm Rm L => ?_)
    obtain ⟨hk3, hpo⟩ := hr
    have Wm := W1.step R1 stm
    refine L.note hx (.inl rfl) fun h2 L2 => L2.land0 fun h3 L3 => ?_
    have kd := W1.kinds W.en
    rw [O.loce] at kd
    refine word_handle (run T n) N (hKd k hk3) hk3 G Rm Wm L3 g1 O.kinds g2 O.lc (by rw [O.lenΓ]; exact O.comp) g3 O.last O.gint O.ginst O.gval O.gcn hsn O.gsn O.dsn kd O.dbge O.sle rfl O.ownk O.slk O.nek O.ownw O.varw O.slw O.new O.dbgw O.clsw fun t φ4 H4 s4 hp R4 aw hs => ?_
    refine hQ _ _ (K (some k) t φ4 H' H4 s4 hpo hp R4 (fun sc' env' Γ' m' We => aw sc' env' Γ' m' ((We.step R st).step R1 stm) (dis We)) ?_)
    obtain ⟨_, _, e1⟩ := st.same
    obtain ⟨_, _, e2⟩ := stm.same
    obtain ⟨h4, t4, e4⟩ := hs
    exact ⟨h4, t4, by rw [e4, e2, e1]⟩
end
end Mine

open PySem
namespace Mine

theorem filterMap_ext {α β : Type} {f g : α → Option β} : ∀ {l : List α}, (∀ x ∈ l, f x = g x) → l.filterMap f = l.filterMap g
  | [], _ => rfl
  | a :: r, h => by
    rw [List.filterMap_cons, List.filterMap_cons, h a (.head _), filterMap_ext fun x hx => h x (.tail _ hx)]

theorem lookups {α : Type} : ∀ (names : List Str) (vs : List α), names.Nodup → vs.length = names.length → (names.filterMap fun n => ((names.zip vs).lookup n).map (n, ·)) = names.zip vs
  | [], _, _, _ => rfl
  | n :: r, [], _, h => by simp at h
  | n :: r, v :: vs, hn, h => by
    obtain ⟨h1, h2⟩ := List.nodup_cons.mp hn
    rw [List.zip_cons_cons, List.filterMap_cons]
    simp only [List.lookup_cons, beq_self_eq_true, Option.map_some]
    congr 1
    refine Eq.trans (filterMap_ext fun x hx => ?_) (lookups r vs h2 (by simpa using h))
    have : (x == n) = false := by rw [beq_eq_false_iff_ne]; intro q; exact h1 (q ▸ hx)
    rw [this]

theorem lookup_zip_some {α : Type} : ∀ (names : List Str) (vs : List α), vs.length = names.length → ∀ x ∈ names, ((names.zip vs).lookup x).isNone = false
  | [], _, _, x, hx => by cases hx
  | n :: r, [], h, _, _ => by simp at h
  | n :: r, v :: vs, h, x, hx => by
    rw [List.zip_cons_cons, List.lookup_cons]
    cases q : x == n with
    | true => rfl
    | false =>
      rcases List.mem_cons.mp hx with rfl | hx
      · simp at q
      · exact lookup_zip_some r vs (by simpa using h) x hx

noncomputable def plainFd (fd : FuncData) : Bool :=
  fd.params.posonlyargs.isEmpty && fd.params.vararg.isNone && fd.params.kwonlyargs.isEmpty && fd.params.kwarg.isNone && (match fd.defaults with | .none => true | _ => false) && decide ((fd.params.args.map (·.arg)).Nodup)

theorem ite_not {α : Type} {c : Bool} {x y : α} (h : c = false) : (if c = true then x else y) = y := by rw [h]; rfl
theorem bind_plain {fd : FuncData} (h : plainFd fd = true) (vs : List Value) (hl : vs.length = (fd.params.args.map (·.arg)).length) : bindArgs fd ⟨vs, []⟩ = pure ((fd.params.args.map (·.arg)).zip vs) := by
  obtain ⟨name, qual, ⟨po, as, va, ko, kd, ka, df⟩, body, sc, gl, cl, dfl, kwd, doc, pm, an, code, ct, bl⟩ := fd
  unfold plainFd at h
  simp only [Bool.and_eq_true, List.isEmpty_iff, Option.isNone_iff_eq_none, decide_eq_true_eq] at h
  obtain ⟨⟨⟨⟨⟨rfl, rfl⟩, rfl⟩, rfl⟩, h5⟩, h6⟩ := h
  have h5' : dfl = .none := by
    split at h5
    · rfl
    · cases h5
  subst h5'
  dsimp only at hl h6 ⊢
  have hm : (((as.map (·.arg)).take ((as.map (·.arg)).length - 0)).filter fun n => (((as.map (·.arg)).zip vs).lookup n).isNone) = [] := by
    rw [List.filter_eq_nil_iff]
    intro x hx
    rw [lookup_zip_some _ _ hl x (List.mem_of_mem_take hx)]; simp
  have e := lookups (as.map (·.arg)) vs h6 hl
  have hq : (decide (vs.length > (as.map (·.arg)).length) && true) = false := by rw [hl]; simp
  have hm' : (!(((as.map (·.arg)).take ((as.map (·.arg)).length - 0)).filter fun n => (((as.map (·.arg)).zip vs).lookup n).isNone).isEmpty) = false := by rw [hm]; rfl
  show (if (decide (vs.length > (as.map (·.arg)).length) && true) = true then _ else _) = _
  refine (ite_not hq).trans ?_
  have hd : List.drop (((none : Option (Array Value)).getD #[]).toList.length - (as.map (·.arg)).length) ((none : Option (Array Value)).getD #[]).toList = [] := List.drop_nil
  dsimp only
  rw [List.map_nil, List.nil_append, hd]
  show (if (!(((as.map (·.arg)).take ((as.map (·.arg)).length - 0)).filter fun n => (((as.map (·.arg)).zip vs).lookup n).isNone).isEmpty) = true then _ else _) = _
  refine (ite_not hm').trans ?_
  rw [List.zip_nil_right]
  show (pure ((as.map Arg.arg ++ []).filterMap fun n => (((as.map Arg.arg).zip vs).lookup n).map fun v => (n, v)) : Sem (List (Str × Value))) = _
  rw [List.append_nil, e]

end Mine

open PySem PySem.W
namespace Mine

/-- a function's compiled form, read off the text's defs -/
noncomputable def fnIn (rs : List DefRec) (D : Tabs) (f : Str) : Option Fn := (rs.find? fun d => d.name == f).bind fun d =>
  if plainFd (Calls.docDef d.name d.params d.body d.scope .none .none .none) then cFn D d.scope (d.params.args.map (·.arg)) d.body else none

noncomputable def fnsOk (rs : List DefRec) (D : Tabs) : List (Str × Nat) → List (Option Fn)
  | [] => []
  | p :: r => fnIn rs D p.1 :: fnsOk rs D r

noncomputable def isInt? : Option PyData → Option Int
  | some (.int i) => some i
  | _ => none
theorem isInt_eq {o : Option PyData} {i : Int} (h : isInt? o = some i) : o = some (.int i) := by
  cases o with
  | none => cases h
  | some d => cases d <;> first | (cases h; rfl) | cases h

theorem lookup_find {α : Type} : ∀ {l : List (Str × α)} {x : Str} {k : α}, l.lookup x = some k → (x, k) ∈ l
  | [], _, _, h => by cases h
  | (y, j) :: r, x, k, h => by
    rw [List.lookup_cons] at h
    cases q : x == y with
    | true =>
      rw [q] at h
      have := beq_iff_eq.mp q
      subst this
      cases h; exact .head _
    | false =>
      rw [q] at h
      exact .tail _ (lookup_find h)

theorem fnsOk_at {K : List DefRec} {D : Tabs} {T : Nat → Option Fn} : ∀ {l : List (Str × Nat)}, fnsOk K D l = l.map (fun p => T p.2) → ∀ {p : Str × Nat}, p ∈ l → fnIn K D p.1 = T p.2
  | [], _, _, h => by cases h
  | q :: r, e, p, h => by
    simp only [fnsOk, List.map_cons, List.cons.injEq] at e
    rcases List.mem_cons.mp h with rfl | h
    · exact e.1
    · exact fnsOk_at e.2 h

theorem fnAt_of {p : Program} {loose : List Str} {mean : ExcName → Option Value} {base : Heap} {mg mb : Str → Option Value} {D : Tabs} {T : Nat → Option Fn} {f : Str} {k : Nat} {d : Fn} (X : PyProof.Rows.Top p loose mean mg mb base) (h : fnIn (PyProof.Rows.recsOf p) D f = some d) (hT : T k = some d) :
    Ex6 fun a o fd body d params => mg f = some (.ref a) ∧ FnAt base D T a k o fd body d params:= by
  obtain ⟨r, hr, h⟩ := Zk h
  obtain ⟨hp, h⟩ := if_some h
  obtain ⟨a, o, pm, code, doc, h1, h2, h3, h4⟩ := X.fn r (List.mem_of_find?_eq_some hr)
  have hn : r.name = f := by simpa using List.find?_some hr
  rw [hn] at h1
  exact ⟨a, o, _, r.body, d, _, h1, ⟨h2, h3, rfl, h4, rfl, rfl, rfl, hT, h, fun vs hl => bind_plain (fd := Calls.docDef r.name r.params r.body r.scope pm code doc) hp vs hl⟩⟩

/-- the ground, from the top of the text -/
theorem ground_of {p : Program} {loose : List Str} {mean : ExcName → Option Value} {base : Heap} {mg mb : Str → Option Value} {D : Tabs} {T : Nat → Option Fn} (X : PyProof.Rows.Top p loose mean mg mb base) (hsys : ∃ o, base.get? sysModules = some o)
    (h1 : fnsOk (PyProof.Rows.recsOf p) D D.fids = D.fids.map (fun p => T p.2)) (h2 : D.fids.all (fun p => (T p.2).isSome) = true) (h3 : D.consts.all (fun q => isInt? (PyProof.Rows.valOf p q.1) == some q.2) = true)
    (h4 : biTab.all (fun q => !(startupNames ++ (loose ++ ((PyProof.Rows.recsOf p).map (·.name) ++ ((PyProof.Rows.litsOf p).map (·.1) ++ (PyProof.Rows.clssOf p loose).map (·.name))))).contains q.1) = true) : Ground base D T mg mb := by
  refine ⟨X.g, X.b, X.nolimit, hsys, fun x i hx => ?_, fun p hp => ?_, fun f k hf => ?_⟩
  · obtain ⟨v, hv, r⟩ := X.const x _ (isInt_eq (beq_iff_eq.mp (List.all_eq_true.mp h3 _ (lookup_find hx))))
    obtain ⟨t, rfl, _⟩ := PyProof.Rows.reads_int_inv (r base)
    exact ⟨t, hv⟩
  · refine ⟨?_, ?_⟩
    · have := List.all_eq_true.mp h4 _ hp
      simp only [Bool.not_eq_true', List.contains_eq_mem, decide_eq_false_iff_not, List.mem_append, not_or] at this
      exact X.free _ this.1 this.2.1 this.2.2.1 this.2.2.2.1 this.2.2.2.2
    · have hbt : ∀ p ∈ biTab, p.1 ≠ "__name__" ∧ bootBuiltins p.1 = some p.2 := by
        intro p hp
        simp only [biTab, List.mem_cons, List.not_mem_nil, or_false] at hp
        rcases hp with h | h | h | h | h | h | h | h | h | h | h | h | h | h | h | h | h | h <;> subst h <;> exact ⟨by decide, by rfl⟩
      rw [X.builtins _ (hbt p hp).1, (hbt p hp).2]
  · have hm := lookup_find hf
    have e := fnsOk_at h1 hm
    obtain ⟨d, hd⟩ := Option.isSome_iff_exists.mp (List.all_eq_true.mp h2 _ hm)
    rw [hd] at e
    exact fnAt_of X e hd

end Mine

open PySem
namespace Mine

/-- power: 0=rest 1=many 2=found 3=factor -/
noncomputable def f_power : Fn := ⟨2, 4, [
  .assign 2 (.int 1),
  .assign 3 (.bin .mod (.var 0) (.int 251)),
  .loop (.bin .gt (.var 1) (.int 0)) [
    .ite (.bin .eq (.bin .mod (.var 1) (.int 2)) (.int 1)) [
      .assign 2 (.bin .mod (.bin .mul (.var 2) (.var 3)) (.int 251))] [],
    .assign 3 (.bin .mod (.bin .mul (.var 3) (.var 3)) (.int 251)),
    .assign 1 (.bin .fdiv (.var 1) (.int 2))],
  .ret (.var 2)]⟩
/-- inverse: 0=rest -/
noncomputable def f_inverse : Fn := ⟨1, 1, [
  .ret (.call 0 [(.var 0), (.bin .sub (.int 251) (.int 2))])]⟩
/-- _law_whole: 0=_law_found -/
noncomputable def f_law_whole : Fn := ⟨1, 1, [
  .ret (.and (.un .isInt (.var 0)) (.not (.un .isBool (.var 0))))]⟩
/-- _law_cell_at: 0=_law_script 1=_law_k -/
noncomputable def f_law_cell_at : Fn := ⟨2, 2, [
  .ite (.bin .lt (.var 1) (.un .len (.var 0))) [
    .ret (.bin .item (.var 0) (.var 1))] [],
  .ret (.int 0)]⟩
/-- _law_rests: 0=_law_found 1=_law_due 2=_law_k -/
noncomputable def f_law_rests : Fn := ⟨2, 3, [
  .ite (.or (.not (.un .isList (.var 0))) (.bin .ne (.un .len (.var 0)) (.un .len (.var 1)))) [
    .ret (.bool false)] [],
  .each [2] .range (.int 0) (.un .len (.var 1)) [
    .ite (.or (.not (.call 2 [(.bin .item (.var 0) (.var 2))])) (.bin .ne (.bin .item (.var 0) (.var 2)) (.bin .item (.var 1) (.var 2)))) [
      .ret (.bool false)] []],
  .ret (.bool true)]⟩
/-- value: 0=poly 1=rest 2=found 3=number -/
noncomputable def f_value : Fn := ⟨2, 4, [
  .assign 2 (.int 0),
  .each [3] .rev (.var 0) .none [
    .assign 2 (.bin .mod (.bin .add (.bin .mul (.var 2) (.var 1)) (.var 3)) (.int 251))],
  .ret (.var 2)]⟩
/-- roots: 0=poly -/
noncomputable def f_roots : Fn := ⟨1, 1, [
  .ret (.comp (.var 1) 1 .range (.int 1) (.int 251) (.bin .eq (.call 6 [(.var 0), (.var 1)]) (.int 0)))]⟩
/-- _law_poly: 0=_law_cell 1=_law_most 2=_law_size 3=_law_found 4=_law_k 5=_law_number -/
noncomputable def f_law_poly : Fn := ⟨2, 6, [
  .assign 2 (.bin .mod (.var 0) (.bin .add (.var 1) (.int 1))),
  .assign 0 (.bin .fdiv (.var 0) (.bin .add (.var 1) (.int 1))),
  .assign 3 (.list []),
  .each [4] .range (.int 0) (.var 2) [
    .assign 5 (.bin .mod (.bin .mod (.bin .mul (.bin .add (.var 0) (.bin .mul (.int 7919) (.var 4))) (.int 48271)) (.int 1000003)) (.int 251)),
    .ite (.bin .eq (.bin .mod (.bin .fdiv (.var 0) (.int 7)) (.int 3)) (.int 1)) [
      .assign 5 (.bin .item (.list [(.int 0), (.int 1), (.int 250), (.int 0), (.bin .mod (.bin .fdiv (.var 0) (.int 21)) (.int 251))]) (.bin .mod (.bin .add (.bin .fdiv (.var 0) (.int 21)) (.bin .mul (.var 4) (.var 4))) (.int 5)))] [],
    .append (.var 3) (.var 5)],
  .loop (.and (.bin .ne (.var 3) (.list [])) (.bin .eq (.bin .item (.var 3) (.un .neg (.int 1))) (.int 0))) [
    .assign 3 (.slice (.var 3) .none (.un .neg (.int 1)))],
  .ret (.var 3)]⟩
/-- _law_times: 0=_law_one 1=_law_other 2=_law_found 3=_law_k -/
noncomputable def f_law_times : Fn := ⟨2, 4, [
  .ite (.or (.bin .eq (.var 0) (.list [])) (.bin .eq (.var 1) (.list []))) [
    .ret (.list [])] [],
  .assign 2 (.list []),
  .each [3] .range (.int 0) (.bin .sub (.bin .add (.un .len (.var 0)) (.un .len (.var 1))) (.int 1)) [
    .append (.var 2) (.bin .mod (.un .sum (.comp (.bin .mul (.bin .item (.var 0) (.var 4)) (.bin .item (.var 1) (.bin .sub (.var 3) (.var 4)))) 1 .range (.int 0) (.un .len (.var 0)) (.chain .le .lt (.int 0) (.bin .sub (.var 3) (.var 4)) (.un .len (.var 1))))) (.int 251))],
  .ret (.var 2)]⟩
/-- _law_value: 0=_law_poly_here 1=_law_rest 2=_law_found 3=_law_factor 4=_law_number -/
noncomputable def f_law_value : Fn := ⟨2, 5, [
  .assign 2 (.int 0),
  .assign 3 (.int 1),
  .each [4] .seq (.var 0) .none [
    .assign 2 (.bin .mod (.bin .add (.var 2) (.bin .mul (.var 4) (.var 3))) (.int 251)),
    .assign 3 (.bin .mod (.bin .mul (.var 3) (.var 1)) (.int 251))],
  .ret (.var 2)]⟩
/-- trimmed: 0=numbers 1=size -/
noncomputable def f_trimmed : Fn := ⟨1, 2, [
  .assign 1 (.un .len (.var 0)),
  .loop (.and (.bin .gt (.var 1) (.int 0)) (.bin .eq (.bin .item (.var 0) (.bin .sub (.var 1) (.int 1))) (.int 0))) [
    .assign 1 (.bin .sub (.var 1) (.int 1))],
  .ret (.un .list (.slice (.var 0) .none (.var 1)))]⟩
/-- times: 0=one 1=other 2=found 3=at 4=left 5=beside 6=right -/
noncomputable def f_times : Fn := ⟨2, 7, [
  .assign 2 (.comp (.int 0) 1 .range (.int 0) (.bin .add (.un .len (.var 0)) (.un .len (.var 1))) (.bool true)),
  .each [3, 4] .enum (.var 0) .none [
    .each [5, 6] .enum (.var 1) .none [
      .setItem (.var 2) (.bin .add (.var 3) (.var 5)) (.bin .mod (.bin .add (.bin .item (.var 2) (.bin .add (.var 3) (.var 5))) (.bin .mul (.var 4) (.var 6))) (.int 251))]],
  .ret (.call 13 [(.var 2)])]⟩
/-- divided: 0=one 1=other 2=rest 3=quotient 4=factor 5=at 6=number 7=beside 8=right -/
noncomputable def f_divided : Fn := ⟨2, 9, [
  .assign 2 (.un .list (.var 0)),
  .assign 3 (.comp (.int 0) 1 .range (.int 0) (.bin .max (.int 0) (.bin .add (.bin .sub (.un .len (.var 0)) (.un .len (.var 1))) (.int 1))) (.bool true)),
  .assign 4 (.call 1 [(.bin .item (.var 1) (.un .neg (.int 1)))]),
  .loop (.bin .ge (.un .len (.var 2)) (.un .len (.var 1))) [
    .assign 5 (.bin .sub (.un .len (.var 2)) (.un .len (.var 1))),
    .assign 6 (.bin .mod (.bin .mul (.bin .item (.var 2) (.un .neg (.int 1))) (.var 4)) (.int 251)),
    .setItem (.var 3) (.var 5) (.var 6),
    .each [7, 8] .enum (.var 1) .none [
      .setItem (.var 2) (.bin .add (.var 5) (.var 7)) (.bin .mod (.bin .sub (.bin .item (.var 2) (.bin .add (.var 5) (.var 7))) (.bin .mul (.var 6) (.var 8))) (.int 251))],
    .assign 2 (.call 13 [(.var 2)])],
  .ret (.tup [(.call 13 [(.var 3)]), (.var 2)])]⟩
/-- _law_added: 0=_law_one 1=_law_other 2=_law_found 3=_law_k -/
noncomputable def f_law_added : Fn := ⟨2, 4, [
  .assign 2 (.list []),
  .each [3] .range (.int 0) (.bin .max (.un .len (.var 0)) (.un .len (.var 1))) [
    .append (.var 2) (.bin .mod (.bin .add (.un .sum (.slice (.var 0) (.var 3) (.bin .add (.var 3) (.int 1)))) (.un .sum (.slice (.var 1) (.var 3) (.bin .add (.var 3) (.int 1))))) (.int 251))],
  .loop (.and (.bin .ne (.var 2) (.list [])) (.bin .eq (.bin .item (.var 2) (.un .neg (.int 1))) (.int 0))) [
    .assign 2 (.slice (.var 2) .none (.un .neg (.int 1)))],
  .ret (.var 2)]⟩
/-- _law_is_poly: 0=_law_found 1=_law_number -/
noncomputable def f_law_is_poly : Fn := ⟨1, 2, [
  .ite (.not (.un .isList (.var 0))) [
    .ret (.bool false)] [],
  .each [1] .seq (.var 0) .none [
    .ite (.or (.not (.call 2 [(.var 1)])) (.not (.chain .le .le (.int 0) (.var 1) (.int 250)))) [
      .ret (.bool false)] []],
  .ret (.or (.bin .eq (.var 0) (.list [])) (.bin .ne (.bin .item (.var 0) (.un .neg (.int 1))) (.int 0)))]⟩
/-- is_whole: 0=thing 1=least 2=most -/
noncomputable def f_is_whole : Fn := ⟨3, 3, [
  .ret (.and (.un .isInt (.var 0)) (.and (.not (.un .isBool (.var 0))) (.chain .le .le (.var 1) (.var 0) (.var 2))))]⟩
/-- need_row: 0=row 1=number -/
noncomputable def f_need_row : Fn := ⟨1, 2, [
  .ite (.not (.un .isList (.var 0))) [
    .raise 0] [],
  .each [1] .seq (.var 0) .none [
    .ite (.not (.call 20 [(.var 1), (.int 1), (.bin .sub (.int 251) (.int 1))])) [
      .raise 0] []],
  .ite (.bin .ne (.un .nset (.var 0)) (.un .len (.var 0))) [
    .raise 0] []]⟩
/-- need_count: 0=many -/
noncomputable def f_need_count : Fn := ⟨1, 1, [
  .ite (.not (.call 20 [(.var 0), (.int 1), (.int 12)])) [
    .raise 1] []]⟩
/-- sums_of: 0=row 1=many -/
noncomputable def f_sums_of : Fn := ⟨2, 2, [
  .ret (.comp (.bin .mod (.un .sum (.comp (.call 0 [(.var 3), (.var 2)]) 1 .seq (.var 0) .none (.bool true))) (.int 251)) 1 .range (.int 1) (.bin .add (.var 1) (.int 1)) (.bool true))]⟩
/-- letter: 0=row 1=many -/
noncomputable def f_letter : Fn := ⟨2, 2, [
  .expr 21 [(.var 0)],
  .expr 22 [(.var 1)],
  .ret (.tup [(.un .len (.var 0)), (.un .tuple (.call 23 [(.var 0), (.var 1)]))])]⟩
/-- _law_row: 0=_law_script 1=_law_at 2=_law_most 3=_law_cell 4=_law_step 5=_law_begin 6=_law_found 7=_law_k 8=_law_number -/
noncomputable def f_law_row : Fn := ⟨3, 9, [
  .assign 3 (.call 3 [(.var 0), (.var 1)]),
  .assign 4 (.bin .item (.list [(.int 1), (.int 3), (.int 7), (.int 9), (.int 11), (.int 13), (.int 37), (.int 121), (.int 249), (.int 97)]) (.bin .mod (.bin .fdiv (.var 3) (.bin .add (.var 2) (.int 1))) (.int 10))),
  .assign 5 (.bin .fdiv (.bin .fdiv (.var 3) (.bin .add (.var 2) (.int 1))) (.int 10)),
  .assign 6 (.list []),
  .each [7] .range (.int 0) (.bin .mod (.var 3) (.bin .add (.var 2) (.int 1))) [
    .assign 8 (.bin .add (.int 1) (.bin .mod (.bin .add (.var 5) (.bin .mul (.var 4) (.var 7))) (.int 250))),
    .ite (.bin .eq (.bin .mod (.var 5) (.int 3)) (.int 1)) [
      .assign 8 (.bin .add (.int 1) (.bin .mod (.bin .mod (.bin .mul (.bin .add (.bin .add (.bin .fdiv (.var 5) (.int 3)) (.bin .mul (.bin .mul (.var 7) (.var 7)) (.int 7919))) (.bin .mul (.var 7) (.int 48271))) (.int 69621)) (.int 1000003)) (.int 250)))] [],
    .ite (.bin .eq (.bin .mod (.var 5) (.int 3)) (.int 2)) [
      .assign 8 (.bin .add (.int 1) (.bin .mod (.call 3 [(.var 0), (.bin .add (.bin .add (.int 8) (.bin .mul (.int 20) (.var 1))) (.var 7))]) (.int 250)))] [],
    .ite (.bin .notin (.var 8) (.var 6)) [
      .append (.var 6) (.var 8)] []],
  .ret (.var 6)]⟩
/-- _law_sums: 0=_law_row_here 1=_law_many 2=_law_found 3=_law_k 4=_law_number 5=_law_factor -/
noncomputable def f_law_sums : Fn := ⟨2, 6, [
  .assign 2 (.list []),
  .each [3] .range (.int 0) (.var 1) [
    .append (.var 2) (.int 0)],
  .each [4] .seq (.var 0) .none [
    .assign 5 (.int 1),
    .each [3] .range (.int 0) (.var 1) [
      .assign 5 (.bin .mod (.bin .mul (.var 5) (.var 4)) (.int 251)),
      .setItem (.var 2) (.var 3) (.bin .mod (.bin .add (.bin .item (.var 2) (.var 3)) (.var 5)) (.int 251))]],
  .ret (.var 2)]⟩
/-- need_letter: 0=told 1=rest -/
noncomputable def f_need_letter : Fn := ⟨1, 2, [
  .ite (.or (.not (.un .isTuple (.var 0))) (.or (.bin .ne (.un .len (.var 0)) (.int 2)) (.not (.call 20 [(.bin .item (.var 0) (.int 0)), (.int 0), (.bin .sub (.int 251) (.int 1))])))) [
    .raise 2] [],
  .ite (.or (.not (.un .isTuple (.bin .item (.var 0) (.int 1)))) (.not (.chain .le .le (.int 1) (.un .len (.bin .item (.var 0) (.int 1))) (.int 12)))) [
    .raise 2] [],
  .each [1] .seq (.bin .item (.var 0) (.int 1)) .none [
    .ite (.not (.call 20 [(.var 1), (.int 0), (.bin .sub (.int 251) (.int 1))])) [
      .raise 2] []]]⟩
/-- gaps: 0=row 1=told 2=own -/
noncomputable def f_gaps : Fn := ⟨2, 3, [
  .expr 21 [(.var 0)],
  .expr 28 [(.var 1)],
  .assign 2 (.call 23 [(.var 0), (.un .len (.bin .item (.var 1) (.int 1)))]),
  .ret (.tup [(.bin .sub (.bin .item (.var 1) (.int 0)) (.un .len (.var 0))), (.zcomp (.bin .mod (.bin .sub (.var 0) (.var 1)) (.int 251)) (.bin .item (.var 1) (.int 1)) (.var 2))])]⟩
/-- less: 0=one 1=other 2=found 3=at 4=left 5=right -/
noncomputable def f_less : Fn := ⟨2, 6, [
  .assign 2 (.list []),
  .each [3] .range (.int 0) (.bin .max (.un .len (.var 0)) (.un .len (.var 1))) [
    .assign 4 (.ite (.bin .lt (.var 3) (.un .len (.var 0))) (.bin .item (.var 0) (.var 3)) (.int 0)),
    .assign 5 (.ite (.bin .lt (.var 3) (.un .len (.var 1))) (.bin .item (.var 1) (.var 3)) (.int 0)),
    .append (.var 2) (.bin .mod (.bin .sub (.var 4) (.var 5)) (.int 251))],
  .ret (.call 13 [(.var 2)])]⟩
/-- series: 0=sums 1=found 2=k 3=whole 4=i -/
noncomputable def f_series : Fn := ⟨1, 5, [
  .assign 1 (.list [(.int 1)]),
  .each [2] .range (.int 1) (.bin .add (.un .len (.var 0)) (.int 1)) [
    .assign 3 (.int 0),
    .each [4] .range (.int 1) (.bin .add (.var 2) (.int 1)) [
      .assign 3 (.bin .add (.var 3) (.bin .mul (.bin .item (.var 0) (.bin .sub (.var 4) (.int 1))) (.bin .item (.var 1) (.bin .sub (.var 2) (.var 4)))))],
    .append (.var 1) (.bin .mod (.bin .mul (.un .neg (.var 3)) (.call 1 [(.var 2)])) (.int 251))],
  .ret (.var 1)]⟩
/-- fraction: 0=numbers 1=up 2=down 3=size 4=ahead 5=here 6=lower_ahead 7=lower 8=quotient 9=rest 10=more 11=factor -/
noncomputable def f_fraction : Fn := ⟨3, 12, [
  .assign 3 (.bin .add (.bin .add (.var 1) (.var 2)) (.int 1)),
  .assign 4 (.bin .add (.comp (.int 0) 1 .range (.int 0) (.var 3) (.bool true)) (.list [(.int 1)])),
  .assign 5 (.call 13 [(.slice (.var 0) .none (.var 3))]),
  .assign 6 (.list []),
  .assign 7 (.list [(.int 1)]),
  .loop (.bin .gt (.un .len (.var 5)) (.bin .add (.var 1) (.int 1))) [
    .unpack [8, 9] (.call 16 [(.var 4), (.var 5)]),
    .assign 4 (.var 5),
    .assign 5 (.var 9),
    .assign 10 (.call 31 [(.var 6), (.call 14 [(.var 8), (.var 7)])]),
    .assign 6 (.var 7),
    .assign 7 (.var 10)],
  .ite (.or (.bin .eq (.un .len (.var 7)) (.int 0)) (.or (.bin .eq (.bin .item (.var 7) (.int 0)) (.int 0)) (.bin .gt (.un .len (.var 7)) (.bin .add (.var 2) (.int 1))))) [
    .ret .none] [],
  .assign 11 (.call 1 [(.bin .item (.var 7) (.int 0))]),
  .ret (.tup [(.call 14 [(.var 5), (.list [(.var 11)])]), (.call 14 [(.var 7), (.list [(.var 11)])])])]⟩
/-- numbers_of: 0=poly 1=found -/
noncomputable def f_numbers_of : Fn := ⟨1, 2, [
  .assign 1 (.un .sorted (.comp (.call 1 [(.var 2)]) 1 .seq (.call 7 [(.var 0)]) .none (.bool true))),
  .ite (.bin .ne (.un .len (.var 1)) (.bin .sub (.un .len (.var 0)) (.int 1))) [
    .ret .none] [],
  .ret (.var 1)]⟩
/-- is_find: 0=row 1=told 2=lacked 3=over 4=behind -/
noncomputable def f_is_find : Fn := ⟨4, 5, [
  .ite (.bin .gt (.un .len (.comp (.var 5) 1 .seq (.var 2) .none (.bin .isin (.var 5) (.var 0)))) (.int 0)) [
    .ret (.bool false)] [],
  .ite (.or (.bin .gt (.un .len (.comp (.var 5) 1 .seq (.var 3) .none (.bin .notin (.var 5) (.var 0)))) (.int 0)) (.bin .gt (.bin .add (.un .len (.var 2)) (.un .len (.var 3))) (.un .len (.bin .item (.var 1) (.int 1))))) [
    .ret (.bool false)] [],
  .assign 4 (.bin .add (.comp (.var 5) 1 .seq (.var 0) .none (.bin .notin (.var 5) (.var 3))) (.var 2)),
  .ret (.and (.bin .eq (.un .len (.var 4)) (.bin .item (.var 1) (.int 0))) (.bin .eq (.un .tuple (.call 23 [(.var 4), (.un .len (.bin .item (.var 1) (.int 1)))])) (.bin .item (.var 1) (.int 1))))]⟩
/-- learnt: 0=row 1=told 2=more 3=sums 4=size 5=pair 6=lacked 7=over -/
noncomputable def f_learnt : Fn := ⟨2, 8, [
  .expr 21 [(.var 0)],
  .expr 28 [(.var 1)],
  .unpack [2, 3] (.call 29 [(.var 0), (.var 1)]),
  .assign 4 (.un .len (.var 3)),
  .ite (.bin .eq (.bin .mod (.bin .sub (.var 4) (.var 2)) (.int 2)) (.int 1)) [
    .assign 4 (.bin .sub (.var 4) (.int 1))] [],
  .ite (.bin .gt (.un .abs (.var 2)) (.var 4)) [
    .ret .none] [],
  .assign 5 (.call 33 [(.call 32 [(.var 3)]), (.bin .fdiv (.bin .add (.var 4) (.var 2)) (.int 2)), (.bin .fdiv (.bin .sub (.var 4) (.var 2)) (.int 2))]),
  .ite (.or (.bin .is_ (.var 5) .none) (.bin .eq (.un .len (.bin .item (.var 5) (.int 0))) (.int 0))) [
    .ret .none] [],
  .assign 6 (.call 34 [(.bin .item (.var 5) (.int 0))]),
  .assign 7 (.call 34 [(.bin .item (.var 5) (.int 1))]),
  .ite (.or (.bin .is_ (.var 6) .none) (.or (.bin .is_ (.var 7) .none) (.not (.call 35 [(.var 0), (.var 1), (.var 6), (.var 7)])))) [
    .ret .none] [],
  .ret (.tup [(.var 6), (.var 7)])]⟩
/-- sound: 0=row 1=lacked 2=over -/
noncomputable def f_sound : Fn := ⟨3, 3, [
  .expr 21 [(.var 0)],
  .ite (.bin .gt (.un .len (.comp (.var 3) 1 .seq (.var 1) .none (.bin .notin (.var 3) (.var 0)))) (.int 0)) [
    .ret (.bool false)] [],
  .ret (.bin .eq (.un .len (.comp (.var 3) 1 .seq (.var 2) .none (.bin .isin (.var 3) (.var 0)))) (.int 0))]⟩
/-- met: 0=one 1=other 2=many 3=found -/
noncomputable def f_met : Fn := ⟨3, 4, [
  .expr 21 [(.var 0)],
  .expr 21 [(.var 1)],
  .expr 22 [(.var 2)],
  .assign 3 (.call 36 [(.var 1), (.call 24 [(.var 0), (.var 2)])]),
  .ite (.or (.bin .is_ (.var 3) .none) (.not (.call 37 [(.var 0), (.bin .item (.var 3) (.int 0)), (.bin .item (.var 3) (.int 1))]))) [
    .ret .none] [],
  .ret (.var 3)]⟩
/-- _law_odd: 0=_law_cell 1=_law_least 2=_law_most 3=_law_far -/
noncomputable def f_law_odd : Fn := ⟨3, 4, [
  .assign 3 (.bin .mod (.bin .fdiv (.var 0) (.int 9)) (.bin .pow (.int 10) (.int 20))),
  .ret (.bin .item (.list [(.bin .sub (.var 1) (.int 1)), (.bin .add (.var 2) (.int 1)), (.bin .sub (.bin .sub (.var 1) (.int 1)) (.var 3)), (.bin .add (.bin .add (.var 2) (.int 1)) (.var 3)), (.bool true), (.bool false), (.str "3"), .none, (.list [(.int 3)])]) (.bin .mod (.var 0) (.int 9)))]⟩
/-- _law_bad_letter: 0=_law_told 1=_law_cell 2=_law_more 3=_law_some 4=_law_at -/
noncomputable def f_law_bad_letter : Fn := ⟨2, 5, [
  .assign 2 (.bin .fdiv (.var 1) (.int 7)),
  .ite (.bin .eq (.bin .mod (.var 1) (.int 7)) (.int 0)) [
    .assign 3 (.list [.none, (.int 5), (.un .list (.var 0)), (.tup []), (.tup [(.bin .item (.var 0) (.int 0))]), (.bin .add (.var 0) (.tup [(.int 0)]))]),
    .ret (.bin .item (.bin .add (.var 3) (.list [(.tup [(.bin .item (.var 0) (.int 0)), .none])])) (.bin .mod (.var 2) (.int 7)))] [],
  .ite (.bin .eq (.bin .mod (.var 1) (.int 7)) (.int 1)) [
    .ret (.tup [(.call 39 [(.var 2), (.int 0), (.int 250)]), (.bin .item (.var 0) (.int 1))])] [],
  .ite (.bin .eq (.bin .mod (.var 1) (.int 7)) (.int 2)) [
    .ret (.tup [(.bin .item (.var 0) (.int 0)), (.tup [])])] [],
  .ite (.bin .eq (.bin .mod (.var 1) (.int 7)) (.int 3)) [
    .ret (.tup [(.bin .item (.var 0) (.int 0)), (.un .tuple (.bin .mul (.list [(.int 0)]) (.bin .add (.int 13) (.bin .mod (.var 2) (.int 9)))))])] [],
  .ite (.bin .eq (.bin .mod (.var 1) (.int 7)) (.int 4)) [
    .ret (.tup [(.bin .item (.var 0) (.int 0)), (.un .list (.bin .item (.var 0) (.int 1)))])] [],
  .assign 4 (.bin .mod (.var 2) (.un .len (.bin .item (.var 0) (.int 1)))),
  .ret (.tup [(.bin .item (.var 0) (.int 0)), (.bin .add (.bin .add (.slice (.bin .item (.var 0) (.int 1)) .none (.var 4)) (.tup [(.call 39 [(.bin .fdiv (.var 2) (.int 12)), (.int 0), (.int 250)])])) (.slice (.bin .item (.var 0) (.int 1)) (.bin .add (.var 4) (.int 1)) .none))])]⟩
/-- _law_called: 0=_law_way 1=_law_row_here 2=_law_other 3=_law_many 4=_law_told -/
noncomputable def f_law_called : Fn := ⟨5, 5, [
  .ite (.bin .eq (.var 0) (.int 0)) [
    .expr 24 [(.var 1), (.var 3)]] [
    .ite (.bin .eq (.var 0) (.int 1)) [
      .expr 29 [(.var 1), (.var 4)]] [
      .ite (.bin .eq (.var 0) (.int 2)) [
        .expr 36 [(.var 1), (.var 4)]] [
        .ite (.bin .eq (.var 0) (.int 3)) [
          .expr 37 [(.var 1), (.list [(.int 1), (.int 2)]), (.list [(.int 3)])]] [
          .expr 38 [(.var 1), (.var 2), (.var 3)]]]]]]⟩
/-- _law_some: 0=_law_row_here 1=_law_cell 2=_law_is_in 3=_law_found 4=_law_odd 5=_law_k 6=_law_number -/
noncomputable def f_law_some : Fn := ⟨3, 7, [
  .assign 3 (.list []),
  .assign 4 (.bin .mod (.bin .fdiv (.var 1) (.int 6)) (.int 8)),
  .each [5] .range (.int 0) (.bin .mod (.var 1) (.int 6)) [
    .assign 6 (.bin .add (.int 1) (.bin .mod (.bin .mod (.bin .mul (.bin .add (.bin .fdiv (.var 1) (.int 48)) (.bin .mul (.int 7919) (.var 5))) (.int 48271)) (.int 1000003)) (.int 250))),
    .ite (.and (.bin .ne (.bin .eq (.var 5) (.var 4)) (.var 2)) (.bin .ne (.var 0) (.list []))) [
      .assign 6 (.bin .item (.var 0) (.bin .mod (.bin .add (.bin .fdiv (.var 1) (.int 48)) (.bin .mul (.int 31) (.var 5))) (.un .len (.var 0))))] [
      .ite (.bin .lt (.un .len (.var 0)) (.int 250)) [
        .loop (.bin .isin (.var 6) (.var 0)) [
          .assign 6 (.bin .add (.int 1) (.bin .mod (.var 6) (.int 250)))]] []],
    .ite (.and (.bin .eq (.bin .mod (.bin .fdiv (.var 1) (.int 48)) (.int 5)) (.int 1)) (.bin .eq (.var 5) (.var 4))) [
      .assign 6 (.bin .item (.list [(.int 0), (.int 251), (.un .neg (.int 1)), (.bin .add (.int 250) (.var 6)), (.bin .sub (.int 0) (.var 6)), (.bin .pow (.int 10) (.int 20))]) (.bin .mod (.bin .fdiv (.var 1) (.int 240)) (.int 6)))] [],
    .append (.var 3) (.var 6)],
  .ret (.var 3)]⟩
/-- _law_bad_row: 0=_law_row_here 1=_law_cell 2=_law_at 3=_law_again 4=_law_odd_here -/
noncomputable def f_law_bad_row : Fn := ⟨2, 5, [
  .ite (.bin .eq (.bin .mod (.var 1) (.int 6)) (.int 0)) [
    .ret (.bin .item (.list [.none, (.int 7), (.str "1"), (.tup [(.int 1), (.int 2)]), .dct, (.bool true)]) (.bin .mod (.bin .fdiv (.var 1) (.int 6)) (.int 6)))] [],
  .assign 2 (.bin .mod (.bin .fdiv (.var 1) (.int 6)) (.bin .add (.un .len (.var 0)) (.int 1))),
  .ite (.and (.bin .lt (.bin .mod (.var 1) (.int 6)) (.int 3)) (.bin .ne (.var 0) (.list []))) [
    .assign 3 (.bin .item (.var 0) (.bin .mod (.bin .fdiv (.bin .fdiv (.var 1) (.int 6)) (.int 26)) (.un .len (.var 0)))),
    .ret (.bin .add (.bin .add (.slice (.var 0) .none (.var 2)) (.list [(.var 3)])) (.slice (.var 0) (.var 2) .none))] [],
  .assign 4 (.call 39 [(.bin .fdiv (.bin .fdiv (.var 1) (.int 6)) (.int 26)), (.int 1), (.int 250)]),
  .ret (.bin .add (.bin .add (.slice (.var 0) .none (.var 2)) (.list [(.var 4)])) (.slice (.var 0) (.var 2) .none))]⟩
/-- law 07, all but its last line: 0=_law_script 1=_law_row_here 2=_law_other 3=_law_many 4=_law_told 5=_law_pick 6=_law_way 7=_law_due 8=_law_kept -/
noncomputable def f_law_07 : Fn := ⟨1, 9, [
  .assign 1 (.call 25 [(.var 0), (.int 0), (.int 9)]),
  .assign 2 (.call 25 [(.var 0), (.int 1), (.int 9)]),
  .assign 3 (.bin .add (.int 1) (.bin .mod (.call 3 [(.var 0), (.int 2)]) (.int 12))),
  .assign 4 (.tup [(.un .len (.var 2)), (.un .tuple (.call 26 [(.var 2), (.var 3)]))]),
  .assign 5 (.call 3 [(.var 0), (.int 3)]),
  .assign 6 (.bin .mod (.var 5) (.int 5)),
  .assign 7 (.str ""),
  .ite (.and (.bin .eq (.bin .mod (.bin .fdiv (.var 5) (.int 5)) (.int 3)) (.int 1)) (.bin .isin (.var 6) (.list [(.int 1), (.int 2)]))) [
    .assign 4 (.call 40 [(.var 4), (.call 3 [(.var 0), (.int 4)])]),
    .assign 7 (.str "letter")] [],
  .ite (.and (.bin .eq (.bin .mod (.bin .fdiv (.var 5) (.int 5)) (.int 3)) (.int 1)) (.bin .isin (.var 6) (.list [(.int 0), (.int 4)]))) [
    .assign 3 (.call 39 [(.call 3 [(.var 0), (.int 4)]), (.int 1), (.int 12)]),
    .assign 7 (.str "count")] [],
  .ite (.and (.bin .eq (.bin .mod (.bin .fdiv (.var 5) (.int 15)) (.int 3)) (.int 1)) (.bin .eq (.var 6) (.int 4))) [
    .assign 2 (.call 68 [(.var 2), (.call 3 [(.var 0), (.int 5)])]),
    .assign 7 (.str "row")] [],
  .ite (.bin .eq (.bin .mod (.bin .fdiv (.var 5) (.int 45)) (.int 3)) (.int 1)) [
    .assign 1 (.call 68 [(.var 1), (.call 3 [(.var 0), (.int 6)])]),
    .assign 7 (.str "row")] [],
  .assign 8 (.bin .add (.bin .add (.un .text (.var 1)) (.un .text (.var 2))) (.un .text (.var 4)))]⟩
noncomputable def w_args : List X := [(.var 6), (.var 1), (.var 2), (.var 3), (.var 4)]
noncomputable def w_same : X := (.bin .eq (.bin .add (.bin .add (.un .text (.var 1)) (.un .text (.var 2))) (.un .text (.var 4))) (.var 8))

noncomputable def T : Nat → Option Fn
  | 0 => some f_power
  | 1 => some f_inverse
  | 2 => some f_law_whole
  | 3 => some f_law_cell_at
  | 4 => some f_law_rests
  | 6 => some f_value
  | 7 => some f_roots
  | 8 => some f_law_poly
  | 9 => some f_law_times
  | 10 => some f_law_value
  | 13 => some f_trimmed
  | 14 => some f_times
  | 16 => some f_divided
  | 17 => some f_law_added
  | 18 => some f_law_is_poly
  | 20 => some f_is_whole
  | 21 => some f_need_row
  | 22 => some f_need_count
  | 23 => some f_sums_of
  | 24 => some f_letter
  | 25 => some f_law_row
  | 26 => some f_law_sums
  | 28 => some f_need_letter
  | 29 => some f_gaps
  | 31 => some f_less
  | 32 => some f_series
  | 33 => some f_fraction
  | 34 => some f_numbers_of
  | 35 => some f_is_find
  | 36 => some f_learnt
  | 37 => some f_sound
  | 38 => some f_met
  | 39 => some f_law_odd
  | 40 => some f_law_bad_letter
  | 41 => some f_law_called
  | 62 => some f_law_some
  | 68 => some f_law_bad_row
  | _ => none

noncomputable def D07 : Tabs := ⟨[("is_whole", 20), ("power", 0), ("inverse", 1), ("need_row", 21), ("need_count", 22), ("need_letter", 28), ("sums_of", 23), ("letter", 24), ("gaps", 29), ("trimmed", 13), ("value", 6), ("roots", 7), ("times", 14), ("less", 31), ("divided", 16), ("series", 32), ("fraction", 33), ("numbers_of", 34), ("is_find", 35), ("learnt", 36), ("sound", 37), ("met", 38), ("_law_whole", 2), ("_law_cell_at", 3), ("_law_rests", 4), ("_law_row", 25), ("_law_sums", 26), ("_law_odd", 39), ("_law_bad_letter", 40), ("_law_bad_row", 68), ("_law_called", 41)], [("PRIME", 251), ("MOST_SUMS", 12)], true, false, [("BadRow", 0), ("BadCount", 1), ("BadLetter", 2)]⟩

end Mine

open PySem
namespace Mine

noncomputable def LeP (P P' : PV) : Prop := ∀ v H, P v H → P' v H
noncomputable def LeF (P P' : PF) : Prop := ∀ f m H, P f m H → P' f m H
noncomputable def LeC (C C' : Calls) : Prop := ∀ k vs H P P', LeP P P' → C k vs H P → C' k vs H P'

theorem mono_int {v : V} {F G : Int → Prop} (h : ∀ a, F a → G a) (q : intV v F) : intV v G := optV_mono h q
theorem mono_ref {v : V} {H : Hp} {F G : List V → Prop} (h : ∀ a, F a → G a) (q : refV v H F) : refV v H G := optV_mono (fun _ q => optV_mono h q) q
theorem mono_ii {v w : V} {F G : Int → Int → Prop} (h : ∀ a b, F a b → G a b) (q : intV v fun a => intV w fun b => F a b) : intV v fun a => intV w fun b => G a b := mono_int (fun a q => mono_int (fun b q => h a b q) q) q
theorem monoT {v : V} {H : Hp} {P P' : PV} (h : LeP P P') (q : textD v H P) : textD v H P' := optV_mono (fun _ q => ⟨q.1, q.2.1, h _ _ q.2.2⟩) q
theorem monoU {op : U} {v : V} {H : Hp} {P P' : PV} (h : LeP P P') (q : wpU op v H P) : wpU op v H P' := by
  cases op with
  | neg => exact mono_int (fun _ q => h _ _ q) q
  | abs => exact mono_int (fun _ q => h _ _ q) q
  | len => cases v with
    | ref k => exact optV_mono (fun _ q => h _ _ q) q
    | tup vs => exact h _ _ q
    | frz xs => exact h _ _ q
    | _ => exact q.elim
  | list => cases v with
    | ref k => exact optV_mono (fun _ q => h _ _ q) q
    | tup vs => exact h _ _ q
    | _ => exact q.elim
  | tuple => exact mono_ref (fun _ q => h _ _ q) q
  | rev => exact mono_ref (fun _ q => h _ _ q) q
  | sum => exact mono_ref (fun _ q => optV_mono (fun _ q => h _ _ q) q) q
  | sorted => exact mono_ref (fun _ q => optV_mono (fun _ q => ⟨q.1, fun a b c => h _ _ (q.2 a b c)⟩) q) q
  | nset => exact mono_ref (fun _ q => optV_mono (fun _ q => ⟨q.1, fun a b c => h _ _ (q.2 a b c)⟩) q) q
  | text => cases v with
    | str x => exact h _ _ q
    | dct => exact h _ _ q
    | frz _ => exact q.elim
    | none => exact monoT (v := .none) (H := H) h q
    | bool b => exact monoT (v := .bool b) (H := H) h q
    | int i => exact monoT (v := .int i) (H := H) h q
    | tup t => exact monoT (v := .tup t) (H := H) h q
    | ref k => exact monoT (v := .ref k) (H := H) h q
  | isInt => exact h _ _ q
  | isBool => exact h _ _ q
  | isList => exact h _ _ q
  | isTuple => exact h _ _ q
  | _ => exact q.elim

theorem monoB {op : B} {v w : V} {H : Hp} {P P' : PV} (h : LeP P P') (q : wpB op v w H P) : wpB op v w H P' := by
  cases op with
  | add => cases v with
    | int a => exact mono_int (fun _ q => h _ _ q) q
    | ref k => exact optV_mono (fun _ q => mono_ref (fun _ q => ⟨q.1, h _ _ q.2⟩) q) q
    | tup xs => exact optV_mono (fun _ q => ⟨q.1, h _ _ q.2⟩) q
    | str x => exact optV_mono (fun _ q => ⟨q.1, h _ _ q.2⟩) q
    | _ => exact q.elim
  | sub => exact mono_ii (fun _ _ q => h _ _ q) q
  | mul => cases v with
    | int a => exact mono_int (fun _ q => ⟨q.1, h _ _ q.2⟩) q
    | ref k => exact optV_mono (fun _ q => optV_mono (fun _ q => mono_int (fun _ q => ⟨q.1, q.2.1, h _ _ q.2.2⟩) q) q) q
    | _ => exact q.elim
  | fdiv => exact mono_ii (fun _ _ q => ⟨q.1, q.2.1, h _ _ q.2.2⟩) q
  | mod => exact mono_ii (fun _ _ q => ⟨q.1, h _ _ q.2⟩) q
  | pow => exact mono_ii (fun _ _ q => ⟨q.1, q.2.1, h _ _ q.2.2⟩) q
  | eq =>
    replace q : eqV v w H P := q
    show eqV v w H P'
    unfold eqV at q ⊢
    split at q
    · exact optV_mono (fun _ q => h _ _ q) q
    · exact optV_mono (fun _ q => optV_mono (fun _ q => h _ _ q) q) q
  | ne => exact optV_mono (fun _ q => optV_mono (fun _ q => h _ _ q) q) q
  | lt => exact mono_ii (fun _ _ q => h _ _ q) q
  | le => exact mono_ii (fun _ _ q => h _ _ q) q
  | gt => exact mono_ii (fun _ _ q => h _ _ q) q
  | ge => exact mono_ii (fun _ _ q => h _ _ q) q
  | isin => exact mono_int (fun _ q => mono_ref (fun _ q => optV_mono (fun _ q => h _ _ q) q) q) q
  | notin => exact mono_int (fun _ q => mono_ref (fun _ q => optV_mono (fun _ q => h _ _ q) q) q) q
  | is_ => exact ⟨q.1, h _ _ q.2⟩
  | isnot => exact q
  | item => refine mono_int (fun i q => ?_) q
            cases v with
            | ref k => exact optV_mono (fun _ q => optV_mono (fun _ q => optV_mono (fun _ q => h _ _ q) q) q) q
            | tup vs => exact optV_mono (fun _ q => optV_mono (fun _ q => h _ _ q) q) q
            | frz xs => exact optV_mono (fun _ q => optV_mono (fun _ q => h _ _ q) q) q
            | _ => exact q.elim
  | max => exact mono_ii (fun _ _ q => h _ _ q) q
  | min => exact q
  | _ => exact q.elim

theorem monoComp {cond elt cond' elt' : V → Hp → PV → Prop} (hc : ∀ v H P P', LeP P P' → cond v H P → cond' v H P') (he : ∀ v H P P', LeP P P' → elt v H P → elt' v H P') {src : List (Nat × List V)} :
    ∀ {vs acc : List V} {H : Hp} {P P' : PV}, LeP P P' → wpComp cond elt src vs acc H P → wpComp cond' elt' src vs acc H P'
  | [], acc, H, P, P', h, q => ⟨q.1, h _ _ q.2⟩
  | v :: r, acc, H, P, P', h, q => ⟨q.1, hc _ _ _ _ (fun c H₁ q => by
      split at q
      · exact he _ _ _ _ (fun y H₂ q => monoComp hc he h q) q
      · exact monoComp hc he h q
      · exact q.elim) q.2⟩

theorem monoZip {elt elt' : Int → Int → (V → Prop) → Prop} (he : ∀ x y (P P' : V → Prop), (∀ v, P v → P' v) → elt x y P → elt' x y P') :
    ∀ {xs ys : List Int} {acc : List V} {P P' : List V → Prop}, (∀ l, P l → P' l) → wpZip elt xs ys acc P → wpZip elt' xs ys acc P'
  | x :: xs, y :: ys, acc, P, P', h, q => he _ _ _ _ (fun v q => by
      split at q
      · exact monoZip he h q
      · exact q.elim) q
  | [], _, acc, P, P', h, q => h _ q
  | _ :: _, [], acc, P, P', h, q => h _ q

/-- the branches -/
theorem br {o : Option Bool} {A B A' B' : Prop} (h1 : A → A') (h2 : B → B') (q : match (generalizing := false) o with | some true => A | some false => B | none => False) : (match (generalizing := false) o with | some true => A' | some false => B' | none => False) := by
  cases o with
  | none => exact q
  | some b => cases b with
    | true => exact h1 q
    | false => exact h2 q
theorem opB {o : Option Bool} {F G : Bool → Prop} (h : ∀ x, F x → G x) (q : match (generalizing := false) o with | some x => F x | none => False) : (match (generalizing := false) o with | some x => G x | none => False) := by
  cases o with
  | none => exact q
  | some x => exact h x q
theorem opM {o : Option Loc} {F G : Loc → Prop} (h : ∀ x, F x → G x) (q : match (generalizing := false) o with | some x => F x | none => False) : (match (generalizing := false) o with | some x => G x | none => False) := by
  cases o with
  | none => exact q
  | some x => exact h x q
theorem opL {o : Option (List V)} {F G : List V → Prop} (h : ∀ x, F x → G x) (q : match (generalizing := false) o with | some x => F x | none => False) : (match (generalizing := false) o with | some x => G x | none => False) := by
  cases o with
  | none => exact q
  | some x => exact h x q
theorem op2 {o : Option (List V × List (Nat × List V))} {F G : List V → List (Nat × List V) → Prop} (h : ∀ x y, F x y → G x y) (q : match (generalizing := false) o with | some (x, y) => F x y | none => False) : (match (generalizing := false) o with | some (x, y) => G x y | none => False) := by
  cases o with
  | none => exact q
  | some p => exact h p.1 p.2 q
theorem tupSl_mono {vs : List V} {l r : Option Int} {F G : List V → Prop} (h : ∀ us, F us → G us) (q : tupSl vs l r F) : tupSl vs l r G := by
  cases l with
  | none => cases r with
    | none => exact q
    | some b => exact ⟨q.1, q.2.1, h _ q.2.2⟩
  | some a => cases r with
    | none => exact ⟨q.1, q.2.1, h _ q.2.2⟩
    | some _ => exact q
theorem sl_mono {H₃ : Hp} {P P' : PV} (hp : LeP P P') {v : V} {l r : Option (Option Int)} (q : match (generalizing := false) v, l, r with
    | .ref k, some l, some h => (match H₃[k]? with
      | some vs => P (.ref H₃.length) (H₃ ++ [picked vs l h])
      | Option.none => False)
    | .tup vs, some l, some h => tupSl vs l h fun us => P (.tup us) H₃
    | _, _, _ => False) : (match (generalizing := false) v, l, r with
    | .ref k, some l, some h => (match H₃[k]? with
      | some vs => P' (.ref H₃.length) (H₃ ++ [picked vs l h])
      | Option.none => False)
    | .tup vs, some l, some h => tupSl vs l h fun us => P' (.tup us) H₃
    | _, _, _ => False) := by
  cases v with
  | ref k => cases l with
    | none => exact q
    | some l => cases r with
      | none => exact q
      | some r => exact opL (o := H₃[k]?) (fun vs q => hp _ _ q) q
  | tup vs => cases l with
    | none => exact q
    | some l => cases r with
      | none => exact q
      | some r => exact tupSl_mono (fun us q => hp _ _ q) q
  | _ => exact q
theorem var_mono {o : Option (Option V)} {F G : V → Prop} (h : ∀ x, F x → G x) (q : match (generalizing := false) o with | some (some v) => F v | _ => False) : (match (generalizing := false) o with | some (some v) => G v | _ => False) := by
  cases o with
  | none => exact q
  | some x => cases x with
    | none => exact q
    | some v => exact h v q
mutual
theorem ZX {C C' : Calls} (hC : LeC C C') : ∀ (e : X) {m : Loc} {H : Hp} {P P' : PV}, LeP P P' → wpE C e m H P → wpE C' e m H P'
  | .none, _, _, _, _, h, q => h _ _ q
  | .bool _, _, _, _, _, h, q => h _ _ q
  | .int _, _, _, _, _, h, q => h _ _ q
  | .dct, _, _, _, _, h, q => h _ _ q
  | .str _, _, _, _, _, h, q => h _ _ q
  | .glob _, _, _, _, _, _, q => False.elim q
  | .var i, m, _, _, _, h, q => var_mono (fun _ q => h _ _ q) q
  | .un op e, m, H, P, P', h, q => ZX hC e (fun v H₁ q => monoU h q) q
  | .bin op a b, m, H, P, P', h, q => ZX hC a (fun v H₁ q => ZX hC b (fun w H₂ q => monoB h q) q) q
  | .chain op₁ op₂ a b c, m, H, P, P', h, q => ZX hC a (fun v H₁ q => ZX hC b (fun w H₂ q => monoB (fun t H₃ q => br (fun q => ZX hC c (fun z H₄ q => monoB h q) q) (fun q => h _ _ q) q) q) q) q
  | .not e, m, H, P, P', h, q => ZX hC e (fun v H₁ q => opB (fun _ q => h _ _ q) q) q
  | .and a b, m, H, P, P', h, q => ZX hC a (fun v H₁ q => br (fun q => ZX hC b h q) (fun q => h _ _ q) q) q
  | .or a b, m, H, P, P', h, q => ZX hC a (fun v H₁ q => br (fun q => h _ _ q) (fun q => ZX hC b h q) q) q
  | .ite t a b, m, H, P, P', h, q => ZX hC t (fun v H₁ q => br (fun q => ZX hC a h q) (fun q => ZX hC b h q) q) q
  | .call f args, m, H, P, P', h, q => monoEs hC args (fun vs H₁ q => hC _ _ _ _ _ h q) q
  | .list es, m, H, P, P', h, q => monoEs hC es (fun vs H₁ q => h _ _ q) q
  | .tup es, m, H, P, P', h, q => monoEs hC es (fun vs H₁ q => h _ _ q) q
  | .slice e lo hi, m, H, P, P', h, q => ZX hC e (fun v H₁ q => ZX hC lo (fun a H₂ q => ZX hC hi (fun b H₃ q => sl_mono h q) q) q) q
  | .comp elt n it a b cond, m, H, P, P', h, q => ZX hC a (fun v H₁ q => ZX hC b (fun w H₂ q => op2 (fun vs src q => monoComp (fun v H P P' h q => opM (fun _ q => ZX hC cond h q) q) (fun v H P P' h q => opM (fun _ q => ZX hC elt h q) q) h q) q) q) q
  | .zcomp elt a b, m, H, P, P', h, q => ZX hC a (fun v H₁ q => ZX hC b (fun w H₂ q =>
    optV_mono (fun _ q => mono_ref (fun _ q => optV_mono (fun _ q => optV_mono (fun _ q => ⟨q.1, monoZip (fun x y P P' h q => ZX (m := [some (.int x), some (.int y)]) (H := []) hC elt (fun v _ q => h v q) q) (fun l q => h (.ref H₂.length) (H₂ ++ [l]) q) q.2⟩) q) q) q) q) q) q
theorem monoEs {C C' : Calls} (hC : LeC C C') : ∀ (es : List X) {m : Loc} {H : Hp} {P P' : List V → Hp → Prop}, (∀ vs H, P vs H → P' vs H) → wpEs C es m H P → wpEs C' es m H P'
  | [], _, _, _, _, h, q => h _ _ q
  | e :: r, m, H, P, P', h, q => ZX hC e (fun v H₁ q => monoEs hC r (fun vs H₂ q => h _ _ q) q) q
end

theorem monoLoop {test test' : Loc → Hp → PV → Prop} {body body' : Loc → Hp → PF → Prop} (ht : ∀ m H P P', LeP P P' → test m H P → test' m H P') (hb : ∀ m H P P', LeF P P' → body m H P → body' m H P') {Q Q' : PF} (h : LeF Q Q') :
    ∀ (n : Nat) {m : Loc} {H : Hp}, wpLoop test body Q n m H → wpLoop test' body' Q' n m H
  | 0, _, _, q => q.elim
  | n + 1, m, H, q => ht _ _ _ _ (fun c H₁ q => by
      split at q
      · refine hb _ _ _ _ (fun f m' H' q => ?_) q
        cases f with
        | next => exact monoLoop ht hb h n q
        | ret v => exact h _ _ _ q
      · exact h _ _ _ q
      · exact q.elim) q

theorem monoEach {is : List Nat} {body body' : Loc → Hp → PF → Prop} (hb : ∀ m H P P', LeF P P' → body m H P → body' m H P') {src : List (Nat × List V)} {Q Q' : PF} (h : LeF Q Q') :
    ∀ (vs : List V) {m : Loc} {H : Hp}, wpEach is body src Q vs m H → wpEach is body' src Q' vs m H
  | [], _, _, q => ⟨q.1, h _ _ _ q.2⟩
  | v :: r, m, H, q => ⟨q.1, by
      have q := q.2
      split at q
      · refine hb _ _ _ _ (fun f m' H' q => ?_) q
        cases f with
        | next => exact monoEach hb h r q
        | ret v => exact h _ _ _ q
      · exact q.elim⟩

mutual
theorem monoS {C C' : Calls} (hC : LeC C C') : ∀ (s : S) {m : Loc} {H : Hp} {Q Q' : PF}, LeF Q Q' → wpS C s m H Q → wpS C' s m H Q'
  | .assign i e, _, _, _, _, h, q => by simp only [ws_assign, ws_unpack, ws_setItem, ws_append, ws_expr, ws_ite, ws_loop, ws_each, ws_ret, ws_raise] at q ⊢; exact ZX hC e (fun v H₁ q => h _ _ _ q) q
  | .unpack is e, _, _, _, _, h, q => by
    simp only [ws_assign, ws_unpack, ws_setItem, ws_append, ws_expr, ws_ite, ws_loop, ws_each, ws_ret, ws_raise] at q ⊢
    refine ZX hC e (fun v H₁ q => ?_) q
    split at q
    · exact h _ _ _ q
    · exact q.elim
  | .setItem a i e, _, _, _, _, h, q => by
    simp only [ws_assign, ws_unpack, ws_setItem, ws_append, ws_expr, ws_ite, ws_loop, ws_each, ws_ret, ws_raise] at q ⊢
    refine ZX hC e (fun v H₁ q => ZX hC a (fun r H₂ q => ZX hC i (fun w H₃ q => ?_) q) q) q
    split at q
    · split at q
      · exact ⟨q.1, q.2.1, h _ _ _ q.2.2⟩
      · exact q.elim
    · exact q.elim
  | .append a e, _, _, _, _, h, q => by
    simp only [ws_assign, ws_unpack, ws_setItem, ws_append, ws_expr, ws_ite, ws_loop, ws_each, ws_ret, ws_raise] at q ⊢
    refine ZX hC a (fun r H₁ q => ?_) q
    split at q
    · refine ZX hC e (fun v H₂ q => ?_) q
      split at q
      · exact ⟨q.1, h _ _ _ q.2⟩
      · exact q.elim
    · exact q.elim
  | .expr f as, _, _, _, _, h, q => by
    simp only [ws_assign, ws_unpack, ws_setItem, ws_append, ws_expr, ws_ite, ws_loop, ws_each, ws_ret, ws_raise] at q ⊢
    exact monoEs hC as (fun vs H₁ q => hC _ _ _ _ _ (fun v H₂ q => h _ _ _ q) q) q
  | .ite t b c, _, _, _, _, h, q => by
    simp only [ws_assign, ws_unpack, ws_setItem, ws_append, ws_expr, ws_ite, ws_loop, ws_each, ws_ret, ws_raise] at q ⊢
    refine ZX hC t (fun v H₁ q => ?_) q
    split at q
    · exact monoSs hC b h q
    · exact monoSs hC c h q
    · exact q.elim
  | .loop t b, _, _, _, _, h, q => by
    simp only [ws_assign, ws_unpack, ws_setItem, ws_append, ws_expr, ws_ite, ws_loop, ws_each, ws_ret, ws_raise] at q ⊢
    obtain ⟨n, q⟩ := q
    exact ⟨n, monoLoop (fun m H P P' h q => ZX (m := m) (H := H) hC t h q) (fun m H P P' h q => monoSs (m := m) (H := H) hC b h q) h n q⟩
  | .each is it a c b, _, _, _, _, h, q => by
    simp only [ws_assign, ws_unpack, ws_setItem, ws_append, ws_expr, ws_ite, ws_loop, ws_each, ws_ret, ws_raise] at q ⊢
    refine ZX hC a (fun v H₁ q => ZX hC c (fun w H₂ q => ?_) q) q
    split at q
    · exact monoEach (fun m H P P' h q => monoSs (m := m) (H := H) hC b h q) h _ q
    · exact q.elim
  | .ret e, _, _, _, _, h, q => by simp only [ws_assign, ws_unpack, ws_setItem, ws_append, ws_expr, ws_ite, ws_loop, ws_each, ws_ret, ws_raise] at q ⊢; exact ZX hC e (fun v H₁ q => h _ _ _ q) q
  | .raise _, _, _, _, _, _, q => by simp only [ws_assign, ws_unpack, ws_setItem, ws_append, ws_expr, ws_ite, ws_loop, ws_each, ws_ret, ws_raise] at q
theorem monoSs {C C' : Calls} (hC : LeC C C') : ∀ (l : List S) {m : Loc} {H : Hp} {Q Q' : PF}, LeF Q Q' → wpSs C l m H Q → wpSs C' l m H Q'
  | [], _, _, _, _, h, q => by simp only [wss_nil, wss_cons] at q ⊢; exact h _ _ _ q
  | s :: r, _, _, _, _, h, q => by
    simp only [wss_nil, wss_cons] at q ⊢
    refine monoS hC s (fun f m' H' q => ?_) q
    cases f with
    | next => exact monoSs hC r h q
    | ret v => exact h _ _ _ q
end

theorem run_le (T : Nat → Option Fn) : ∀ {n n' : Nat}, n ≤ n' → LeC (run T n) (run T n')
  | 0, _, _ => fun _ _ _ _ _ _ q => q.elim
  | n + 1, 0, h => by lia
  | n + 1, n' + 1, h => fun k vs H P P' hp q => by
    cases ht : T k with
    | none => exact False.elim (by rw [show run T (n + 1) k vs H P = (match T k with | some d => _ | none => False) from rfl, ht] at q; exact q)
    | some d =>
      rw [run_at ht] at q ⊢
      refine ⟨q.1, q.2.1, monoSs (run_le T (Nat.le_of_succ_le_succ h)) _ (fun fl m' H' q => ?_) q.2.2⟩
      cases fl with
      | next => exact hp _ _ q
      | ret v => exact hp _ _ q

set_option tactic.hygienic true
/-! ## loops by what stays true -/
theorem each_inv {is : List Nat} {body : Loc → Hp → PF → Prop} (hb : ∀ m H P P', LeF P P' → body m H P → body m H P') {src : List (Nat × List V)} {Q : PF} (I : Nat → Loc → Hp → Prop) (vs : List V)
    (hs : ∀ k m H, I k m H → Still src H)
    (step : ∀ k v m H, vs[k]? = some v → I k m H → ∃ m₁, put is v m = some m₁ ∧ body m₁ H fun f m' H' => match f with | .next => I (k + 1) m' H' | .ret x => Q (.ret x) m' H')
    (fin : ∀ m H, I vs.length m H → Q .next m H) {m : Loc} {H : Hp} (h0 : I 0 m H) : wpEach is body src Q vs m H := by
  suffices ∀ (r pre : List V) (m : Loc) (H : Hp), vs = pre ++ r → I pre.length m H → wpEach is body src Q r m H from this vs [] m H rfl h0
  intro r
  induction r with
  | nil =>
    intro pre m H e hi
    refine ⟨hs _ _ _ hi, fin _ _ ?_⟩
    rw [e]; simpa using hi
  | cons v r ih =>
    intro pre m H e hi
    refine ⟨hs _ _ _ hi, ?_⟩
    obtain ⟨m₁, e1, q⟩ := step pre.length v m H (by rw [e]; simp) hi
    rw [e1]
    refine hb _ _ _ _ (fun f m' H' q => ?_) q
    cases f with
    | next => exact ih (pre ++ [v]) m' H' (by simp [e]) (by simpa using q)
    | ret x => exact q
set_option tactic.hygienic false

set_option tactic.hygienic true
theorem loop_inv {test : Loc → Hp → PV → Prop} {body : Loc → Hp → PF → Prop} (ht : ∀ m H P P', LeP P P' → test m H P → test m H P') (hb : ∀ m H P P', LeF P P' → body m H P → body m H P') {Q : PF} (I : Nat → Loc → Hp → Prop)
    (step : ∀ k m H, I k m H → test m H fun c H₁ => match truth c with
      | some true => body m H₁ fun f m' H' => match f with | .next => ∃ k', k' < k ∧ I k' m' H' | .ret x => Q (.ret x) m' H'
      | some false => Q .next m H₁
      | Option.none => False) :
    ∀ (n k : Nat) (m : Loc) (H : Hp), k < n → I k m H → wpLoop test body Q n m H
  | 0, _, _, _, h, _ => by lia
  | n + 1, k, m, H, h, hi => ht _ _ _ _ (fun c H₁ q => by
      split at q
      · rename_i e; (try simp only [e])
        refine hb _ _ _ _ (fun f m' H' q => ?_) q
        cases f with
        | next =>
          obtain ⟨k', hk, hi'⟩ := q
          exact loop_inv ht hb I step n k' m' H' (by lia) hi'
        | ret x => exact q
      · rename_i e; (try simp only [e]); exact q
      · exact q.elim) (step k m H hi)
set_option tactic.hygienic false

end Mine

open PySem
namespace Mine

/-! ## rules to step through a text -/
noncomputable def at? (m : Loc) (i : Nat) (P : V → Prop) : Prop := match m[i]? with | some (some v) => P v | _ => False
noncomputable def branch (v : V) (A B : Prop) : Prop := match truth v with | some true => A | some false => B | Option.none => False
noncomputable def withL (H : Hp) (k : Nat) (F : List V → Prop) : Prop := match H[k]? with | some vs => F vs | Option.none => False
noncomputable def withI (vs : List V) (F : List Int → Prop) : Prop := match zl? vs with | some is => F is | Option.none => False

theorem optV_L {H : Hp} {k : Nat} {F : List V → Prop} : optV H[k]? F = withL H k F := by unfold withL; cases H[k]? <;> rfl
theorem optV_I {vs : List V} {F : List Int → Prop} : optV (zl? vs) F = withI vs F := by unfold withI; cases zl? vs <;> rfl
theorem Zx {v : V} {m : Loc} {P : V → Prop} : at? (some v :: m) 0 P = P v := rfl
theorem ZJ {a0 : Option V} {v : V} {m : Loc} {P : V → Prop} : at? (a0 :: some v :: m) 1 P = P v := rfl
theorem Yc {a0 a1 : Option V} {v : V} {m : Loc} {P : V → Prop} : at? (a0 :: a1 :: some v :: m) 2 P = P v := rfl
theorem at_3 {a0 a1 a2 : Option V} {v : V} {m : Loc} {P : V → Prop} : at? (a0 :: a1 :: a2 :: some v :: m) 3 P = P v := rfl
theorem at_4 {a0 a1 a2 a3 : Option V} {v : V} {m : Loc} {P : V → Prop} : at? (a0 :: a1 :: a2 :: a3 :: some v :: m) 4 P = P v := rfl
theorem at_5 {a0 a1 a2 a3 a4 : Option V} {v : V} {m : Loc} {P : V → Prop} : at? (a0 :: a1 :: a2 :: a3 :: a4 :: some v :: m) 5 P = P v := rfl
theorem at_6 {a0 a1 a2 a3 a4 a5 : Option V} {v : V} {m : Loc} {P : V → Prop} : at? (a0 :: a1 :: a2 :: a3 :: a4 :: a5 :: some v :: m) 6 P = P v := rfl
theorem at_7 {a0 a1 a2 a3 a4 a5 a6 : Option V} {v : V} {m : Loc} {P : V → Prop} : at? (a0 :: a1 :: a2 :: a3 :: a4 :: a5 :: a6 :: some v :: m) 7 P = P v := rfl
theorem at_8 {a0 a1 a2 a3 a4 a5 a6 a7 : Option V} {v : V} {m : Loc} {P : V → Prop} : at? (a0 :: a1 :: a2 :: a3 :: a4 :: a5 :: a6 :: a7 :: some v :: m) 8 P = P v := rfl
theorem at_9 {a0 a1 a2 a3 a4 a5 a6 a7 a8 : Option V} {v : V} {m : Loc} {P : V → Prop} : at? (a0 :: a1 :: a2 :: a3 :: a4 :: a5 :: a6 :: a7 :: a8 :: some v :: m) 9 P = P v := rfl
theorem at_10 {a0 a1 a2 a3 a4 a5 a6 a7 a8 a9 : Option V} {v : V} {m : Loc} {P : V → Prop} : at? (a0 :: a1 :: a2 :: a3 :: a4 :: a5 :: a6 :: a7 :: a8 :: a9 :: some v :: m) 10 P = P v := rfl
theorem at_11 {a0 a1 a2 a3 a4 a5 a6 a7 a8 a9 a10 : Option V} {v : V} {m : Loc} {P : V → Prop} : at? (a0 :: a1 :: a2 :: a3 :: a4 :: a5 :: a6 :: a7 :: a8 :: a9 :: a10 :: some v :: m) 11 P = P v := rfl
theorem set_1 {a0 x v : Option V} {m : Loc} : List.set (a0 :: x :: m) 1 v = a0 :: v :: m := rfl
theorem set_2 {a0 a1 x v : Option V} {m : Loc} : List.set (a0 :: a1 :: x :: m) 2 v = a0 :: a1 :: v :: m := rfl
theorem set_3 {a0 a1 a2 x v : Option V} {m : Loc} : List.set (a0 :: a1 :: a2 :: x :: m) 3 v = a0 :: a1 :: a2 :: v :: m := rfl
theorem set_4 {a0 a1 a2 a3 x v : Option V} {m : Loc} : List.set (a0 :: a1 :: a2 :: a3 :: x :: m) 4 v = a0 :: a1 :: a2 :: a3 :: v :: m := rfl
theorem set_5 {a0 a1 a2 a3 a4 x v : Option V} {m : Loc} : List.set (a0 :: a1 :: a2 :: a3 :: a4 :: x :: m) 5 v = a0 :: a1 :: a2 :: a3 :: a4 :: v :: m := rfl
theorem set_6 {a0 a1 a2 a3 a4 a5 x v : Option V} {m : Loc} : List.set (a0 :: a1 :: a2 :: a3 :: a4 :: a5 :: x :: m) 6 v = a0 :: a1 :: a2 :: a3 :: a4 :: a5 :: v :: m := rfl
theorem set_7 {a0 a1 a2 a3 a4 a5 a6 x v : Option V} {m : Loc} : List.set (a0 :: a1 :: a2 :: a3 :: a4 :: a5 :: a6 :: x :: m) 7 v = a0 :: a1 :: a2 :: a3 :: a4 :: a5 :: a6 :: v :: m := rfl
theorem set_8 {a0 a1 a2 a3 a4 a5 a6 a7 x v : Option V} {m : Loc} : List.set (a0 :: a1 :: a2 :: a3 :: a4 :: a5 :: a6 :: a7 :: x :: m) 8 v = a0 :: a1 :: a2 :: a3 :: a4 :: a5 :: a6 :: a7 :: v :: m := rfl
theorem set_9 {a0 a1 a2 a3 a4 a5 a6 a7 a8 x v : Option V} {m : Loc} : List.set (a0 :: a1 :: a2 :: a3 :: a4 :: a5 :: a6 :: a7 :: a8 :: x :: m) 9 v = a0 :: a1 :: a2 :: a3 :: a4 :: a5 :: a6 :: a7 :: a8 :: v :: m := rfl
theorem set_10 {a0 a1 a2 a3 a4 a5 a6 a7 a8 a9 x v : Option V} {m : Loc} : List.set (a0 :: a1 :: a2 :: a3 :: a4 :: a5 :: a6 :: a7 :: a8 :: a9 :: x :: m) 10 v = a0 :: a1 :: a2 :: a3 :: a4 :: a5 :: a6 :: a7 :: a8 :: a9 :: v :: m := rfl
theorem set_11 {a0 a1 a2 a3 a4 a5 a6 a7 a8 a9 a10 x v : Option V} {m : Loc} : List.set (a0 :: a1 :: a2 :: a3 :: a4 :: a5 :: a6 :: a7 :: a8 :: a9 :: a10 :: x :: m) 11 v = a0 :: a1 :: a2 :: a3 :: a4 :: a5 :: a6 :: a7 :: a8 :: a9 :: a10 :: v :: m := rfl
theorem branch_true {A B : Prop} : branch (.bool true) A B = A := rfl
theorem branch_false {A B : Prop} : branch (.bool false) A B = B := rfl
theorem Ze {p : Prop} [Decidable p] {A B : Prop} : branch (.bool (decide p)) A B = if p then A else B := by by_cases h : p <;> simp [branch, truth, h]
theorem branch_ndecide {p : Prop} [Decidable p] {A B : Prop} : branch (.bool (!decide p)) A B = if p then B else A := by by_cases h : p <;> simp [branch, truth, h]
theorem withL_of {H : Hp} {k : Nat} {vs : List V} {F : List V → Prop} (h : H[k]? = some vs) (q : F vs) : withL H k F := by simp only [withL, h]; exact q
theorem Zq {H : Hp} {k : Nat} {vs : List V} {F : List V → Prop} (h : H[k]? = some vs) : withL H k F = F vs := by simp only [withL, h]
theorem zl?_ints (xs : List Int) : zl? (zl xs) = some xs := by
  induction xs with
  | nil => rfl
  | cons x r ih => show (zl? (zl r)).map (x :: ·) = _; rw [ih]; rfl
theorem withI_zl {xs : List Int} {F : List Int → Prop} : withI (zl xs) F = F xs := by simp only [withI, zl?_ints]

section
variable {C : Calls} {m : Loc} {H : Hp} {P : PV} {Q : PF}
theorem ZI : wpE C .none m H P = P .none H := rfl
theorem e_bool {b : Bool} : wpE C (.bool b) m H P = P (.bool b) H := rfl
theorem ZU {i : Int} : wpE C (.int i) m H P = P (.int i) H := rfl
theorem e_str {s : Str} : wpE C (.str s) m H P = P (.str s) H := rfl
theorem Zc {i : Nat} : wpE C (.var i) m H P = at? m i fun v => P v H := rfl
theorem e_un {op : U} {e : X} : wpE C (.un op e) m H P = wpE C e m H fun v H₁ => wpU op v H₁ P := rfl
theorem e_bin {op : B} {a b : X} : wpE C (.bin op a b) m H P = wpE C a m H fun v H₁ => wpE C b m H₁ fun w H₂ => wpB op v w H₂ P := rfl
theorem e_chain {o₁ o₂ : B} {a b c : X} : wpE C (.chain o₁ o₂ a b c) m H P = wpE C a m H fun v H₁ => wpE C b m H₁ fun w H₂ => wpB o₁ v w H₂ fun t H₃ => branch t (wpE C c m H₃ fun z H₄ => wpB o₂ w z H₄ P) (P t H₃) := rfl
noncomputable def notB (v : V) (F : V → Prop) : Prop := match truth v with | some b => F (.bool !b) | Option.none => False
theorem not_bool {b : Bool} {F : V → Prop} : notB (.bool b) F = F (.bool !b) := rfl
theorem e_not {e : X} : wpE C (.not e) m H P = wpE C e m H fun v H₁ => notB v fun w => P w H₁ := rfl
theorem e_and {a b : X} : wpE C (.and a b) m H P = wpE C a m H fun v H₁ => branch v (wpE C b m H₁ P) (P v H₁) := rfl
theorem e_or {a b : X} : wpE C (.or a b) m H P = wpE C a m H fun v H₁ => branch v (P v H₁) (wpE C b m H₁ P) := rfl
theorem e_ite {t a b : X} : wpE C (.ite t a b) m H P = wpE C t m H fun v H₁ => branch v (wpE C a m H₁ P) (wpE C b m H₁ P) := rfl
theorem ZR {f : Nat} {as : List X} : wpE C (.call f as) m H P = wpEs C as m H fun vs H₁ => C f vs H₁ P := rfl
theorem e_list {es : List X} : wpE C (.list es) m H P = wpEs C es m H fun vs H₁ => P (.ref H₁.length) (H₁ ++ [vs]) := rfl
theorem e_tup {es : List X} : wpE C (.tup es) m H P = wpEs C es m H fun vs H₁ => P (.tup vs) H₁ := rfl
theorem Zn {P : List V → Hp → Prop} : wpEs C [] m H P = P [] H := rfl
theorem Zg {e : X} {r : List X} {P : List V → Hp → Prop} : wpEs C (e :: r) m H P = wpE C e m H fun v H₁ => wpEs C r m H₁ fun vs H₂ => P (v :: vs) H₂ := rfl
theorem f_l1 {a0 : Int} : wpE C (.list [.int a0]) m H P = P (.ref H.length) (H ++ [[.int a0]]) := rfl
theorem f_l2 {a0 a1 : Int} : wpE C (.list [.int a0, .int a1]) m H P = P (.ref H.length) (H ++ [[.int a0, .int a1]]) := rfl
theorem f_l10 {a0 a1 a2 a3 a4 a5 a6 a7 a8 a9 : Int} : wpE C (.list [.int a0, .int a1, .int a2, .int a3, .int a4, .int a5, .int a6, .int a7, .int a8, .int a9]) m H P = P (.ref H.length) (H ++ [[.int a0, .int a1, .int a2, .int a3, .int a4, .int a5, .int a6, .int a7, .int a8, .int a9]]) := rfl
theorem f_l0 : wpE C (.list []) m H P = P (.ref H.length) (H ++ [[]]) := rfl
theorem f_vi {f i : Nat} {k : Int} : wpE C (.call f [.var i, .int k]) m H P = at? m i fun v => C f [v, .int k] H P := rfl
theorem f_v {f i : Nat} : wpE C (.call f [.var i]) m H P = at? m i fun v => C f [v] H P := rfl
theorem f_vv {f i j : Nat} : wpE C (.call f [.var i, .var j]) m H P = at? m i fun v => at? m j fun w => C f [v, w] H P := rfl
theorem Yd {op : U} {i : Nat} : wpE C (.un op (.var i)) m H P = at? m i fun v => wpU op v H P := rfl
theorem Zp {op : B} {a : X} {k : Int} : wpE C (.bin op a (.int k)) m H P = wpE C a m H fun v H₁ => wpB op v (.int k) H₁ P := rfl
theorem f_bav {op : B} {a : X} {i : Nat} : wpE C (.bin op a (.var i)) m H P = wpE C a m H fun v H₁ => at? m i fun w => wpB op v w H₁ P := rfl
theorem f_bib {op : B} {b : X} {k : Int} : wpE C (.bin op (.int k) b) m H P = wpE C b m H fun w H₁ => wpB op (.int k) w H₁ P := rfl
theorem f_bvb {op : B} {b : X} {i : Nat} : wpE C (.bin op (.var i) b) m H P = at? m i fun v => wpE C b m H fun w H₁ => wpB op v w H₁ P := rfl
set_option tactic.hygienic true
theorem ZG : wpSs C [] m H Q = Q .next m H := rfl
set_option tactic.hygienic false

noncomputable def thenS (F : Loc → Hp → Prop) (Q : PF) : PF := fun f m' H' => match f with | .next => F m' H' | .ret v => Q (.ret v) m' H'
set_option tactic.hygienic true
theorem Za {F : Loc → Hp → Prop} : thenS F Q .next m H = F m H := rfl
set_option tactic.hygienic false

theorem Zv {F : Loc → Hp → Prop} {v : V} : thenS F Q (.ret v) m H = Q (.ret v) m H := rfl
theorem s_cons {s : S} {r : List S} : wpSs C (s :: r) m H Q = wpS C s m H (thenS (fun m' H' => wpSs C r m' H' Q) Q) := rfl
theorem Zi {i : Nat} {e : X} : wpS C (.assign i e) m H Q = wpE C e m H fun v H₁ => Q .next (m.set i (some v)) H₁ := rfl
/-- a statement, with the rest by a name -/
theorem Zf {s : S} {r : List S} (h : let J := fun m' H' => wpSs C r m' H' Q; wpS C s m H (thenS J Q)) : wpSs C (s :: r) m H Q := by rw [s_cons]; exact h
theorem Zb {s : S} (h : wpS C s m H Q) : wpSs C [s] m H Q := by
  rw [s_cons]
  have e : thenS (fun m' H' => wpSs C [] m' H' Q) Q = Q := by
    funext f m' H'
    cases f with
    | next => show wpSs C [] m' H' Q = _; exact ZG
    | ret v => rfl
  rw [e]; exact h
noncomputable def isNone (v : V) (A : Prop) : Prop := match v with | .none => A | _ => False
theorem is_none {A : Prop} : isNone .none A = A := rfl
set_option tactic.hygienic true
theorem s_expr {f : Nat} {as : List X} : wpS C (.expr f as) m H Q = wpEs C as m H fun vs H₁ => C f vs H₁ fun _ H₂ => Q .next m H₂ := rfl
set_option tactic.hygienic false

theorem ZV {e : X} : wpS C (.ret e) m H Q = wpE C e m H fun v H₁ => Q (.ret v) m H₁ := rfl
theorem ZW {t : X} {b c : List S} : wpS C (.ite t b c) m H Q = wpE C t m H fun v H₁ => branch v (wpSs C b m H₁ Q) (wpSs C c m H₁ Q) := rfl
noncomputable def appL (r : V) (F : Nat → Prop) : Prop := match r with | .ref k => F k | _ => False
theorem app_ref {k : Nat} {F : Nat → Prop} : appL (.ref k) F = F k := rfl
set_option tactic.hygienic true
theorem s_append {a e : X} : wpS C (.append a e) m H Q = wpE C a m H fun r H₁ => appL r fun k => wpE C e m H₁ fun v H₂ => withL H₂ k fun vs => vs.length < room ∧ Q .next m (H₂.set k (vs ++ [v])) := rfl
set_option tactic.hygienic false

noncomputable def setL (r w : V) (F : Nat → Int → Prop) : Prop := match r, w with | .ref k, .int j => F k j | _, _ => False
theorem set_ref {k : Nat} {j : Int} {F : Nat → Int → Prop} : setL (.ref k) (.int j) F = F k j := rfl
set_option tactic.hygienic true
theorem s_setItem {a i e : X} : wpS C (.setItem a i e) m H Q = wpE C e m H fun v H₁ => wpE C a m H₁ fun r H₂ => wpE C i m H₂ fun w H₃ => setL r w fun k j => withL H₃ k fun vs => 0 ≤ j ∧ j < vs.length ∧ Q .next m (H₃.set k (vs.set j.toNat v)) := rfl
set_option tactic.hygienic false

noncomputable def putL (is : List Nat) (v : V) (m : Loc) (F : Loc → Prop) : Prop := match put is v m with | some m₁ => F m₁ | Option.none => False
theorem put_two {i j : Nat} {v w : V} {F : Loc → Prop} : putL [i, j] (.tup [v, w]) m F = F ((m.set i (some v)).set j (some w)) := rfl
set_option tactic.hygienic true
theorem s_unpack {is : List Nat} {e : X} : wpS C (.unpack is e) m H Q = wpE C e m H fun v H₁ => putL is v m fun m₁ => Q .next m₁ H₁ := rfl
set_option tactic.hygienic false

variable {a b : Int}
theorem u_neg : wpU .neg (.int a) H P = P (.int (-a)) H := rfl
theorem u_len_ref {k : Nat} : wpU .len (.ref k) H P = withL H k fun vs => P (.int vs.length) H := optV_L
theorem u_len_tup {vs : List V} : wpU .len (.tup vs) H P = P (.int vs.length) H := rfl
theorem u_len_frz {xs : List Int} : wpU .len (.frz xs) H P = P (.int xs.length) H := rfl
theorem u_list_ref {k : Nat} : wpU .list (.ref k) H P = withL H k fun vs => P (.ref H.length) (H ++ [vs]) := optV_L
theorem u_list_tup {vs : List V} : wpU .list (.tup vs) H P = P (.ref H.length) (H ++ [vs]) := rfl
theorem u_tuple_ref {k : Nat} : wpU .tuple (.ref k) H P = withL H k fun vs => P (.tup vs) H := optV_L
theorem u_sum_ref {k : Nat} : wpU .sum (.ref k) H P = withL H k fun vs => withI vs fun is => P (.int is.sum) H := by
  show optV H[k]? (fun vs => optV (zl? vs) fun is => P (.int is.sum) H) = _
  rw [optV_L]; congr 1; funext vs; exact optV_I
theorem u_isInt_int : wpU .isInt (.int a) H P = P (.bool true) H := rfl
theorem u_isInt_none : wpU .isInt .none H P = P (.bool false) H := rfl
theorem u_isInt_ref {k : Nat} : wpU .isInt (.ref k) H P = P (.bool false) H := rfl
theorem u_isBool_int : wpU .isBool (.int a) H P = P (.bool false) H := rfl
theorem u_isBool_bool {b : Bool} : wpU .isBool (.bool b) H P = P (.bool true) H := rfl
theorem u_isList_ref {k : Nat} : wpU .isList (.ref k) H P = P (.bool true) H := rfl
theorem u_isTuple_tup {vs : List V} : wpU .isTuple (.tup vs) H P = P (.bool true) H := rfl
theorem b_add : wpB .add (.int a) (.int b) H P = P (.int (a + b)) H := rfl
theorem b_sub : wpB .sub (.int a) (.int b) H P = P (.int (a - b)) H := rfl
theorem b_mul : wpB .mul (.int a) (.int b) H P = ((Small a ∨ Small b) ∧ P (.int (a * b)) H) := rfl
theorem b_fdiv : wpB .fdiv (.int a) (.int b) H P = (0 < b ∧ b < 1000000000 ∧ P (.int (a / b)) H) := rfl
theorem ZY : wpB .mod (.int a) (.int b) H P = (0 < b ∧ P (.int (a % b)) H) := rfl
theorem b_lt : wpB .lt (.int a) (.int b) H P = P (.bool (decide (a < b))) H := rfl
theorem b_le : wpB .le (.int a) (.int b) H P = P (.bool (decide (a ≤ b))) H := rfl
theorem b_gt : wpB .gt (.int a) (.int b) H P = P (.bool (decide (b < a))) H := rfl
theorem b_ge : wpB .ge (.int a) (.int b) H P = P (.bool (decide (b ≤ a))) H := rfl
theorem b_max : wpB .max (.int a) (.int b) H P = P (.int (if a < b then b else a)) H := rfl
theorem eqv_int {a b : Int} : PyData.eqv (.int a) (.int b) = decide (a = b) := by
  show (a == b) = _
  by_cases h : a = b <;> simp [h]
theorem b_eq : wpB .eq (.int a) (.int b) H P = P (.bool (decide (a = b))) H := by
  show P (.bool (PyData.eqv (.int a) (.int b))) H = _; rw [eqv_int]
theorem b_ne : wpB .ne (.int a) (.int b) H P = P (.bool (!decide (a = b))) H := by
  show P (.bool (!PyData.eqv (.int a) (.int b))) H = _; rw [eqv_int]
noncomputable def itemOf (vs : List V) (i : Int) (F : V → Prop) : Prop := match place i vs.length with | some j => (match vs[j]? with | some x => F x | Option.none => False) | Option.none => False
theorem optV_item {vs : List V} {i : Int} {F : V → Prop} : (optV (place i vs.length) fun j => optV vs[j]? F) = itemOf vs i F := by
  unfold itemOf
  cases place i vs.length with
  | none => rfl
  | some j =>
    show optV vs[j]? F = match vs[j]? with | some x => F x | Option.none => False
    cases vs[j]? <;> rfl
theorem b_item_ref {k : Nat} {i : Int} : wpB .item (.ref k) (.int i) H P = withL H k fun vs => itemOf vs i fun x => P x H := by
  show optV H[k]? (fun vs => optV (place i vs.length) fun j => optV vs[j]? fun x => P x H) = _
  rw [optV_L]; congr 1; funext vs; exact optV_item
theorem b_item_tup {vs : List V} {i : Int} : wpB .item (.tup vs) (.int i) H P = itemOf vs i fun x => P x H := optV_item
theorem b_item_frz {xs : List Int} {i : Int} (h0 : 0 ≤ i) (h1 : i < xs.length) : wpB .item (.frz xs) (.int i) H P = P (.int (xs.getD i.toNat 0)) H := by
  have hj : i.toNat < xs.length := by lia
  show optV (place i xs.length) (fun j => optV xs[j]? fun x => P (.int x) H) = _
  simp only [place, h0, h1, and_self, if_true, optV, List.getElem?_eq_getElem hj, List.getD_eq_getElem?_getD, Option.getD_some]
theorem Zw {vs : List V} {i : Int} {v : V} {F : V → Prop} (h0 : 0 ≤ i) (h : vs[i.toNat]? = some v) (q : F v) : itemOf vs i F := by
  have hj : i.toNat < vs.length := (List.getElem?_eq_some_iff.mp h).1
  simp only [itemOf, place, h0, show i < vs.length by lia, and_self, if_true, h]; exact q
theorem zl_get {xs : List Int} {j : Nat} (h : j < xs.length) : (zl xs)[j]? = some (.int xs[j]) := by simp [zl, h]
end

theorem run_succ {T : Nat → Option Fn} {n k : Nat} {d : Fn} {vs : List V} {H : Hp} {P : PV} (hT : T k = some d) (h1 : vs.length = d.params) (h2 : d.params ≤ d.locals)
    (h : wpSs (run T n) d.body (entry d vs) H fun fl _ H' => match fl with | .next => P .none H' | .ret v => P v H') : run T (n + 1) k vs H P := by
  rw [run_at hT]; exact ⟨h1, h2, h⟩

set_option tactic.hygienic true
theorem loop_ofQ {C : Calls} {t : X} {b : List S} {m : Loc} {H : Hp} {Q : PF} (hC : LeC C C) (I : Nat → Loc → Hp → Prop) (k : Nat) (h0 : I k m H)
    (step : ∀ k m H, I k m H → wpE C t m H fun c H₁ => branch c (wpSs C b m H₁ (thenS (fun m' H' => ∃ k', k' < k ∧ I k' m' H') Q)) (Q .next m H₁)) :
    wpS C (.loop t b) m H Q := by
  simp only [ws_assign, ws_unpack, ws_setItem, ws_append, ws_expr, ws_ite, ws_loop, ws_each, ws_ret, ws_raise]
  exact ⟨k + 1, loop_inv (fun m H P P' h q => ZX (m := m) (H := H) hC t h q) (fun m H P P' h q => monoSs (m := m) (H := H) hC b h q) I step (k + 1) k m H (by lia) h0⟩
set_option tactic.hygienic false

theorem Zo (T : Nat → Option Fn) (n : Nat) : LeC (run T n) (run T n) := run_le T (Nat.le_refl _)


/-- no return -/
noncomputable def noRet : PF := fun _ _ _ => False
theorem no_ret {R : Loc → Hp → Prop} {Q : PF} : LeF (thenS R noRet) (thenS R Q) := fun f m H q => by
  cases f with
  | next => exact q
  | ret v => exact q.elim

/-- a cut between two statements -/
theorem s_cutQ {C : Calls} {s : S} {r : List S} {m : Loc} {H : Hp} {Q : PF} (hC : LeC C C) (R : Loc → Hp → Prop) (h1 : wpS C s m H (thenS R Q)) (h2 : ∀ m' H', R m' H' → wpSs C r m' H' Q) : wpSs C (s :: r) m H Q := by
  rw [s_cons]
  refine monoS hC s (fun f m' H' q => ?_) h1
  cases f with
  | next => exact h2 m' H' q
  | ret v => exact q

theorem s_cut {C : Calls} {s : S} {r : List S} {m : Loc} {H : Hp} {Q : PF} (hC : LeC C C) (R : Loc → Hp → Prop) (h1 : wpS C s m H (thenS R noRet)) (h2 : ∀ m' H', R m' H' → wpSs C r m' H' Q) : wpSs C (s :: r) m H Q :=
  s_cutQ hC R (monoS hC s no_ret h1) h2

set_option tactic.hygienic true
theorem loop_of {C : Calls} {t : X} {b : List S} {m : Loc} {H : Hp} {Q : PF} (hC : LeC C C) (I : Nat → Loc → Hp → Prop) (k : Nat) (h0 : I k m H)
    (step : ∀ k m H, I k m H → wpE C t m H fun c H₁ => branch c (wpSs C b m H₁ (thenS (fun m' H' => ∃ k', k' < k ∧ I k' m' H') noRet)) (Q .next m H₁)) :
    wpS C (.loop t b) m H Q := by
  refine loop_ofQ hC I k h0 fun k m H hi => ZX hC t (fun c H₁ q => ?_) (step k m H hi)
  unfold branch at q ⊢
  split at q
  · exact monoSs hC b no_ret q
  · exact q
  · exact q.elim
set_option tactic.hygienic false

/-- the post of a step, by a name -/
theorem Zh {C : Calls} {b : List S} {m : Loc} {H : Hp} {I : Loc → Hp → Prop} {Q : PF} (h : let J := I; wpSs C b m H (thenS J Q)) : wpSs C b m H (thenS I Q) := h
theorem Zd {C : Calls} {t : X} {b : List S} {m : Loc} {H : Hp} {I : Loc → Hp → Prop} {Q : PF} {A : Hp → Prop} (h : let J := I; wpE C t m H fun c H₁ => branch c (wpSs C b m H₁ (thenS J Q)) (A H₁)) : wpE C t m H fun c H₁ => branch c (wpSs C b m H₁ (thenS I Q)) (A H₁) := h
theorem post_letS {C : Calls} {b : S} {m : Loc} {H : Hp} {I : Loc → Hp → Prop} {Q : PF} (h : let J := I; wpS C b m H (thenS J Q)) : wpS C b m H (thenS I Q) := h

/-! ## loops -/
noncomputable def eachOf (C : Calls) (is : List Nat) (it : It) (b : List S) (v w : V) (m : Loc) (H : Hp) (Q : PF) : Prop := match items it v w H with
  | some (vs, src) => wpEach is (fun m H Q => wpSs C b m H Q) src Q vs m H
  | Option.none => False
theorem s_each {C : Calls} {is : List Nat} {it : It} {a c : X} {b : List S} {m : Loc} {H : Hp} {Q : PF} : wpS C (.each is it a c b) m H Q = wpE C a m H fun v H₁ => wpE C c m H₁ fun w H₂ => eachOf C is it b v w m H₂ Q := rfl

theorem nums_len (lo : Int) (n : Nat) : (nums lo n).length = n := by simp [nums]
theorem nums_get {lo : Int} {n k : Nat} {v : V} (h : (nums lo n)[k]? = some v) : k < n ∧ v = .int (lo + k) := by
  have hk : k < n := by have := (List.getElem?_eq_some_iff.mp h).1; rwa [nums_len] at this
  refine ⟨hk, ?_⟩
  simp only [nums, List.getElem?_map, List.getElem?_range hk, Option.map_some, Option.some.injEq] at h
  exact h.symm

set_option tactic.hygienic true
theorem each_rangeQ {C : Calls} {i : Nat} {b : List S} {lo hi : Int} {m : Loc} {H : Hp} {Q : PF} (hC : LeC C C) (hlo : -1000000 ≤ lo ∧ lo ≤ 1000000) (hhi : -1000000 ≤ hi ∧ hi ≤ 1000000) (I : Nat → Loc → Hp → Prop) (h0 : I 0 m H)
    (step : ∀ k m H, k < (hi - lo).toNat → I k m H → wpSs C b (m.set i (some (.int (lo + k)))) H (thenS (I (k + 1)) Q)) (fin : ∀ m H, I (hi - lo).toNat m H → Q .next m H) : eachOf C [i] .range b (.int lo) (.int hi) m H Q := by
  have hb : -1000000 ≤ lo ∧ lo ≤ 1000000 ∧ -1000000 ≤ hi ∧ hi ≤ 1000000 := ⟨hlo.1, hlo.2, hhi.1, hhi.2⟩
  rw [eachOf, it_range hb]
  refine each_inv (fun m H P P' h q => monoSs (m := m) (H := H) hC b h q) I _ (fun _ _ _ _ => fun p hp => by cases hp) (fun k v m H hv hi => ?_) (fun m H hi => fin m H (by rwa [nums_len] at hi)) h0
  obtain ⟨hk, rfl⟩ := nums_get hv
  exact ⟨_, rfl, step k m H hk hi⟩
set_option tactic.hygienic false

set_option tactic.hygienic true
theorem each_range {C : Calls} {i : Nat} {b : List S} {lo hi : Int} {m : Loc} {H : Hp} {Q : PF} (hC : LeC C C) (hlo : -1000000 ≤ lo ∧ lo ≤ 1000000) (hhi : -1000000 ≤ hi ∧ hi ≤ 1000000) (I : Nat → Loc → Hp → Prop) (h0 : I 0 m H)
    (step : ∀ k m H, k < (hi - lo).toNat → I k m H → wpSs C b (m.set i (some (.int (lo + k)))) H (thenS (I (k + 1)) noRet)) (fin : ∀ m H, I (hi - lo).toNat m H → Q .next m H) : eachOf C [i] .range b (.int lo) (.int hi) m H Q :=
  each_rangeQ hC hlo hhi I h0 (fun k m H hk hi => monoSs hC b no_ret (step k m H hk hi)) fin
set_option tactic.hygienic false

set_option tactic.hygienic true
theorem each_refQ {C : Calls} {i k : Nat} {b : List S} {vs : List V} {m : Loc} {H : Hp} {Q : PF} (hC : LeC C C) (hk : H[k]? = some vs) (I : Nat → Loc → Hp → Prop) (h0 : I 0 m H) (hs : ∀ j m H, I j m H → H[k]? = some vs)
    (step : ∀ j v m H, vs[j]? = some v → I j m H → wpSs C b (m.set i (some v)) H (thenS (I (j + 1)) Q)) (fin : ∀ m H, I vs.length m H → Q .next m H) : eachOf C [i] .seq b (.ref k) .none m H Q := by
  rw [eachOf, it_seq hk]
  refine each_inv (fun m H P P' h q => monoSs (m := m) (H := H) hC b h q) I _ (fun j m H hi => fun p hp => by simp only [List.mem_singleton] at hp; subst hp; exact hs j m H hi) (fun j v m H hv hi => ⟨_, rfl, step j v m H hv hi⟩) fin h0
set_option tactic.hygienic false

set_option tactic.hygienic true
theorem each_ref {C : Calls} {i k : Nat} {b : List S} {vs : List V} {m : Loc} {H : Hp} {Q : PF} (hC : LeC C C) (hk : H[k]? = some vs) (I : Nat → Loc → Hp → Prop) (h0 : I 0 m H) (hs : ∀ j m H, I j m H → H[k]? = some vs)
    (step : ∀ j v m H, vs[j]? = some v → I j m H → wpSs C b (m.set i (some v)) H (thenS (I (j + 1)) noRet)) (fin : ∀ m H, I vs.length m H → Q .next m H) : eachOf C [i] .seq b (.ref k) .none m H Q :=
  each_refQ hC hk I h0 hs (fun j v m H hv hi => monoSs hC b no_ret (step j v m H hv hi)) fin
set_option tactic.hygienic false

set_option tactic.hygienic true
theorem each_tupQ {C : Calls} {i : Nat} {b : List S} {vs : List V} {m : Loc} {H : Hp} {Q : PF} (hC : LeC C C) (I : Nat → Loc → Hp → Prop) (h0 : I 0 m H)
    (step : ∀ j v m H, vs[j]? = some v → I j m H → wpSs C b (m.set i (some v)) H (thenS (I (j + 1)) Q)) (fin : ∀ m H, I vs.length m H → Q .next m H) : eachOf C [i] .seq b (.tup vs) .none m H Q := by
  show wpEach _ _ [] _ vs _ _
  exact each_inv (fun m H P P' h q => monoSs (m := m) (H := H) hC b h q) I _ (fun j m H hi => fun p hp => by cases hp) (fun j v m H hv hi => ⟨_, rfl, step j v m H hv hi⟩) fin h0
set_option tactic.hygienic false

set_option tactic.hygienic true
theorem each_tup {C : Calls} {i : Nat} {b : List S} {vs : List V} {m : Loc} {H : Hp} {Q : PF} (hC : LeC C C) (I : Nat → Loc → Hp → Prop) (h0 : I 0 m H)
    (step : ∀ j v m H, vs[j]? = some v → I j m H → wpSs C b (m.set i (some v)) H (thenS (I (j + 1)) noRet)) (fin : ∀ m H, I vs.length m H → Q .next m H) : eachOf C [i] .seq b (.tup vs) .none m H Q :=
  each_tupQ hC I h0 (fun j v m H hv hi => monoSs hC b no_ret (step j v m H hv hi)) fin
set_option tactic.hygienic false

set_option tactic.hygienic true
theorem each_revQ {C : Calls} {i k : Nat} {b : List S} {vs : List V} {m : Loc} {H : Hp} {Q : PF} (hC : LeC C C) (hk : H[k]? = some vs) (I : Nat → Loc → Hp → Prop) (h0 : I 0 m H) (hs : ∀ j m H, I j m H → H[k]? = some vs)
    (step : ∀ j v m H, vs.reverse[j]? = some v → I j m H → wpSs C b (m.set i (some v)) H (thenS (I (j + 1)) Q)) (fin : ∀ m H, I vs.length m H → Q .next m H) : eachOf C [i] .rev b (.ref k) .none m H Q := by
  rw [eachOf, it_rev hk]
  refine each_inv (fun m H P P' h q => monoSs (m := m) (H := H) hC b h q) I _ (fun j m H hi => fun p hp => by simp only [List.mem_singleton] at hp; subst hp; exact hs j m H hi) (fun j v m H hv hi => ⟨_, rfl, step j v m H hv hi⟩) (fun m H h => fin m H (by rwa [List.length_reverse] at h)) h0
set_option tactic.hygienic false

set_option tactic.hygienic true
theorem each_rev {C : Calls} {i k : Nat} {b : List S} {vs : List V} {m : Loc} {H : Hp} {Q : PF} (hC : LeC C C) (hk : H[k]? = some vs) (I : Nat → Loc → Hp → Prop) (h0 : I 0 m H) (hs : ∀ j m H, I j m H → H[k]? = some vs)
    (step : ∀ j v m H, vs.reverse[j]? = some v → I j m H → wpSs C b (m.set i (some v)) H (thenS (I (j + 1)) noRet)) (fin : ∀ m H, I vs.length m H → Q .next m H) : eachOf C [i] .rev b (.ref k) .none m H Q :=
  each_revQ hC hk I h0 hs (fun j v m H hv hi => monoSs hC b no_ret (step j v m H hv hi)) fin
set_option tactic.hygienic false

theorem pairs_get {vs : List V} {j : Nat} {v : V} (h : (pairs (nums 0 vs.length) vs)[j]? = some v) : ∃ x, vs[j]? = some x ∧ v = .tup [.int j, x] := by
  have hj : j < vs.length := by have := (List.getElem?_eq_some_iff.mp h).1; simpa [pairs, nums_len] using this
  refine ⟨vs[j], by simp [hj], ?_⟩
  simp only [pairs, nums, List.getElem?_map, List.getElem?_zip_eq_some, Option.map_eq_some_iff] at h
  obtain ⟨⟨a, c⟩, ⟨h1, h2⟩, h3⟩ := h
  simp only [List.getElem?_range hj, Option.map_some, Option.some.injEq, List.getElem?_eq_getElem hj] at h1 h2
  obtain ⟨a', rfl, rfl⟩ := h1
  subst h2
  rw [← h3]; simp

set_option tactic.hygienic true
theorem each_enumQ {C : Calls} {i i' k : Nat} {b : List S} {vs : List V} {m : Loc} {H : Hp} {Q : PF} (hC : LeC C C) (hk : H[k]? = some vs) (I : Nat → Loc → Hp → Prop) (h0 : I 0 m H) (hs : ∀ j m H, I j m H → H[k]? = some vs)
    (step : ∀ (j : Nat) v m H, vs[j]? = some v → I j m H → wpSs C b ((m.set i (some (.int j))).set i' (some v)) H (thenS (I (j + 1)) Q)) (fin : ∀ m H, I vs.length m H → Q .next m H) : eachOf C [i, i'] .enum b (.ref k) .none m H Q := by
  rw [eachOf, it_enum hk]
  refine each_inv (fun m H P P' h q => monoSs (m := m) (H := H) hC b h q) I _ (fun j m H hi => fun p hp => by simp only [List.mem_singleton] at hp; subst hp; exact hs j m H hi) (fun j v m H hv hi => ?_)
    (fun m H h => fin m H (by have e : (pairs (nums 0 vs.length) vs).length = vs.length := by simp [pairs, nums_len]
                              rwa [e] at h)) h0
  obtain ⟨x, hx, rfl⟩ := pairs_get hv
  exact ⟨_, rfl, step j x m H hx hi⟩
set_option tactic.hygienic false

set_option tactic.hygienic true
/-! ## comprehensions -/
theorem each_enum {C : Calls} {i i' k : Nat} {b : List S} {vs : List V} {m : Loc} {H : Hp} {Q : PF} (hC : LeC C C) (hk : H[k]? = some vs) (I : Nat → Loc → Hp → Prop) (h0 : I 0 m H) (hs : ∀ j m H, I j m H → H[k]? = some vs)
    (step : ∀ (j : Nat) v m H, vs[j]? = some v → I j m H → wpSs C b ((m.set i (some (.int j))).set i' (some v)) H (thenS (I (j + 1)) noRet)) (fin : ∀ m H, I vs.length m H → Q .next m H) : eachOf C [i, i'] .enum b (.ref k) .none m H Q :=
  each_enumQ hC hk I h0 hs (fun j v m H hv hi => monoSs hC b no_ret (step j v m H hv hi)) fin
set_option tactic.hygienic false

set_option tactic.hygienic true
theorem comp_inv {cond elt : V → Hp → PV → Prop} (hc : ∀ v H P P', LeP P P' → cond v H P → cond v H P') (he : ∀ v H P P', LeP P P' → elt v H P → elt v H P') {src : List (Nat × List V)} {P : PV} (I : Nat → List V → Hp → Prop) (vs : List V)
    (hs : ∀ k acc H, I k acc H → Still src H)
    (step : ∀ k v acc H, vs[k]? = some v → I k acc H → cond v H fun c H₁ => branch c (elt v H₁ fun y H₂ => I (k + 1) (acc ++ [y]) H₂) (I (k + 1) acc H₁))
    (fin : ∀ acc H, I vs.length acc H → P (.ref H.length) (H ++ [acc])) {H : Hp} (h0 : I 0 [] H) : wpComp cond elt src vs [] H P := by
  suffices ∀ (r pre acc : List V) (H : Hp), vs = pre ++ r → I pre.length acc H → wpComp cond elt src r acc H P from this vs [] [] H rfl h0
  intro r
  induction r with
  | nil =>
    intro pre acc H e hi
    refine ⟨hs _ _ _ hi, fin _ _ ?_⟩
    rw [e]; simpa using hi
  | cons v r ih =>
    intro pre acc H e hi
    refine ⟨hs _ _ _ hi, hc _ _ _ _ (fun c H₁ q => ?_) (step pre.length v acc H (by rw [e]; simp) hi)⟩
    unfold branch at q
    split at q
    · rename_i e'
      (try simp only [e'])
      exact he _ _ _ _ (fun y H₂ q => ih (pre ++ [v]) (acc ++ [y]) H₂ (by simp [e]) (by simpa using q)) q
    · rename_i e'
      (try simp only [e'])
      exact ih (pre ++ [v]) acc H₁ (by simp [e]) (by simpa using q)
    · exact q.elim
set_option tactic.hygienic false

noncomputable def compOf (C : Calls) (elt : X) (n : Nat) (it : It) (cond : X) (v w : V) (m : Loc) (H : Hp) (P : PV) : Prop := match items it v w H with
  | some (vs, src) => wpComp (fun x H P => match bound n x with | some l => wpE C cond (m ++ l) H P | Option.none => False) (fun x H P => match bound n x with | some l => wpE C elt (m ++ l) H P | Option.none => False) src vs [] H P
  | Option.none => False
theorem e_comp {C : Calls} {elt : X} {n : Nat} {it : It} {a b cond : X} {m : Loc} {H : Hp} {P : PV} : wpE C (.comp elt n it a b cond) m H P = wpE C a m H fun v H₁ => wpE C b m H₁ fun w H₂ => compOf C elt n it cond v w m H₂ P := rfl

theorem comp_range {C : Calls} {elt cond : X} {lo hi : Int} {m : Loc} {H : Hp} {P : PV} (hC : LeC C C) (hlo : -1000000 ≤ lo ∧ lo ≤ 1000000) (hhi : -1000000 ≤ hi ∧ hi ≤ 1000000) (I : Nat → List V → Hp → Prop) (h0 : I 0 [] H)
    (step : ∀ k acc H, k < (hi - lo).toNat → I k acc H → wpE C cond (m ++ [some (.int (lo + k))]) H fun c H₁ => branch c (wpE C elt (m ++ [some (.int (lo + k))]) H₁ fun y H₂ => I (k + 1) (acc ++ [y]) H₂) (I (k + 1) acc H₁))
    (fin : ∀ acc H, I (hi - lo).toNat acc H → P (.ref H.length) (H ++ [acc])) : compOf C elt 1 .range cond (.int lo) (.int hi) m H P := by
  have hb : -1000000 ≤ lo ∧ lo ≤ 1000000 ∧ -1000000 ≤ hi ∧ hi ≤ 1000000 := ⟨hlo.1, hlo.2, hhi.1, hhi.2⟩
  rw [compOf, it_range hb]
  refine comp_inv (fun v H P P' h q => ZX (m := m ++ [some v]) (H := H) hC cond h q) (fun v H P P' h q => ZX (m := m ++ [some v]) (H := H) hC elt h q) I _ (fun _ _ _ _ => fun p hp => by cases hp) (fun k v acc H hv hi => ?_) (fun acc H h => fin acc H (by rwa [nums_len] at h)) h0
  obtain ⟨hk, rfl⟩ := nums_get hv
  exact step k acc H hk hi

theorem comp_ref {C : Calls} {elt cond : X} {k : Nat} {vs : List V} {m : Loc} {H : Hp} {P : PV} (hC : LeC C C) (hk : H[k]? = some vs) (I : Nat → List V → Hp → Prop) (h0 : I 0 [] H) (hs : ∀ j acc H, I j acc H → H[k]? = some vs)
    (step : ∀ j v acc H, vs[j]? = some v → I j acc H → wpE C cond (m ++ [some v]) H fun c H₁ => branch c (wpE C elt (m ++ [some v]) H₁ fun y H₂ => I (j + 1) (acc ++ [y]) H₂) (I (j + 1) acc H₁))
    (fin : ∀ acc H, I vs.length acc H → P (.ref H.length) (H ++ [acc])) : compOf C elt 1 .seq cond (.ref k) .none m H P := by
  rw [compOf, it_seq hk]
  exact comp_inv (fun v H P P' h q => ZX (m := m ++ [some v]) (H := H) hC cond h q) (fun v H P P' h q => ZX (m := m ++ [some v]) (H := H) hC elt h q) I _ (fun j acc H hi => fun p hp => by simp only [List.mem_singleton] at hp; subst hp; exact hs j acc H hi)
    (fun j v acc H hv hi => step j v acc H hv hi) fin h0

end Mine

open PySem
set_option linter.unusedSimpArgs false
set_option linter.unusedVariables false
namespace Mine

/-! ## rests mod 251 -/
theorem pow_emod (x : Int) (n : Nat) : (x % 251) ^ n % 251 = x ^ n % 251 := by
  induction n with
  | zero => simp
  | succ n ih => rw [Int.pow_succ, Int.pow_succ, Int.mul_emod, ih, Int.emod_emod_of_dvd x (Int.dvd_refl 251), ← Int.mul_emod]

set_option tactic.hygienic true
theorem spec_power (n : Nat) (a e : Int) (H : Hp) (P : PV) (he : 0 ≤ e) (h : P (.int (a ^ e.toNat % 251)) H) : run T (n + 1) 0 [.int a, .int e] H P := by
  refine run_succ (d := f_power) rfl rfl (by decide) ?_
  simp only [f_power, entry, List.map, List.replicate, Nat.reduceSub, s_cons, ↓Zp, ZG, Zi, ZV, ZU, Zc, Zx, Za, Zv, ZY, set_2, set_3, List.cons_append, List.nil_append]
  refine ⟨by decide, loop_of (Zo _ _) (fun k m H' => Ex3 fun (f g b : Int) => And9 (0 ≤ b) (b.toNat = k) (0 ≤ f) (f < 251) (0 ≤ g) (g < 251) ((f * g ^ b.toNat) % 251 = a ^ e.toNat % 251) (H' = H) (m = [some (.int a), some (.int b), some (.int f), some (.int g)])) e.toNat ?_ ?_⟩
  · exact ⟨1, a % 251, e, he, rfl, by decide, by decide, by lia, by lia, by rw [Int.one_mul, pow_emod], rfl, rfl⟩
  · rintro k m H' ⟨f, g, b, hb, hk, hf, hf', hg, hg', hh, rfl, rfl⟩
    (try (with_reducible (first | refine Zh ?_ | refine Zd ?_); intro J))
    simp only [s_cons, ↓Zp, ↓f_bav, ZG, Zi, ZW, Zc, ZJ, Yc, at_3, Ze, Za, b_mul, b_fdiv, ZY, b_gt, b_eq, set_1, set_2, set_3]
    have e2 : b.toNat = (b / 2).toNat + (b / 2).toNat + (b % 2).toNat := by lia
    split
    · rename_i hp
      have hlt : (b / 2).toNat < k := by lia
      refine ⟨by decide, ?_⟩
      split
      · rename_i ho
        refine ⟨.inl ⟨by lia, by lia⟩, by decide, .inl ⟨by lia, by lia⟩, by decide, by decide, by decide, _, hlt, f * g % 251, g * g % 251, b / 2, by lia, rfl, by lia, by lia, by lia, by lia, ?_, (by trivial), rfl⟩
        rw [← hh, e2, ho, Int.mul_emod, pow_emod, Int.emod_emod_of_dvd _ (Int.dvd_refl 251), ← Int.mul_emod, Int.mul_pow, Int.pow_add, Int.pow_add]
        congr 1
        show _ = f * (g ^ (b / 2).toNat * g ^ (b / 2).toNat * g ^ 1)
        rw [Int.pow_succ, Int.pow_zero]
        grind
      · rename_i ho
        have ho' : b % 2 = 0 := by lia
        refine ⟨.inl ⟨by lia, by lia⟩, by decide, by decide, by decide, _, hlt, f, g * g % 251, b / 2, by lia, rfl, by lia, by lia, by lia, by lia, ?_, (by trivial), rfl⟩
        rw [← hh, e2, ho', Int.mul_emod, pow_emod, ← Int.mul_emod, Int.mul_pow, Int.pow_add, Int.pow_add]
        congr 1
        show _ = f * (g ^ (b / 2).toNat * g ^ (b / 2).toNat * g ^ 0)
        rw [Int.pow_zero]
        grind
    · rename_i hp
      have : b = 0 := by lia
      subst this
      have : f = a ^ e.toNat % 251 := by rw [← hh]; simp; lia
      rw [← this] at h; exact h
set_option tactic.hygienic false

/-- the inverse, mod 251 -/
noncomputable def inv (a : Int) : Int := a ^ 249 % 251
theorem spec_inverse (n : Nat) (a : Int) (H : Hp) (P : PV) (h : P (.int (inv a)) H) : run T (n + 2) 1 [.int a] H P := by
  refine run_succ (d := f_inverse) rfl rfl (by decide) ?_
  simp only [f_inverse, entry, List.map, List.replicate, Nat.reduceSub, s_cons, ↓Zp, ZG, ZV, ZU, Zc, ZR, Zn, Zg, Zx, Zv, b_sub, List.cons_append, List.nil_append]
  exact spec_power n a _ H _ (by decide) h

/-- the script, read at a place -/
noncomputable def cell (xs : List Int) (k : Int) : Int := if k < xs.length then xs.getD k.toNat 0 else 0

set_option tactic.hygienic true
theorem spec_cell (n : Nat) (xs : List Int) (k : Int) (H : Hp) (P : PV) (hk : 0 ≤ k) (h : P (.int (cell xs k)) H) : run T (n + 1) 3 [.frz xs, .int k] H P := by
  refine run_succ (d := f_law_cell_at) rfl rfl (by decide) ?_
  simp only [f_law_cell_at, entry, List.map, List.replicate, Nat.reduceSub, s_cons, ↓Yd, ↓f_bav, ↓f_bvb, ZG, ZV, ZW, ZU, Zc, Zx, ZJ, Ze, Za, Zv, u_len_frz, b_lt, List.cons_append, List.nil_append]
  unfold cell at h
  split
  · rename_i hl
    rw [if_pos hl] at h
    rw [b_item_frz hk hl]; exact h
  · rename_i hl
    rw [if_neg hl] at h; exact h
set_option tactic.hygienic false

end Mine

open PySem
set_option linter.unusedSimpArgs false
set_option linter.unusedVariables false
namespace Mine

theorem mod_lin (a b c : Int) : ((a % 251) * b + c) % 251 = (a * b + c) % 251 := by
  rw [Int.add_emod, Int.mul_emod, Int.emod_emod_of_dvd _ (Int.dvd_refl _), ← Int.mul_emod, ← Int.add_emod]

/-- the value of a polynomial, unreduced -/
noncomputable def ev : List Int → Int → Int
  | [], _ => 0
  | a :: r, x => a + x * ev r x

theorem Zr (xs : List Int) : (zl xs).length = xs.length := by simp [zl]
theorem zl_at {xs : List Int} {j : Nat} {v : V} (h : (zl xs)[j]? = some v) : ∃ a, xs[j]? = some a ∧ v = .int a := by
  simp only [zl, List.getElem?_map, Option.map_eq_some_iff] at h
  obtain ⟨a, h1, h2⟩ := h
  exact ⟨a, h1, h2.symm⟩
theorem zl_reverse (xs : List Int) : (zl xs).reverse = zl xs.reverse := by simp [zl]

theorem drop_back {xs : List Int} {j : Nat} {a : Int} (h : xs.reverse[j]? = some a) : xs.drop (xs.length - (j + 1)) = a :: xs.drop (xs.length - j) := by
  have hj : j < xs.length := by have := (List.getElem?_eq_some_iff.mp h).1; simpa using this
  rw [List.getElem?_reverse hj] at h
  have h2 : xs.length - 1 - j < xs.length := by lia
  rw [List.getElem?_eq_getElem h2, Option.some.injEq] at h
  rw [show xs.length - (j + 1) = xs.length - 1 - j by lia, List.drop_eq_getElem_cons h2, h]
  congr 2; lia

theorem spec_value (n k : Nat) (xs : List Int) (x : Int) (H : Hp) (P : PV) (hk : H[k]? = some (zl xs)) (h : P (.int (ev xs x % 251)) H) : run T (n + 1) 6 [.ref k, .int x] H P := by
  refine run_succ (d := f_value) rfl rfl (by decide) ?_
  simp only [f_value, entry, List.map, List.replicate, Nat.reduceSub, List.cons_append, List.nil_append]
  (with_reducible first | refine Zb ?_ | (refine Zf ?_; intro J)); simp only [Zi, ZU, Za, set_2]
  (try change wpSs _ _ _ _ _)
  refine s_cut (Zo _ _) (fun m' H' => H' = H ∧ ∃ t, m' = [some (.ref k), some (.int x), some (.int (ev xs x % 251)), t]) ?_ ?_
  · (try (with_reducible refine post_letS ?_; intro J))
    (try simp only [s_each, ZI, Zc, Zx])
    refine each_rev (Zo _ _) hk (fun j m' H' => H' = H ∧ ∃ t, m' = [some (.ref k), some (.int x), some (.int (ev (xs.drop (xs.length - j)) x % 251)), t]) ⟨rfl, none, by simp [ev]⟩ (fun j m H' h => h.1 ▸ hk) ?_ ?_
    · rintro j v m H' hv ⟨rfl, t, rfl⟩
      (try (with_reducible (first | refine Zh ?_ | refine Zd ?_); intro J))
      rw [zl_reverse] at hv
      obtain ⟨a, ha, rfl⟩ := zl_at hv
      (try change wpSs _ _ _ _ _); simp only [s_cons, ↓Zp, ↓f_bav, ZG, Zi, Zc, ZJ, Yc, at_3, Za, b_add, b_mul, ZY, set_2, set_3]
      refine ⟨.inl ⟨by lia, by lia⟩, by decide, (by trivial), some (.int a), ?_⟩
      rw [drop_back ha, ev, mod_lin]
      congr 6; grind
    · rintro m H' ⟨rfl, t, rfl⟩
      (try (with_reducible (first | refine Zh ?_ | refine Zd ?_); intro J))
      refine ⟨rfl, t, ?_⟩
      rw [Zr, Nat.sub_self, List.drop_zero]
  rintro m H' ⟨rfl, t, rfl⟩
  (try (with_reducible (first | refine Zh ?_ | refine Zd ?_); intro J))
  (try change wpSs _ _ _ _ _); simp only [s_cons, ZG, ZV, Zc, Yc, Zv]
  exact h

/-- a comprehension over a range that picks by a test -/
theorem comp_pick {C : Calls} {cond : X} {i : Nat} {lo hi : Int} {m : Loc} {H : Hp} {P : PV} (hC : LeC C C) (hlo : -1000000 ≤ lo ∧ lo ≤ 1000000) (hhi : -1000000 ≤ hi ∧ hi ≤ 1000000) (hm : m.length = i) (p : Nat → Bool)
    (step : ∀ k : Nat, k < (hi - lo).toNat → ∀ R : PV, R (.bool (p k)) H → wpE C cond (m ++ [some (.int (lo + k))]) H R)
    (fin : P (.ref H.length) (H ++ [zl (((List.range (hi - lo).toNat).filter p).map fun j : Nat => lo + (j : Int))])) : compOf C (.var i) 1 .range cond (.int lo) (.int hi) m H P := by
  refine comp_range hC hlo hhi (fun k acc H' => H' = H ∧ acc = zl (((List.range k).filter p).map fun j : Nat => lo + (j : Int))) ⟨rfl, rfl⟩ ?_ ?_
  · rintro k acc H' hk ⟨rfl, rfl⟩
    (try (with_reducible (first | refine Zh ?_ | refine Zd ?_); intro J))
    refine step k hk _ ?_
    have e : ∀ Q : V → Prop, at? (m ++ [some (.int (lo + k))]) i Q = Q (.int (lo + k)) := fun Q => by
      subst hm; simp [at?]
    simp only [List.range_succ, List.filter_append, List.map_append, zl]
    cases hp : p k with
    | true =>
      rw [branch_true, Zc, e]
      exact ⟨rfl, by simp [hp]⟩
    | false =>
      rw [branch_false]
      exact ⟨(by trivial), by simp [hp]⟩
  · rintro acc H' ⟨rfl, rfl⟩
    (try (with_reducible (first | refine Zh ?_ | refine Zd ?_); intro J))
    exact fin

noncomputable def rootsOf (xs : List Int) : List Int := ((List.range 250).filter fun j : Nat => decide (ev xs (1 + (j : Int)) % 251 = 0)).map fun j : Nat => 1 + (j : Int)

theorem spec_roots (n k : Nat) (xs : List Int) (H : Hp) (P : PV) (hk : H[k]? = some (zl xs)) (h : P (.ref H.length) (H ++ [zl (rootsOf xs)])) : run T (n + 2) 7 [.ref k] H P := by
  refine run_succ (d := f_roots) rfl rfl (by decide) ?_
  simp only [f_roots, entry, List.map, List.replicate, Nat.reduceSub, List.cons_append, List.nil_append]
  (with_reducible first | refine Zb ?_ | (refine Zf ?_; intro J)); simp only [ZV, ZU, e_comp]
  refine comp_pick (Zo _ _) (by decide) (by decide) rfl (fun j => decide (ev xs (1 + (j : Int)) % 251 = 0)) (fun j hj R hR => ?_) h
  (try change wpSs _ _ _ _ _); simp only [↓f_vv, ↓Zp, Zx, ZJ, List.cons_append, List.nil_append]
  refine spec_value _ _ _ _ _ _ hk ?_
  (try change wpSs _ _ _ _ _); simp only [b_eq]
  exact hR
end Mine

open PySem
set_option linter.unusedSimpArgs false
set_option linter.unusedVariables false
namespace Mine

/-! ## lists of ints on the heap -/
theorem deepL_zl (n : Nat) (H : Hp) (xs : List Int) : deepL (deep n H) (zl xs) = some (xs.map PyData.int) := by
  induction xs with
  | nil => rfl
  | cons a r ih =>
    show (match deep n H (.int a), deepL (deep n H) (zl r) with | some x, some xs => some (x :: xs) | _, _ => Option.none) = _
    rw [ih]
    cases n <;> rfl
section
variable {H : Hp} {k l : Nat} {xs ys : List Int} {P : PV}
theorem eqv_zs : ∀ xs ys : List Int, PyData.eqvAll (xs.map PyData.int) (ys.map PyData.int) = decide (xs = ys)
  | [], [] => by simp [PyData.eqvAll]
  | [], _ :: _ => by simp [PyData.eqvAll]
  | _ :: _, [] => by simp [PyData.eqvAll]
  | x :: xs, y :: ys => by
    simp only [List.map_cons, PyData.eqvAll, eqv_zs xs ys, PyData.eqv]
    by_cases h : x = y <;> by_cases k : xs = ys <;> simp [h, k]
theorem deep_zl (n : Nat) (hk : H[k]? = some (zl xs)) : deep (n + 1) H (.ref k) = some (.list (xs.map PyData.int)) := by
  show (match H[k]? with | some vs => (deepL (deep n H) vs).map PyData.list | Option.none => Option.none) = _
  rw [hk]; show Option.map _ (deepL _ (zl xs)) = _; rw [deepL_zl]; rfl
theorem b_ne_list (hk : H[k]? = some (zl xs)) (hl : H[l]? = some (zl ys)) : wpB .ne (.ref k) (.ref l) H P = P (.bool (!decide (xs = ys))) H := by
  refine ((optV_eq (deep_zl 3 hk)).trans (optV_eq (deep_zl 3 hl))).trans ?_
  rw [show PyData.eqv (.list (xs.map PyData.int)) (.list (ys.map PyData.int)) = PyData.eqvAll (xs.map PyData.int) (ys.map PyData.int) by simp only [PyData.eqv], eqv_zs]
end

theorem Zm {H : Hp} {vs : List V} : (H ++ [vs])[H.length]? = some vs := by simp
theorem Zz {H G : Hp} {k : Nat} {vs : List V} (h : H[k]? = some vs) : (H ++ G)[k]? = some vs := by
  rw [List.getElem?_append_left (List.getElem?_eq_some_iff.mp h).1]; exact h
theorem pre_set {H H' : Hp} {k : Nat} {vs : List V} (h : H <+: H') (hk : H.length ≤ k) : H <+: H'.set k vs := by
  obtain ⟨G, rfl⟩ := h
  rw [List.set_append_right _ _ hk]
  exact List.prefix_append _ _
theorem set_get {H : Hp} {k : Nat} {vs ws : List V} (h : H[k]? = some vs) : (H.set k ws)[k]? = some ws := by
  rw [List.getElem?_set_self (List.getElem?_eq_some_iff.mp h).1]
theorem Zy {H H' : Hp} {G : Hp} (h : H <+: H') : H <+: H' ++ G := List.IsPrefix.trans h (List.prefix_append _ _)

/-- rests -/
noncomputable def Red (xs : List Int) : Prop := ∀ a ∈ xs, 0 ≤ a ∧ a < 251
/-- no zero at the end -/
noncomputable def Trim (xs : List Int) : Prop := xs.getLast? ≠ some 0

theorem zl_append (xs : List Int) (a : Int) : zl xs ++ [.int a] = zl (xs ++ [a]) := by simp [zl]
theorem red_append {xs : List Int} {a : Int} (h : Red xs) (h0 : 0 ≤ a) (h1 : a < 251) : Red (xs ++ [a]) := by
  intro b hb
  rcases List.mem_append.mp hb with q | q
  · exact h b q
  · simp only [List.mem_singleton] at q; subst q; exact ⟨h0, h1⟩
end Mine

open PySem
set_option linter.unusedSimpArgs false
set_option linter.unusedVariables false
namespace Mine

theorem last_item {xs : List Int} (h : xs ≠ []) {F : V → Prop} (q : F (.int (xs.getLast h))) : itemOf (zl xs) (-1) F := by
  have hl : 0 < xs.length := List.length_pos_iff.mpr h
  have e : place (-1) (zl xs).length = some (xs.length - 1) := by
    simp only [place, Zr]
    rw [if_neg (by lia), if_pos (by lia)]
    congr 1; lia
  simp only [itemOf, e]
  rw [zl_get (by lia)]
  rw [List.getLast_eq_getElem] at q
  exact q

theorem red_nil : Red [] := fun a ha => by cases ha
theorem item_mem {xs : List Int} {i : Int} {F : V → Prop} (h0 : 0 ≤ i) (h1 : i < xs.length) (q : ∀ a ∈ xs, F (.int a)) : itemOf (zl xs) i F :=
  Zw h0 (zl_get (xs := xs) (by lia)) (q _ (List.getElem_mem _))

end Mine

open PySem
set_option linter.unusedSimpArgs false
set_option linter.unusedVariables false
namespace Mine

/-- a coefficient -/
noncomputable def co (xs : List Int) (i : Nat) : Int := xs.getD i 0
/-- a sum over 0 … n-1 -/
noncomputable def sm (f : Nat → Int) : Nat → Int
  | 0 => 0
  | n + 1 => sm f n + f n
/-- the product's coefficient -/
noncomputable def cv (f g : Nat → Int) (t : Nat) : Int := sm (fun i => f i * g (t - i)) (t + 1)
theorem co_ge {xs : List Int} {i : Nat} (h : xs.length ≤ i) : co xs i = 0 := by simp [co, List.getD_eq_getElem?_getD, List.getElem?_eq_none h]
theorem co_lt {xs : List Int} {i : Nat} (h : i < xs.length) : co xs i = xs[i] := by simp [co, List.getD_eq_getElem?_getD, h]
theorem co_red {xs : List Int} (h : Red xs) (i : Nat) : 0 ≤ co xs i ∧ co xs i < 251 := by
  rcases Nat.lt_or_ge i xs.length with q | q
  · rw [co_lt q]; exact h _ (List.getElem_mem _)
  · rw [co_ge q]; lia

theorem sm_congr {f g : Nat → Int} : ∀ {n : Nat}, (∀ i, i < n → f i = g i) → sm f n = sm g n
  | 0, _ => rfl
  | n + 1, h => by rw [sm, sm, sm_congr fun i hi => h i (by lia), h n (by lia)]
/-- beyond m all is zero -/
theorem sm_cut {f : Nat → Int} {m : Nat} : ∀ {n : Nat}, m ≤ n → (∀ i, m ≤ i → i < n → f i = 0) → sm f n = sm f m
  | 0, h, _ => by have : m = 0 := by lia
                  subst this; rfl
  | n + 1, h, z => by
    rcases Nat.lt_or_ge n m with q | q
    · have : m = n + 1 := by lia
      subst this; rfl
    · rw [sm, sm_cut q fun i h1 h2 => z i h1 (by lia), z n q (by lia), Int.add_zero]

theorem cv_row (xs ys : List Int) (t : Nat) : sm (fun i => if i ≤ t then co xs i * co ys (t - i) else 0) xs.length = cv (co xs) (co ys) t := by
  unfold cv
  have e1 : sm (fun i => co xs i * co ys (t - i)) (t + 1) = sm (fun i => if i ≤ t then co xs i * co ys (t - i) else 0) (t + 1) := sm_congr fun i hi => by rw [if_pos (by lia)]
  rw [e1]
  rcases Nat.le_total xs.length (t + 1) with q | q
  · rw [sm_cut (m := xs.length) q fun i h1 h2 => by rw [co_ge h1, Int.zero_mul, ite_self]]
  · rw [sm_cut (m := t + 1) q fun i h1 h2 => by rw [if_neg (by lia)]]

theorem red_small {a : Int} (h : 0 ≤ a ∧ a < 251) : Small a := ⟨by lia, by lia⟩

end Mine

open PySem
set_option linter.unusedSimpArgs false
set_option linter.unusedVariables false
namespace Mine

theorem clip_nat (n : Nat) {a : Int} (h : 0 ≤ a) : clip n a = min a.toNat n := by
  obtain ⟨m, rfl⟩ := Int.eq_ofNat_of_zero_le h
  unfold clip
  rw [if_neg (Int.not_lt.mpr h), Int.toNat_natCast]
  rcases Nat.le_total m n with c | c
  · rw [Int.min_eq_left (Int.ofNat_le.mpr c), Int.max_eq_right (Int.natCast_nonneg m), Int.toNat_natCast, Nat.min_eq_left c]
  · rw [Int.min_eq_right (Int.ofNat_le.mpr c), Int.max_eq_right (Int.natCast_nonneg n), Int.toNat_natCast, Nat.min_eq_right c]
theorem picked_take {xs : List Int} {s : Int} (h0 : 0 ≤ s) (h1 : s ≤ xs.length) : picked (zl xs) none (some s) = zl (xs.take s.toNat) := by
  simp only [picked, Option.elim, clip_nat _ h0, Zr, List.drop_zero, Nat.sub_zero]
  rw [Nat.min_eq_left (Int.toNat_le.mpr h1), zl, ← List.map_take]; rfl

theorem e_slice_to {C : Calls} {i j : Nat} {m : Loc} {H : Hp} {P : PV} {k : Nat} {xs : List Int} {s : Int} (hm : m[i]? = some (some (.ref k))) (hs : m[j]? = some (some (.int s))) (hk : H[k]? = some (zl xs)) (h0 : 0 ≤ s) (h1 : s ≤ xs.length) :
    wpE C (.slice (.var i) .none (.var j)) m H P = P (.ref H.length) (H ++ [zl (xs.take s.toNat)]) := by
  simp only [ZF, ZE, ZM, ZO, ZD, ZH, Yb, ZN, Zu, ZS, ZP, ZZ, ZQ, ZA, ZC, ZT, Zt, ZB, Zs, hm, hs, part?, hk, picked_take h0 h1]

theorem co_take {xs : List Int} {s : Nat} (h : ∀ i, s ≤ i → co xs i = 0) (i : Nat) : co (xs.take s) i = co xs i := by
  rcases Nat.lt_or_ge i s with q | q
  · simp [co, List.getD_eq_getElem?_getD, q]
  · rw [h i q]
    simp only [co, List.getD_eq_getElem?_getD]
    rw [List.getElem?_eq_none (by simp; lia)]; rfl

set_option tactic.hygienic true
theorem spec_trimmed (n k : Nat) (xs : List Int) (H : Hp) (P : PV) (hk : H[k]? = some (zl xs)) (h : ∀ k' ys H', H <+: H' → H.length ≤ k' → H'[k']? = some (zl ys) → Trim ys → ys.length ≤ xs.length → (∀ i, co ys i = co xs i) → P (.ref k') H') :
    run T (n + 1) 13 [.ref k] H P := by
  refine run_succ (d := f_trimmed) rfl rfl (by decide) ?_
  simp only [f_trimmed, entry, List.map, List.replicate, Nat.reduceSub, List.cons_append, List.nil_append]
  (with_reducible first | refine Zb ?_ | (refine Zf ?_; intro J)); simp only [↓Yd, Zi, Zx, Za, u_len_ref, set_1, Zq hk, Zr]
  (try change wpSs _ _ _ _ _)
  refine s_cut (Zo _ _) (fun m' H' => H' = H ∧ ∃ (s : Int), And5 (0 ≤ s) (s ≤ xs.length) ((∀ i, s.toNat ≤ i → co xs i = 0)) ((0 < s → co xs (s.toNat - 1) ≠ 0)) (m' = [some (.ref k), some (.int s)])) ?_ ?_
  · (try (with_reducible refine post_letS ?_; intro J))
    refine loop_of (Zo _ _) (fun q m' H' => H' = H ∧ ∃ (s : Int), And5 (0 ≤ s) (s ≤ xs.length) (s.toNat = q) ((∀ i, s.toNat ≤ i → co xs i = 0)) (m' = [some (.ref k), some (.int s)])) xs.length ⟨rfl, xs.length, by lia, by lia, by lia, fun i hi => co_ge (by lia), rfl⟩ ?_
    rintro q m' H' ⟨rfl, s, h0, h1, hq, hz, rfl⟩
    (try (with_reducible (first | refine Zh ?_ | refine Zd ?_); intro J))
    (try simp only [↓Zp, ↓f_bvb, Zc, e_and, Zx, ZJ, Ze, Za, b_sub, b_gt, b_item_ref, Zq hk])
    split
    · rename_i hs
      refine Zw (by lia) (zl_get (xs := xs) (by lia)) ?_
      (try simp only [Ze, b_eq])
      have e1 : xs[(s - 1).toNat]'(by lia) = co xs (s.toNat - 1) := by rw [co_lt (by lia)]; congr 1; lia
      rw [e1]
      split
      · rename_i he
        (try change wpSs _ _ _ _ _); simp only [s_cons, ↓Zp, ZG, Zi, Zc, ZJ, Za, b_sub, set_1]
        refine ⟨(s - 1).toNat, by lia, (by trivial), s - 1, by lia, by lia, rfl, fun i hi => ?_, rfl⟩
        rcases Nat.lt_or_ge i s.toNat with y | y
        · rw [show i = s.toNat - 1 by lia]; exact he
        · exact hz i y
      · rename_i he
        exact ⟨(by trivial), s, h0, h1, hz, fun _ => he, rfl⟩
    · rename_i hs
      exact ⟨(by trivial), s, h0, h1, hz, fun y => absurd y hs, rfl⟩
  rintro m' H' ⟨rfl, s, h0, h1, hz, hl, rfl⟩
  (try (with_reducible (first | refine Zh ?_ | refine Zd ?_); intro J))
  (try change wpSs _ _ _ _ _)
  rw [s_cons, ZV, e_un, e_slice_to rfl rfl hk h0 h1]
  (try simp only [ZG, Zv, u_list_ref])
  refine withL_of Zm ?_
  refine h _ _ _ (Zy (List.prefix_append _ _)) (by simp) Zm ?_ (by rw [List.length_take]; lia) (co_take hz)
  unfold Trim
  rcases Int.lt_or_le 0 s with y | y
  · rw [List.getLast?_eq_getElem?, List.length_take, Nat.min_eq_left (by lia), List.getElem?_take_of_lt (by lia), List.getElem?_eq_getElem (by lia)]
    have := hl y
    rw [co_lt (by lia)] at this
    intro e; exact this (Option.some.inj e)
  · have : s.toNat = 0 := by lia
    simp [this]
set_option tactic.hygienic false

end Mine

open PySem
set_option linter.unusedSimpArgs false
set_option linter.unusedVariables false
namespace Mine

set_option tactic.hygienic true
theorem co_set {xs : List Int} {t : Nat} {a : Int} (h : t < xs.length) (i : Nat) : co (xs.set t a) i = if i = t then a else co xs i := by
  simp only [co, List.getD_eq_getElem?_getD, List.getElem?_set]
  split
  · rename_i e
    subst e
    simp [h]
  · rename_i e
    rw [if_neg (fun q => e q.symm)]
set_option tactic.hygienic false

theorem zl_set {xs : List Int} {t : Nat} {a : Int} : (zl xs).set t (.int a) = zl (xs.set t a) := by simp [zl, List.map_set]
theorem co_replicate (n i : Nat) : co (List.replicate n 0) i = 0 := by
  simp only [co, List.getD_eq_getElem?_getD, List.getElem?_replicate]
  split <;> rfl

/-- row j's part of the product, up to its place l -/
noncomputable def part (f g : Nat → Int) (j l t : Nat) : Int := if j ≤ t ∧ t - j < l then f j * g (t - j) else 0
noncomputable def rows (f g : Nat → Int) (t j : Nat) : Int := sm (fun i => if i ≤ t then f i * g (t - i) else 0) j

theorem part_full (f : Nat → Int) (ys : List Int) (j t : Nat) : rows f (co ys) t j + part f (co ys) j ys.length t = rows f (co ys) t (j + 1) := by
  unfold rows part
  rw [sm]
  congr 1
  by_cases h : j ≤ t
  · rw [if_pos h]
    split
    · rfl
    · rw [co_ge (by lia), Int.mul_zero]
  · rw [if_neg (by lia), if_neg h]

set_option tactic.hygienic true
theorem spec_times (n i j : Nat) (xs ys : List Int) (H : Hp) (P : PV) (hi : H[i]? = some (zl xs)) (hj : H[j]? = some (zl ys)) (rx : Red xs) (lx : xs.length ≤ 400000) (ly : ys.length ≤ 400000)
    (h : ∀ k zs H', H <+: H' → H.length ≤ k → H'[k]? = some (zl zs) → Trim zs → Red zs → zs.length ≤ xs.length + ys.length → (∀ t, co zs t = cv (co xs) (co ys) t % 251) → P (.ref k) H') : run T (n + 2) 14 [.ref i, .ref j] H P := by
  refine run_succ (d := f_times) rfl rfl (by decide) ?_
  simp only [f_times, entry, List.map, List.replicate, Nat.reduceSub, List.cons_append, List.nil_append]
  (with_reducible first | refine Zb ?_ | (refine Zf ?_; intro J)); simp only [↓Yd, Zi, ZU, e_bin, e_comp, Zx, ZJ, Za, u_len_ref, b_add, set_2, Zq hi, Zq hj, Zr]
  refine comp_range (Zo _ _) (by decide) (by lia) (fun s acc H' => H' = H ∧ acc = zl (List.replicate s 0)) ⟨rfl, rfl⟩ ?_ ?_
  · rintro s acc H' hs ⟨rfl, rfl⟩
    (try (with_reducible (first | refine Zh ?_ | refine Zd ?_); intro J))
    (try simp only [e_bool, ZU, branch_true, List.cons_append, List.nil_append])
    refine ⟨(by trivial), ?_⟩
    rw [zl_append, List.replicate_succ']
  rintro acc H' ⟨rfl, rfl⟩
  (try (with_reducible (first | refine Zh ?_ | refine Zd ?_); intro J))
  rw [show ((xs.length : Int) + ys.length - 0).toNat = xs.length + ys.length by lia]
  (try skip)
  (try change wpSs _ _ _ _ _)
  refine s_cut (Zo _ _) (fun m' H2 => Ex5 fun fs t3 t4 t5 t6 => And5 (H' <+: H2) (H2[H'.length]? = some (zl fs)) (fs.length = xs.length + ys.length) ((∀ t, co fs t = rows (co xs) (co ys) t xs.length % 251)) (m' = [some (.ref i), some (.ref j), some (.ref H'.length), t3, t4, t5, t6])) ?_ ?_
  · (try (with_reducible refine post_letS ?_; intro J))
    (try simp only [s_each, ZI, Zc, Zx])
    refine each_enum (Zo _ _) (Zz hi) (fun q m' H2 => Ex5 fun fs t3 t4 t5 t6 => And5 (H' <+: H2) (H2[H'.length]? = some (zl fs)) (fs.length = xs.length + ys.length) ((∀ t, co fs t = rows (co xs) (co ys) t q % 251)) (m' = [some (.ref i), some (.ref j), some (.ref H'.length), t3, t4, t5, t6])) ?_ ?_ ?_ ?_
    · exact ⟨_, none, none, none, none, List.prefix_append _ _, Zm, by simp, fun t => by rw [co_replicate]; rfl, rfl⟩
    · rintro q m H2 ⟨fs, t3, t4, t5, t6, hp, _⟩
      (try (with_reducible (first | refine Zh ?_ | refine Zd ?_); intro J))
      exact Zl hp hi
    · rintro q v m H2 hv ⟨fs, t3, t4, t5, t6, hp, hk, hl, hc, rfl⟩
      (try (with_reducible (first | refine Zh ?_ | refine Zd ?_); intro J))
      obtain ⟨a, ha, rfl⟩ := zl_at hv
      have hq : q < xs.length := (List.getElem?_eq_some_iff.mp ha).1
      have ea : a = co xs q := by rw [co_lt hq]; rw [List.getElem?_eq_getElem hq] at ha; exact (Option.some.inj ha).symm
      subst ea
      (with_reducible first | refine Zb ?_ | (refine Zf ?_; intro J)); simp only [s_each, ZI, Zc, ZJ, set_3, set_4]
      refine each_enum (Zo _ _) (Zl hp hj) (fun l m' H2 => Ex3 fun fs t5 t6 => And5 (H' <+: H2) (H2[H'.length]? = some (zl fs)) (fs.length = xs.length + ys.length) ((∀ t, co fs t = (rows (co xs) (co ys) t q + part (co xs) (co ys) q l t) % 251)) (m' = [some (.ref i), some (.ref j), some (.ref H'.length), some (.int q), some (.int (co xs q)), t5, t6])) ?_ ?_ ?_ ?_
      · refine ⟨fs, t5, t6, hp, hk, hl, fun t => ?_, rfl⟩
        rw [hc t, part, if_neg (by lia), Int.add_zero]
      · rintro l m H3 ⟨fs, t5, t6, hp, _⟩
        (try (with_reducible (first | refine Zh ?_ | refine Zd ?_); intro J))
        exact Zl hp hj
      · rintro l v m H3 hv ⟨fs, t5, t6, hp, hk, hl, hc, rfl⟩
        (try (with_reducible (first | refine Zh ?_ | refine Zd ?_); intro J))
        obtain ⟨b, hb, rfl⟩ := zl_at hv
        have hlt : l < ys.length := (List.getElem?_eq_some_iff.mp hb).1
        have eb : b = co ys l := by rw [co_lt hlt]; rw [List.getElem?_eq_getElem hlt] at hb; exact (Option.some.inj hb).symm
        subst eb
        (with_reducible first | refine Zb ?_ | (refine Zf ?_; intro J)); simp only [↓Zp, ↓f_bav, ↓f_bvb, s_setItem, Zc, e_bin, Yc, at_3, at_4, at_5, at_6, Za, set_ref, b_add, b_mul, b_item_ref, set_5, set_6, Zq hk]
        have ei : ((q : Int) + (l : Int)).toNat = q + l := by lia
        refine Zw (by lia) (zl_get (xs := fs) (by lia)) ?_
        (try simp only [b_add, ZY, Zq hk, Zr, zl_set, ei])
        refine ⟨.inl (red_small (co_red rx q)), by decide, by lia, by lia, _, _, _, pre_set hp (Nat.le_refl _), set_get hk, by simp [hl], fun t => ?_, rfl⟩
        rw [co_set (by lia)]
        have e1 : fs[((q : Int) + (l : Int)).toNat]'(by lia) = co fs (q + l) := by rw [co_lt (by lia)]; congr 1
        split
        · rename_i et
          subst et
          have e2 : fs[q + l]'(by lia) = co fs (q + l) := by rw [co_lt (by lia)]
          rw [e2, hc (q + l)]
          have e3 : part (co xs) (co ys) q l (q + l) = 0 := by rw [part, if_neg (by lia)]
          have e4 : part (co xs) (co ys) q (l + 1) (q + l) = co xs q * co ys l := by rw [part, if_pos (by lia), show q + l - q = l by lia]
          rw [e3, e4, Int.add_zero]
          exact Int.emod_add_emod _ _ _
        · rename_i et
          rw [hc t]
          congr 2
          unfold part
          by_cases hh : q ≤ t ∧ t - q < l
          · rw [if_pos hh, if_pos (by lia)]
          · rw [if_neg hh, if_neg (by lia)]
      · rintro m H3 ⟨fs, t5, t6, hp, hk, hl, hc, rfl⟩
        (try (with_reducible (first | refine Zh ?_ | refine Zd ?_); intro J))
        refine ⟨fs, _, _, t5, t6, hp, hk, hl, fun t => ?_, rfl⟩
        rw [hc t, Zr, part_full]
    · rintro m H2 ⟨fs, t3, t4, t5, t6, hp, hk, hl, hc, rfl⟩
      (try (with_reducible (first | refine Zh ?_ | refine Zd ?_); intro J))
      exact ⟨fs, t3, t4, t5, t6, hp, hk, hl, fun t => by rw [hc t, Zr], rfl⟩
  rintro m H2 ⟨fs, t3, t4, t5, t6, hp, hk, hl, hc, rfl⟩
  (try (with_reducible (first | refine Zh ?_ | refine Zd ?_); intro J))
  (with_reducible first | refine Zb ?_ | (refine Zf ?_; intro J)); simp only [↓f_v, ZV, Yc]
  refine spec_trimmed _ _ fs _ _ hk fun k' zs H3 h1 h2 h3 h4 h5 h6 => ?_
  (try skip)
  have h7 : ∀ t, co zs t = cv (co xs) (co ys) t % 251 := fun t => by rw [h6 t, hc t, rows, cv_row]
  refine h k' zs H3 (hp.trans h1) (by have := hp.length_le; lia) h3 h4 (fun a ha => ?_) (by lia) h7
  obtain ⟨t, ht, rfl⟩ := List.mem_iff_getElem.mp ha
  rw [← co_lt ht, h7]
  exact ⟨Int.emod_nonneg _ (by decide), Int.emod_lt_of_pos _ (by decide)⟩
set_option tactic.hygienic false

end Mine

namespace Mine

/-- rests modulo 251 -/
abbrev F := Fin 251
/-- power series over F -/
abbrev PS : Type := Nat → F

/-- the Cauchy product -/
noncomputable def ml (f g : Nat → F) : Nat → F
  | 0 => f 0 * g 0
  | t + 1 => f 0 * g (t + 1) + ml (fun i => f (i + 1)) g t

/-- a constant -/
noncomputable def cs (c : F) : Nat → F := fun t => if t = 0 then c else 0
noncomputable def pa (f g : PS) : PS := fun t => f t + g t
noncomputable def pb (f g : PS) : PS := fun t => f t - g t
noncomputable def pn (f : PS) : PS := fun t => - f t
noncomputable def pm (f g : PS) : PS := ml f g
noncomputable def pc (c : F) : PS := cs c
noncomputable def pp (f : PS) : Nat → PS
  | 0 => pc 1
  | n + 1 => pm (pp f n) f


noncomputable def nf : Nat → F
  | 0 => 0
  | n + 1 => nf n + 1
end Mine

namespace Mine

/-- an int as a rest -/
noncomputable def fz (a : Int) : F := Fin.ofNat 251 (a % 251).toNat
theorem fz_val (a : Int) : (fz a).val = (a % 251).toNat := by
  show (a % 251).toNat % 251 = _
  have := Int.emod_lt_of_pos a (show (0 : Int) < 251 by decide)
  lia
theorem nat_mod (n : Nat) : ((n : Int) % 251).toNat = n % 251 := by
  rw [show (251 : Int) = ((251 : Nat) : Int) from rfl, ← Int.natCast_emod, Int.toNat_natCast]
theorem rest_nat (a : Int) : ∃ x : Nat, a % 251 = x := ⟨(a % 251).toNat, (Int.toNat_of_nonneg (Int.emod_nonneg a (by decide))).symm⟩
theorem fz_add (a b : Int) : fz (a + b) = fz a + fz b := by
  apply Fin.ext
  obtain ⟨x, hx⟩ := rest_nat a
  obtain ⟨y, hy⟩ := rest_nat b
  rw [Fin.val_add, fz_val, fz_val, fz_val, Int.add_emod, hx, hy, ← Int.natCast_add, Int.toNat_natCast, Int.toNat_natCast, nat_mod]
theorem fz_mul (a b : Int) : fz (a * b) = fz a * fz b := by
  apply Fin.ext
  obtain ⟨x, hx⟩ := rest_nat a
  obtain ⟨y, hy⟩ := rest_nat b
  rw [Fin.val_mul, fz_val, fz_val, fz_val, Int.mul_emod, hx, hy, ← Int.natCast_mul, Int.toNat_natCast, Int.toNat_natCast, nat_mod]
theorem fz_neg (a : Int) : fz (-a) = - fz a := by
  have h : fz (-a) + fz a = 0 := by rw [← fz_add, Int.add_left_neg]; rfl
  grind
theorem fz_sub (a b : Int) : fz (a - b) = fz a - fz b := by
  rw [Int.sub_eq_add_neg, fz_add, fz_neg]; grind
theorem fz_mod (a : Int) : fz (a % 251) = fz a := by
  apply Fin.ext; rw [fz_val, fz_val, Int.emod_emod_of_dvd a (Int.dvd_refl 251)]
theorem fz_iff {a b : Int} : fz a = fz b ↔ a % 251 = b % 251 := by
  constructor
  · intro h
    have := congrArg Fin.val h
    rw [fz_val, fz_val] at this
    lia
  · intro h; apply Fin.ext; rw [fz_val, fz_val, h]
theorem fz_zero : fz 0 = 0 := rfl
theorem fz_one : fz 1 = 1 := rfl
theorem fz_eq_zero {a : Int} : fz a = 0 ↔ a % 251 = 0 := by rw [← fz_zero, fz_iff]; rfl
theorem fz_inj {a b : Int} (ha : 0 ≤ a ∧ a < 251) (hb : 0 ≤ b ∧ b < 251) (h : fz a = fz b) : a = b := by
  have := fz_iff.mp h; lia
theorem fz_surj (x : F) : fz x.val = x := by
  apply Fin.ext; rw [fz_val]; have := x.isLt; lia

theorem inv_table : ((List.range 251).all fun x => x == 0 || x * (x ^ 249 % 251) % 251 == 1) = true := by decide +kernel
theorem inv_mul {a : Int} (h : fz a ≠ 0) : fz a * fz (inv a) = 1 := by
  unfold inv
  rw [← pow_emod]
  have hx : ∃ x : Nat, a % 251 = x := ⟨(a % 251).toNat, by lia⟩
  obtain ⟨x, hx⟩ := hx
  have x1 : x < 251 := by lia
  have x0 : x ≠ 0 := fun e => h (fz_eq_zero.mpr (by lia))
  have t := List.all_eq_true.mp inv_table x (List.mem_range.mpr x1)
  have t2 : x * (x ^ 249 % 251) % 251 = 1 := by
    simp only [Bool.or_eq_true, beq_iff_eq] at t
    exact t.resolve_left x0
  rw [← fz_mod a, hx, ← fz_mul, ← fz_one, fz_iff, ← Int.natCast_pow]
  generalize x ^ 249 = p at t2 ⊢
  rw [show ((p : Int) % 251) = ((p % 251 : Nat) : Int) by lia, ← Int.natCast_mul]
  lia
theorem inv_red (a : Int) : 0 ≤ inv a ∧ inv a < 251 := by
  unfold inv
  exact ⟨Int.emod_nonneg _ (by decide), Int.emod_lt_of_pos _ (by decide)⟩
theorem f_inv {x : F} (h : x ≠ 0) : ∃ y, x * y = 1 := ⟨fz (inv x.val), by have := inv_mul (a := x.val); rw [fz_surj] at this; exact this h⟩
theorem f_mul {x y : F} (h : x * y = 0) : x = 0 ∨ y = 0 := by
  by_cases hx : x = 0
  · exact .inl hx
  · obtain ⟨z, hz⟩ := f_inv hx
    right
    grind

/-! lists -/
noncomputable def ps (xs : List Int) : PS := fun t => fz (co xs t)
theorem ps_top {xs : List Int} (hr : Red xs) (ht : Trim xs) {n : Nat} (hn : xs.length = n + 1) : ps xs n ≠ 0 := by
  intro h
  have hc := co_red hr n
  have := fz_eq_zero.mp h
  apply ht
  rw [List.getLast?_eq_getElem?, hn, Nat.add_sub_cancel]
  have e : co xs n = 0 := by lia
  rw [co_lt (by lia)] at e
  rw [List.getElem?_eq_getElem (by lia), e]
end Mine

namespace Mine

/-- alike below N -/
noncomputable def al (N : Nat) (f g : PS) : Prop := ∀ t, t < N → f t = g t
end Mine

namespace Mine

/-- x times the derivative -/
noncomputable def eu (f : PS) : PS := fun t => fz t * f t
/-- the sums of the powers -/
noncomputable def pw : List Int → PS
  | [] => fun _ => 0
  | a :: r => fun t => if t = 0 then 0 else fz a ^ t + pw r t
end Mine

namespace Mine

/-! at most as many roots as the degree -/
noncomputable def evF : List F → F → F
  | [], _ => 0
  | a :: r, x => a + x * evF r x
noncomputable def syn : List F → F → List F
  | [], _ => []
  | [_], _ => []
  | _ :: b :: r, x => evF (b :: r) x :: syn (b :: r) x
theorem syn_len (x : F) : ∀ fs : List F, (syn fs x).length = fs.length - 1
  | [] => rfl
  | [_] => rfl
  | _ :: b :: r => by rw [syn, List.length_cons, syn_len x (b :: r)]; simp
theorem rg_syn {R : Type} [Lean.Grind.CommRing R] {x y a u v w : R} (h : v - w = (y - x) * u) : a + y * v - (a + x * w) = (y - x) * (w + y * u) := by grind
theorem syn_ev (x y : F) : ∀ fs : List F, evF fs y - evF fs x = (y - x) * evF (syn fs x) y
  | [] => by simp only [evF, syn]; grind
  | [a] => by simp only [evF, syn]; grind
  | a :: b :: r => by
    have h := syn_ev x y (b :: r)
    show a + y * evF (b :: r) y - (a + x * evF (b :: r) x) = (y - x) * (evF (b :: r) x + y * evF (syn (b :: r) x) y)
    exact rg_syn h
theorem syn_last (x : F) : ∀ fs : List F, 2 ≤ fs.length → (syn fs x).getLast? = fs.getLast?
  | [], h => by simp at h
  | [_], h => by simp at h
  | [a, b], _ => by show some (b + x * 0) = some b; rw [show b + x * 0 = b by grind]
  | a :: b :: c :: r, _ => by
    have := syn_last x (b :: c :: r) (by simp)
    rw [syn, List.getLast?_cons_cons, ← this, List.getLast?_cons]
    cases e : (syn (b :: c :: r) x) with
    | nil => have := syn_len x (b :: c :: r); rw [e] at this; simp at this
    | cons p q => simp [List.getLast?_cons]
theorem roots_most : ∀ (n : Nat) (fs rs : List F), fs.length = n → (∀ c, fs.getLast? = some c → c ≠ 0) → fs ≠ [] → rs.Nodup → (∀ r ∈ rs, evF fs r = 0) → rs.length + 1 ≤ fs.length
  | n, fs, [], _, _, h, _, _ => by have := List.length_pos_iff.mpr h; simp only [List.length_nil]; lia
  | 0, fs, r :: rs, hn, _, h, _, _ => absurd (List.length_eq_zero_iff.mp hn) h
  | 1, fs, r :: rs, hn, hl, h, _, hz => by
    obtain ⟨a, rfl⟩ := List.length_eq_one_iff.mp hn
    exfalso
    have := hz r List.mem_cons_self
    apply hl a rfl
    simp only [evF] at this
    grind
  | n + 2, fs, r :: rs, hn, hl, h, hd, hz => by
    have l1 := syn_len r fs
    have ih := roots_most (n + 1) (syn fs r) rs (by lia) (fun c hc => hl c (by rw [← syn_last r fs (by lia)]; exact hc)) (by intro e; rw [e] at l1; simp at l1; lia) (List.nodup_cons.mp hd).2 (fun y hy => by
      have e1 := syn_ev r y fs
      rw [hz r List.mem_cons_self, hz y (List.mem_cons_of_mem _ hy)] at e1
      have ne : y - r ≠ 0 := fun q => (List.nodup_cons.mp hd).1 (by rw [show r = y by grind]; exact hy)
      have e2 : (y - r) * evF (syn fs r) y = 0 := by grind
      exact (f_mul e2).resolve_left ne)
    simp only [List.length_cons]
    lia
theorem fz_evF (x : Int) : ∀ xs : List Int, fz (ev xs x) = evF (xs.map fz) (fz x)
  | [] => rfl
  | a :: r => by rw [ev, fz_add, fz_mul, fz_evF x r]; rfl

theorem mem_roots {xs : List Int} {r : Int} : r ∈ rootsOf xs ↔ (1 ≤ r ∧ r ≤ 250) ∧ fz (ev xs r) = 0 := by
  unfold rootsOf
  rw [fz_eq_zero]
  constructor
  · intro h
    obtain ⟨j, hj, rfl⟩ := List.mem_map.mp h
    obtain ⟨h1, h2⟩ := List.mem_filter.mp hj
    have := List.mem_range.mp h1
    exact ⟨by lia, of_decide_eq_true h2⟩
  · rintro ⟨⟨h1, h2⟩, h3⟩
    refine List.mem_map.mpr ⟨(r - 1).toNat, List.mem_filter.mpr ⟨List.mem_range.mpr (by lia), ?_⟩, by lia⟩
    rw [show (1 + ((r - 1).toNat : Int)) = r by lia]
    exact decide_eq_true h3
theorem nodup_map {α β : Type} {f : α → β} {l : List α} (hf : ∀ a ∈ l, ∀ b ∈ l, f a = f b → a = b) (h : l.Nodup) : (l.map f).Nodup := by
  induction l with
  | nil => exact List.nodup_nil
  | cons a r ih =>
    rw [List.map_cons, List.nodup_cons]
    have h' := List.nodup_cons.mp h
    refine ⟨fun q => ?_, ih (fun x hx y hy => hf x (List.mem_cons_of_mem _ hx) y (List.mem_cons_of_mem _ hy)) h'.2⟩
    obtain ⟨b, hb, e⟩ := List.mem_map.mp q
    have := hf a List.mem_cons_self b (List.mem_cons_of_mem _ hb) e.symm
    exact h'.1 (this ▸ hb)
theorem roots_nodup (xs : List Int) : (rootsOf xs).Nodup := by
  unfold rootsOf
  exact nodup_map (fun a _ b _ e => by lia) (List.Pairwise.filter _ List.nodup_range)
theorem roots_le {xs : List Int} (hr : Red xs) (ht : Trim xs) (hn : xs ≠ []) : (rootsOf xs).length + 1 ≤ xs.length := by
  have := roots_most _ (xs.map fz) ((rootsOf xs).map fz) rfl ?_ (by simpa using hn) ?_ ?_
  · simpa using this
  · intro c hc q
    rw [List.getLast?_map, Option.map_eq_some_iff] at hc
    obtain ⟨a, ha, e⟩ := hc
    apply ht
    rw [ha]
    have := hr a (List.mem_of_getLast? ha)
    rw [q] at e
    have := fz_eq_zero.mp e
    congr 1; lia
  · refine nodup_map (fun a ha b hb e => ?_) (roots_nodup xs)
    have h1 := (mem_roots.mp ha).1
    have h2 := (mem_roots.mp hb).1
    exact fz_inj (by lia) (by lia) e
  · intro r hr
    obtain ⟨a, ha, rfl⟩ := List.mem_map.mp hr
    rw [← fz_evF]
    exact (mem_roots.mp ha).2

/-! the numbers of a product -/
/-- numbers of a row -/
noncomputable def Num (A : List Int) : Prop := ∀ a ∈ A, 1 ≤ a ∧ a ≤ 250
end Mine

open PySem
set_option linter.unusedSimpArgs false
set_option linter.unusedVariables false
namespace Mine

theorem set_ne {H : Hp} {k l : Nat} {vs ws : List V} (h : H[k]? = some vs) (n : l ≠ k) : (H.set l ws)[k]? = some vs := by rw [List.getElem?_set_ne n]; exact h
theorem lt_of {H : Hp} {k : Nat} {vs : List V} (h : H[k]? = some vs) : k < H.length := (List.getElem?_eq_some_iff.mp h).1
theorem last_co {xs : List Int} (h : xs ≠ []) : xs.getLast h = co xs (xs.length - 1) := by
  have := List.length_pos_iff.mpr h
  rw [List.getLast_eq_getElem, co_lt (by lia)]
theorem red_set {xs : List Int} {t : Nat} {a : Int} (h : Red xs) (ha : 0 ≤ a ∧ a < 251) : Red (xs.set t a) := fun b hb => by
  rcases List.mem_or_eq_of_mem_set hb with q | q
  · exact h b q
  · subst q; exact ha
theorem red_of_co {xs : List Int} (h : ∀ t, t < xs.length → 0 ≤ co xs t ∧ co xs t < 251) : Red xs := fun a ha => by
  obtain ⟨t, ht, rfl⟩ := List.getElem_of_mem ha
  have := h t ht
  rwa [co_lt ht] at this
theorem red_replicate (n : Nat) : Red (List.replicate n 0) := fun a ha => by
  rw [List.mem_replicate] at ha
  lia
end Mine

open PySem
set_option linter.unusedSimpArgs false
set_option linter.unusedVariables false
namespace Mine

theorem at_of {m : Loc} {i : Nat} {v : V} {P : V → Prop} (h : m[i]? = some (some v)) : at? m i P = P v := by simp only [at?, h]
/-! slices -/
noncomputable def sliceOf (v a b : V) (H : Hp) (P : PV) : Prop := match v, part? a, part? b with
  | .ref k, some l, some h => withL H k fun vs => P (.ref H.length) (H ++ [picked vs l h])
  | .tup vs, some l, some h => tupSl vs l h fun us => P (.tup us) H
  | _, _, _ => False
theorem e_slice {C : Calls} {e lo hi : X} {m : Loc} {H : Hp} {P : PV} : wpE C (.slice e lo hi) m H P = wpE C e m H fun v H₁ => wpE C lo m H₁ fun a H₂ => wpE C hi m H₂ fun b H₃ => sliceOf v a b H₃ P := by
  simp only [ZF, ZE, ZM, ZO, ZD, ZH, Yb, ZN, Zu, ZS, ZP, ZZ, ZQ, ZA, ZC, ZT, Zt, ZB, Zs]; rfl
theorem sl_ii {k : Nat} {a b : Int} {H : Hp} {P : PV} : sliceOf (.ref k) (.int a) (.int b) H P = withL H k fun vs => P (.ref H.length) (H ++ [picked vs (some a) (some b)]) := rfl
theorem sl_ni {k : Nat} {b : Int} {H : Hp} {P : PV} : sliceOf (.ref k) .none (.int b) H P = withL H k fun vs => P (.ref H.length) (H ++ [picked vs none (some b)]) := rfl
theorem sl_in {k : Nat} {a : Int} {H : Hp} {P : PV} : sliceOf (.ref k) (.int a) .none H P = withL H k fun vs => P (.ref H.length) (H ++ [picked vs (some a) none]) := rfl
theorem sl_tni {vs : List V} {b : Int} {H : Hp} {P : PV} : sliceOf (.tup vs) .none (.int b) H P = (0 ≤ b ∧ b < vs.length ∧ P (.tup (vs.take b.toNat)) H) := rfl
theorem sl_tin {vs : List V} {a : Int} {H : Hp} {P : PV} : sliceOf (.tup vs) (.int a) .none H P = (1 ≤ a ∧ a ≤ vs.length ∧ P (.tup (vs.drop a.toNat)) H) := rfl
theorem picked_in {xs : List Int} {a : Int} (ha : 0 ≤ a) : picked (zl xs) (some a) none = zl (xs.drop a.toNat) := by
  simp only [picked, Option.elim, clip_nat _ ha, Zr]
  rw [zl, ← List.map_drop, ← List.map_take]
  refine congrArg zl ?_
  rcases Nat.le_total a.toNat xs.length with c | c
  · rw [Nat.min_eq_left c, List.take_of_length_le (by simp)]
  · rw [Nat.min_eq_right c, List.drop_eq_nil_of_le (Nat.le_refl _), List.drop_eq_nil_of_le c, List.take_nil]
theorem picked_ni {xs : List Int} {b : Int} (hb : 0 ≤ b) : picked (zl xs) none (some b) = zl (xs.take b.toNat) := by
  simp only [picked, Option.elim, clip_nat _ hb, Zr, List.drop_zero, Nat.sub_zero]
  rw [zl, ← List.map_take]
  refine congrArg zl ?_
  rw [List.take_eq_take_iff, Nat.min_assoc, Nat.min_self]
theorem red_co {xs ys : List Int} (h : Red xs) (hc : ∀ t, co ys t = co xs t) : Red ys := red_of_co fun t _ => by rw [hc]; exact co_red h t

theorem b_cat {H : Hp} {k l : Nat} {xs ys : List V} {P : PV} (hk : H[k]? = some xs) (hl : H[l]? = some ys) : wpB .add (.ref k) (.ref l) H P = (xs.length + ys.length ≤ room ∧ P (.ref H.length) (H ++ [xs ++ ys])) := (optV_eq hk).trans (optV_eq hl)
theorem zl_cat (A B : List Int) : zl A ++ zl B = zl (A ++ B) := by simp [zl]
end Mine

--STEP: e_slice, sl_ii, sl_ni, sl_in
open PySem
set_option linter.unusedSimpArgs false
set_option linter.unusedVariables false
namespace Mine

/-! comprehensions over numbers -/
theorem at_end {m : Loc} {v : V} {i : Nat} {P : V → Prop} (h : m.length = i) : at? (m ++ [some v]) i P = P v := by subst h; simp [at?]
theorem comp_lmap {C : Calls} {elt : X} {k : Nat} {xs : List Int} {m : Loc} {H : Hp} {P : PV} (hC : LeC C C) (hk : H[k]? = some (zl xs)) (f : Int → Int)
    (step : ∀ a ∈ xs, ∀ H', H <+: H' → ∀ R : PV, (∀ H'', H' <+: H'' → R (.int (f a)) H'') → wpE C elt (m ++ [some (.int a)]) H' R)
    (fin : ∀ H', H <+: H' → P (.ref H'.length) (H' ++ [zl (xs.map f)])) : compOf C elt 1 .seq (.bool true) (.ref k) .none m H P := by
  refine comp_ref hC hk (fun j acc H' => H <+: H' ∧ acc = zl ((xs.take j).map f)) ⟨List.prefix_refl _, rfl⟩ (fun j acc H' h => Zl h.1 hk) ?_ ?_
  · rintro j v acc H' hv ⟨hp, rfl⟩
    (try (with_reducible (first | refine Zh ?_ | refine Zd ?_); intro J))
    obtain ⟨a, ha, rfl⟩ := zl_at hv
    have hj : j < xs.length := (List.getElem?_eq_some_iff.mp ha).1
    rw [e_bool, branch_true]
    refine step a (List.mem_of_getElem? ha) H' hp _ fun H'' h2 => ⟨hp.trans h2, ?_⟩
    rw [List.take_add_one, ha]
    simp [zl]
  · rintro acc H' ⟨hp, rfl⟩
    (try (with_reducible (first | refine Zh ?_ | refine Zd ?_); intro J))
    rw [Zr, List.take_length]
    exact fin H' hp
theorem comp_lpick {C : Calls} {cond : X} {k i : Nat} {xs : List Int} {m : Loc} {H : Hp} {P : PV} (hC : LeC C C) (hk : H[k]? = some (zl xs)) (hm : m.length = i) (p : Int → Bool)
    (step : ∀ a ∈ xs, ∀ R : PV, R (.bool (p a)) H → wpE C cond (m ++ [some (.int a)]) H R)
    (fin : P (.ref H.length) (H ++ [zl (xs.filter p)])) : compOf C (.var i) 1 .seq cond (.ref k) .none m H P := by
  refine comp_ref hC hk (fun j acc H' => H' = H ∧ acc = zl ((xs.take j).filter p)) ⟨rfl, rfl⟩ (fun j acc H' h => h.1 ▸ hk) ?_ ?_
  · rintro j v acc H' hv ⟨rfl, rfl⟩
    (try (with_reducible (first | refine Zh ?_ | refine Zd ?_); intro J))
    obtain ⟨a, ha, rfl⟩ := zl_at hv
    refine step a (List.mem_of_getElem? ha) _ ?_
    rw [List.take_add_one, ha]
    simp only [Option.toList, List.filter_append, zl, List.map_append]
    cases hp : p a with
    | true =>
      rw [branch_true, Zc, at_end hm]
      exact ⟨rfl, by simp [hp]⟩
    | false =>
      rw [branch_false]
      exact ⟨(by trivial), by simp [hp]⟩
  · rintro acc H' ⟨rfl, rfl⟩
    (try (with_reducible (first | refine Zh ?_ | refine Zd ?_); intro J))
    rw [Zr, List.take_length]
    exact fin

/-! membership -/
theorem b_isin {a : Int} {k : Nat} {xs : List Int} {H : Hp} {P : PV} (hk : H[k]? = some (zl xs)) : wpB .isin (.int a) (.ref k) H P = P (.bool (decide (a ∈ xs))) H := (optV_eq hk).trans (optV_eq (zl?_ints _))
theorem b_notin {a : Int} {k : Nat} {xs : List Int} {H : Hp} {P : PV} (hk : H[k]? = some (zl xs)) : wpB .notin (.int a) (.ref k) H P = P (.bool (!decide (a ∈ xs))) H := (optV_eq hk).trans (optV_eq (zl?_ints _))
theorem u_nset {k : Nat} {xs : List Int} {H : Hp} {P : PV} (hk : H[k]? = some (zl xs)) : wpU .nset (.ref k) H P = (xs.length < 4000 ∧ ∀ n : Nat, (xs.Nodup → n = xs.length) → (¬ xs.Nodup → n < xs.length) → P (.int n) H) := (optV_eq hk).trans (optV_eq (zl?_ints _))

theorem num_nil : Num [] := fun a ha => by cases ha
theorem spec_is_whole (n : Nat) (a lo hi : Int) (H : Hp) (P : PV) (h1 : lo ≤ a) (h2 : a ≤ hi) (h : P (.bool true) H) : run T (n + 1) 20 [.int a, .int lo, .int hi] H P := by
  refine run_succ (d := f_is_whole) rfl rfl (by decide) ?_
  simp only [f_is_whole, entry, List.map, List.replicate, Nat.reduceSub, s_cons, ↓Yd, ZG, ZV, Zc, e_chain, e_not, e_and, Zx, ZJ, Yc, branch_true, Ze, not_bool, Zv, u_isInt_int, u_isBool_int, b_le, List.cons_append, List.nil_append, Bool.not_false]
  rw [if_pos h1, decide_eq_true h2]
  exact h

theorem spec_need_row (n k : Nat) (xs : List Int) (H : Hp) (P : PV) (hk : H[k]? = some (zl xs)) (h1 : Num xs) (h2 : xs.Nodup) (h3 : xs.length < 4000) (h : P .none H) : run T (n + 2) 21 [.ref k] H P := by
  refine run_succ (d := f_need_row) rfl rfl (by decide) ?_
  simp only [f_need_row, entry, List.map, List.replicate, Nat.reduceSub, List.cons_append, List.nil_append]
  (with_reducible first | refine Zb ?_ | (refine Zf ?_; intro J)); simp only [↓Yd, ZG, ZW, e_not, Zx, branch_false, not_bool, Za, u_isList_ref, Bool.not_true]
  (try change wpSs _ _ _ _ _)
  refine s_cut (Zo _ _) (fun m' H' => H' = H ∧ ∃ t, m' = [some (.ref k), t]) ?_ ?_
  · (try (with_reducible refine post_letS ?_; intro J))
    (try simp only [s_each, ZI, Zc, Zx])
    refine each_ref (Zo _ _) hk (fun j m' H' => H' = H ∧ ∃ t, m' = [some (.ref k), t]) ⟨rfl, none, rfl⟩ (fun j m H' h => h.1 ▸ hk) ?_ ?_
    · rintro j v m H' hv ⟨rfl, t, rfl⟩
      (try (with_reducible (first | refine Zh ?_ | refine Zd ?_); intro J))
      obtain ⟨a, ha, rfl⟩ := zl_at hv
      have ra := h1 a (List.mem_of_getElem? ha)
      (with_reducible first | refine Zb ?_ | (refine Zf ?_; intro J)); simp only [↓Zp, ZG, ZW, ZU, Zc, e_not, ZR, Zn, Zg, ZJ, Za, b_sub, set_1]
      refine spec_is_whole _ _ _ _ _ _ ra.1 (by lia) ?_
      (try simp only [branch_false, not_bool, Bool.not_true])
      exact ⟨(by trivial), _, rfl⟩
    · rintro m H' ⟨rfl, t, rfl⟩
      (try (with_reducible (first | refine Zh ?_ | refine Zd ?_); intro J))
      exact ⟨rfl, t, rfl⟩
  rintro m H' ⟨rfl, t, rfl⟩
  (try (with_reducible (first | refine Zh ?_ | refine Zd ?_); intro J))
  (with_reducible first | refine Zb ?_ | (refine Zf ?_; intro J)); simp only [↓Yd, ZG, ZW, e_bin, Zx, u_len_ref]
  rw [u_nset hk]
  refine ⟨h3, fun c hc _ => ?_⟩
  rw [hc h2]
  (try simp only [branch_ndecide, b_ne, Zq hk, Zr])
  rw [if_pos trivial]
  exact h

set_option tactic.hygienic true
theorem spec_law_row (n : Nat) (xs : List Int) (at' most : Int) (H : Hp) (P : PV) (h0 : 0 ≤ at') (h0' : at' ≤ 100) (h1 : 0 ≤ most) (h2 : most ≤ 250)
    (h : ∀ k A H', H <+: H' → H.length ≤ k → H'[k]? = some (zl A) → Num A → A.Nodup → A.length ≤ most → P (.ref k) H') : run T (n + 2) 25 [.frz xs, .int at', .int most] H P := by
  refine run_succ (d := f_law_row) rfl rfl (by decide) ?_
  simp only [f_law_row, entry, List.map, List.replicate, Nat.reduceSub, List.cons_append, List.nil_append]
  (with_reducible first | refine Zb ?_ | (refine Zf ?_; intro J)); simp only [↓f_vv, Zi, Zx, ZJ, Za, set_3]
  refine spec_cell _ _ _ _ _ h0 ?_
  generalize cell xs at' = c
  (try skip)
  (with_reducible first | refine Zb ?_ | (refine Zf ?_; intro J)); simp only [↓f_l10, ↓Zp, ↓f_bvb, Zi, Zc, e_bin, Yc, at_3, Za, b_add, b_fdiv, ZY, b_item_ref, set_4]
  refine ⟨by lia, by lia, by decide, withL_of Zm ?_⟩
  refine item_mem (xs := [1, 3, 7, 9, 11, 13, 37, 121, 249, 97]) (Int.emod_nonneg _ (by decide)) (Int.emod_lt_of_pos _ (by decide)) fun st hst => ?_
  have hst' : 0 ≤ st ∧ st ≤ 300 := by
    simp only [List.mem_cons, List.not_mem_nil, or_false] at hst; omega --o
  (with_reducible first | refine Zb ?_ | (refine Zf ?_; intro J)); simp only [↓Zp, ↓f_bvb, Zi, Zc, Yc, at_3, Za, b_add, b_fdiv, set_5]
  refine ⟨by lia, by lia, by decide, by decide, ?_⟩
  generalize c / (most + 1) / 10 = bg
  (with_reducible first | refine Zb ?_ | (refine Zf ?_; intro J)); simp only [↓f_l0, Zi, Za, set_6]
  have p1 : H <+: H ++ [[V.int 1, V.int 3, V.int 7, V.int 9, V.int 11, V.int 13, V.int 37, V.int 121, V.int 249, V.int 97]] := List.prefix_append _ _
  generalize H ++ [[V.int 1, V.int 3, V.int 7, V.int 9, V.int 11, V.int 13, V.int 37, V.int 121, V.int 249, V.int 97]] = H1 at p1 ⊢
  have hs : 0 ≤ c % (most + 1) ∧ c % (most + 1) ≤ most := ⟨Int.emod_nonneg _ (by lia), by have := Int.emod_lt_of_pos c (show 0 < most + 1 by lia); lia⟩
  (try change wpSs _ _ _ _ _)
  refine s_cut (Zo _ _) (fun m' H' => Ex3 fun A t7 t8 => And6 (H <+: H') (H'[H1.length]? = some (zl A)) (Num A) (A.Nodup) (A.length ≤ most) (m' = [some (.frz xs), some (.int at'), some (.int most), some (.int c), some (.int st), some (.int bg), some (.ref H1.length), t7, t8])) ?_ ?_
  · (try (with_reducible refine post_letS ?_; intro J))
    (try simp only [↓Zp, ↓f_bvb, s_each, ZU, Zc, Yc, at_3, b_add, ZY])
    refine ⟨by lia, ?_⟩
    generalize c % (most + 1) = s at hs
    refine each_range (Zo _ _) (by decide) (by lia) (fun q m' H' => Ex3 fun A t7 t8 => And6 (H <+: H') (H'[H1.length]? = some (zl A)) (Num A) (A.Nodup) (A.length ≤ q) (m' = [some (.frz xs), some (.int at'), some (.int most), some (.int c), some (.int st), some (.int bg), some (.ref H1.length), t7, t8])) ?_ ?_ ?_
    · exact ⟨[], none, none, Zy p1, Zm (vs := []), num_nil, List.nodup_nil, by simp, rfl⟩
    · rintro q m' H' hq ⟨A, t7, t8, hp, hk, hn, hd, hl, rfl⟩
      (try (with_reducible (first | refine Zh ?_ | refine Zd ?_); intro J))
      (try change wpSs _ _ _ _ _)
      refine s_cut (Zo _ _) (fun m' H'' => H'' = H' ∧ ∃ a, And3 (1 ≤ a) (a ≤ 250) (m' = [some (.frz xs), some (.int at'), some (.int most), some (.int c), some (.int st), some (.int bg), some (.ref H1.length), some (.int (0 + (q : Int))), some (.int a)])) ?_ ?_
      · (try (with_reducible refine post_letS ?_; intro J))
        (try simp only [↓Zp, ↓f_bav, ↓f_bib, ↓f_bvb, Zi, Zc, at_4, at_5, at_7, Za, b_add, b_mul, ZY, set_7, set_8])
        exact ⟨.inl ⟨by lia, by lia⟩, by decide, (by trivial), _, by lia, by lia, rfl⟩
      rintro m2 H2 ⟨rfl, a, ha0, ha1, rfl⟩
      (try (with_reducible (first | refine Zh ?_ | refine Zd ?_); intro J))
      (try change wpSs _ _ _ _ _)
      refine s_cut (Zo _ _) (fun m' H'' => H'' = H2 ∧ ∃ a, And3 (1 ≤ a) (a ≤ 250) (m' = [some (.frz xs), some (.int at'), some (.int most), some (.int c), some (.int st), some (.int bg), some (.ref H1.length), some (.int (0 + (q : Int))), some (.int a)])) ?_ ?_
      · (try (with_reducible refine post_letS ?_; intro J))
        (try simp only [↓Zp, ZG, ZW, Zc, at_5, Ze, Za, ZY, b_eq])
        refine ⟨by decide, ?_⟩
        split
        · (try change wpSs _ _ _ _ _); simp only [s_cons, ↓Zp, ↓f_bav, ↓f_bib, ZG, Zi, Zc, e_bin, at_5, at_7, Za, b_add, b_mul, b_fdiv, ZY, set_8]
          exact ⟨by decide, by decide, .inl ⟨by lia, by lia⟩, .inr ⟨by lia, by lia⟩, .inl ⟨by lia, by lia⟩, .inr ⟨by lia, by lia⟩, by decide, by decide, (by trivial), _, by lia, by lia, rfl⟩
        · (try skip)
          exact ⟨(by trivial), a, ha0, ha1, rfl⟩
      rintro m3 H3 ⟨rfl, b, hb0, hb1, rfl⟩
      (try (with_reducible (first | refine Zh ?_ | refine Zd ?_); intro J))
      (try change wpSs _ _ _ _ _)
      refine s_cut (Zo _ _) (fun m' H'' => H'' = H3 ∧ ∃ a, And3 (1 ≤ a) (a ≤ 250) (m' = [some (.frz xs), some (.int at'), some (.int most), some (.int c), some (.int st), some (.int bg), some (.ref H1.length), some (.int (0 + (q : Int))), some (.int a)])) ?_ ?_
      · (try (with_reducible refine post_letS ?_; intro J))
        (try simp only [↓Zp, ZG, ZW, Zc, at_5, Ze, Za, ZY, b_eq])
        refine ⟨by decide, ?_⟩
        split
        · (with_reducible first | refine Zb ?_ | (refine Zf ?_; intro J)); simp only [↓Zp, ↓f_bav, ↓f_bib, Zi, ZU, Zc, ZR, Zn, Zg, Zx, ZJ, at_7, Za, b_add, b_mul, set_8]
          refine ⟨.inl ⟨by lia, by lia⟩, ?_⟩
          refine spec_cell _ _ _ _ _ (by lia) ?_
          (try simp only [b_add, ZY])
          exact ⟨by decide, (by trivial), _, by lia, by lia, rfl⟩
        · (try skip)
          exact ⟨(by trivial), b, hb0, hb1, rfl⟩
      rintro m4 H4 ⟨rfl, d, hd0, hd1, rfl⟩
      (try (with_reducible (first | refine Zh ?_ | refine Zd ?_); intro J))
      (with_reducible first | refine Zb ?_ | (refine Zf ?_; intro J)); simp only [↓f_bav, ZG, ZW, Zc, at_6, at_8, branch_ndecide, Za, b_notin hk]
      split
      · rename_i hin
        (try skip)
        exact ⟨A, _, _, hp, hk, hn, hd, by lia, rfl⟩
      · rename_i hin
        (with_reducible first | refine Zb ?_ | (refine Zf ?_; intro J)); simp only [s_append, Zc, at_6, at_8, Za, app_ref, Zq hk]
        refine ⟨by rw [Zr]; unfold room; lia, A ++ [d], _, _, pre_set hp ?_, ?_, ?_, ?_, by simp; lia, rfl⟩
        · have := p1.length_le; lia
        · rw [set_get hk, zl_append]
        · intro x hx
          rcases List.mem_append.mp hx with y | y
          · exact hn x y
          · simp only [List.mem_singleton] at y; subst y; exact ⟨hd0, hd1⟩
        · rw [List.nodup_append]
          refine ⟨hd, by simp, fun x hx y hy e => ?_⟩
          simp only [List.mem_singleton] at hy
          subst hy; subst e; exact hin hx
    · rintro m' H' ⟨A, t7, t8, hp, hk, hn, hd, hl, rfl⟩
      (try (with_reducible (first | refine Zh ?_ | refine Zd ?_); intro J))
      exact ⟨A, t7, t8, hp, hk, hn, hd, by lia, rfl⟩
  rintro m' H' ⟨A, t7, t8, hp, hk, hn, hd, hl, rfl⟩
  (try (with_reducible (first | refine Zh ?_ | refine Zd ?_); intro J))
  (try change wpSs _ _ _ _ _); simp only [s_cons, ZG, ZV, Zc, at_6, Zv]
  exact h _ A H' hp p1.length_le hk hn hd hl
set_option tactic.hygienic false

end Mine

--STEP: e_slice, sl_ii, sl_ni, sl_in
open PySem
set_option linter.unusedSimpArgs false
set_option linter.unusedVariables false
namespace Mine

theorem b_pow {H : Hp} {P : PV} : wpB .pow (.int 10) (.int 20) H P = P (.int 100000000000000000000) H := by
  exact propext ⟨fun h => h.2.2, fun h => ⟨rfl, rfl, h⟩⟩

theorem spec_sound (n k i j : Nat) (A L O : List Int) (H : Hp) (P : PV) (hk : H[k]? = some (zl A)) (hi : H[i]? = some (zl L)) (hj : H[j]? = some (zl O)) (h1 : Num A) (h2 : A.Nodup) (h3 : A.length < 4000)
    (h : ∀ H', H <+: H' → P (.bool ((L.all fun a => decide (a ∈ A)) && O.all fun a => !decide (a ∈ A))) H') : run T (n + 3) 37 [.ref k, .ref i, .ref j] H P := by
  refine run_succ (d := f_sound) rfl rfl (by decide) ?_
  simp only [f_sound, entry, List.map, List.replicate, Nat.reduceSub, List.cons_append, List.nil_append]
  (with_reducible first | refine Zb ?_ | (refine Zf ?_; intro J)); simp only [s_expr, Zc, Zn, Zg, Zx, Za]
  refine spec_need_row _ _ A _ _ hk h1 h2 h3 ?_
  (try skip)
  (with_reducible first | refine Zb ?_ | (refine Zf ?_; intro J)); simp only [↓Zp, ZG, ZW, ZI, Zc, e_un, e_comp, ZJ, Za]
  refine comp_lpick (Zo _ _) hi rfl (fun a => !decide (a ∈ A)) (fun a ha R hR => ?_) ?_
  · (try simp only [↓f_bav, Zc, Zx, at_3, List.cons_append, List.nil_append, b_notin hk])
    exact hR
  (try simp only [Ze, u_len_ref, b_gt])
  refine withL_of Zm ?_
  rw [Zr]
  have e1 : (L.filter fun a => !decide (a ∈ A)) = [] ↔ (L.all fun a => decide (a ∈ A)) = true := by
    rw [List.filter_eq_nil_iff, List.all_eq_true]; simp
  have e2 : (O.filter fun a => decide (a ∈ A)) = [] ↔ (O.all fun a => !decide (a ∈ A)) = true := by
    rw [List.filter_eq_nil_iff, List.all_eq_true]; simp
  by_cases c1 : (L.filter fun a => !decide (a ∈ A)) = []
  · rw [c1]
    rw [e1.mp c1] at h
    rw [if_neg (by simp)]
    (try change wpSs _ _ _ _ _); simp only [s_cons, ↓Zp, ZG, ZV, ZI, Zc, e_un, e_comp, Yc, Zv]
    refine comp_lpick (Zo _ _) (Zz hj) rfl (fun a => decide (a ∈ A)) (fun a ha R hR => ?_) ?_
    · (try simp only [↓f_bav, Zc, Zx, at_3, List.cons_append, List.nil_append, b_isin (Zz hk)])
      exact hR
    (try simp only [u_len_ref, b_eq])
    refine withL_of Zm ?_
    rw [Zr]
    by_cases c2 : (O.filter fun a => decide (a ∈ A)) = []
    · rw [c2]
      rw [e2.mp c2] at h
      exact h _ (Zy (List.prefix_append _ _))
    · have c3 : (O.all fun a => !decide (a ∈ A)) = false := by
        cases e : (O.all fun a => !decide (a ∈ A)) with
        | false => rfl
        | true => exact absurd (e2.mpr e) c2
      rw [c3] at h
      have := List.length_pos_iff.mpr c2
      rw [decide_eq_false (by lia)]
      exact h _ (Zy (List.prefix_append _ _))
  · have c3 : (L.all fun a => decide (a ∈ A)) = false := by
      cases e : (L.all fun a => decide (a ∈ A)) with
      | false => rfl
      | true => exact absurd (e1.mpr e) c1
    rw [c3] at h
    have := List.length_pos_iff.mpr c1
    rw [if_pos (by lia)]
    (try change wpSs _ _ _ _ _); simp only [s_cons, ZG, ZV, e_bool, Za, Zv]
    exact h _ (List.prefix_append _ _)

theorem item_zl {xs : List Int} {i : Int} {F : V → Prop} (h0 : 0 ≤ i) (h1 : i < xs.length) (q : F (.int (co xs i.toNat))) : itemOf (zl xs) i F :=
  Zw h0 (zl_get (xs := xs) (by lia)) (by rw [co_lt (by lia)] at q; exact q)

end Mine

--STEP: e_slice, sl_ii, sl_ni, sl_in
open PySem
set_option linter.unusedSimpArgs false
set_option linter.unusedVariables false
namespace Mine


theorem spec_need_count (n : Nat) (many : Int) (H : Hp) (P : PV) (h1 : 1 ≤ many) (h2 : many ≤ 12) (h : P .none H) : run T (n + 2) 22 [.int many] H P := by
  refine run_succ (d := f_need_count) rfl rfl (by decide) ?_
  simp only [f_need_count, entry, List.map, List.replicate, Nat.reduceSub, List.cons_append, List.nil_append]
  (with_reducible first | refine Zb ?_ | (refine Zf ?_; intro J)); simp only [ZG, ZW, ZU, Zc, e_not, ZR, Zn, Zg, Zx]
  refine spec_is_whole _ _ _ _ _ _ h1 h2 ?_
  (try simp only [branch_false, not_bool, Bool.not_true])
  exact h

end Mine

--STEP: e_slice, sl_ii, sl_ni, sl_in
open PySem
set_option linter.unusedSimpArgs false
set_option linter.unusedVariables false
namespace Mine

theorem spec_need_letter (n : Nat) (c : Int) (S : List Int) (H : Hp) (P : PV) (h0 : 0 ≤ c) (h1 : c ≤ 250) (rS : Red S) (l1 : 1 ≤ S.length) (l2 : S.length ≤ 12) (h : P .none H) : run T (n + 2) 28 [.tup [.int c, .tup (zl S)]] H P := by
  refine run_succ (d := f_need_letter) rfl rfl (by decide) ?_
  simp only [f_need_letter, entry, List.map, List.replicate, Nat.reduceSub, List.cons_append, List.nil_append]
  (with_reducible first | refine Zb ?_ | (refine Zf ?_; intro J)); simp only [↓Yd, ↓Zp, ZG, ZW, ZU, Zc, e_not, e_or, ZR, Zn, Zg, Zx, branch_false, branch_ndecide, not_bool, Za, u_len_tup, u_isTuple_tup, b_sub, b_ne, b_item_tup, Bool.not_true]
  rw [if_pos (show (([V.int c, V.tup (zl S)] : List V).length : Int) = 2 from rfl)]
  refine Zw (by decide) rfl ?_
  (try skip)
  refine spec_is_whole _ _ _ _ _ _ h0 (by lia) ?_
  (try simp only [branch_false, not_bool, Bool.not_true])
  (with_reducible first | refine Zb ?_ | (refine Zf ?_; intro J)); simp only [↓Zp, ZG, ZW, ZU, Zc, e_un, e_chain, e_not, e_or, Zx, Za, b_item_tup]
  refine Zw (by decide) rfl ?_
  (try simp only [branch_false, not_bool, u_isTuple_tup, Bool.not_true])
  refine Zw (by decide) rfl ?_
  (try simp only [Ze, branch_ndecide, not_bool, u_len_tup, b_le, Zr])
  rw [if_pos (by lia), if_pos (by lia)]
  (try change wpSs _ _ _ _ _)
  refine s_cut (Zo _ _) (fun m' H' => H' = H ∧ ∃ t, m' = [some (.tup [.int c, .tup (zl S)]), t]) ?_ ?_
  · (try (with_reducible refine post_letS ?_; intro J))
    (try simp only [↓Zp, s_each, ZI, Zc, Zx, b_item_tup])
    refine Zw (by decide) rfl ?_
    refine each_tup (Zo _ _) (fun j m' H' => H' = H ∧ ∃ t, m' = [some (.tup [.int c, .tup (zl S)]), t]) ⟨rfl, none, rfl⟩ ?_ ?_
    · rintro j v m H' hv ⟨rfl, t, rfl⟩
      (try (with_reducible (first | refine Zh ?_ | refine Zd ?_); intro J))
      obtain ⟨a, ha, rfl⟩ := zl_at hv
      have ra := rS a (List.mem_of_getElem? ha)
      (with_reducible first | refine Zb ?_ | (refine Zf ?_; intro J)); simp only [↓Zp, ZG, ZW, ZU, Zc, e_not, ZR, Zn, Zg, ZJ, Za, b_sub, set_1]
      refine spec_is_whole _ _ _ _ _ _ ra.1 (by lia) ?_
      (try simp only [branch_false, not_bool, Bool.not_true])
      exact ⟨(by trivial), _, rfl⟩
    · rintro m H' ⟨rfl, t, rfl⟩
      (try (with_reducible (first | refine Zh ?_ | refine Zd ?_); intro J))
      exact ⟨rfl, t, rfl⟩
  rintro m H' ⟨rfl, t, rfl⟩
  (try (with_reducible (first | refine Zh ?_ | refine Zd ?_); intro J))
  (try simp only [ZG])
  exact h

theorem wp_zip {C : Calls} (f : Int → Int → Int) {elt : X} (he : ∀ x y (R : V → Prop), R (.int (f x y)) → wpE C elt [some (.int x), some (.int y)] [] fun v _ => R v) :
    ∀ (X Y : List Int) (acc : List V) (P : List V → Prop), P (acc ++ zl (List.zipWith f X Y)) → wpZip (fun x y P' => wpE C elt [some (.int x), some (.int y)] [] fun v _ => P' v) X Y acc P
  | [], Y, acc, P, h => by simp only [List.zipWith_nil_left, zl, List.map_nil, List.append_nil] at h; exact h
  | x :: X, [], acc, P, h => by simp only [List.zipWith_nil_right, zl, List.map_nil, List.append_nil] at h; exact h
  | x :: X, y :: Y, acc, P, h => by
    rw [wpZip]
    refine he x y _ ?_
    refine wp_zip f he X Y _ P ?_
    simpa [zl] using h
theorem e_zcomp {C : Calls} {elt a b : X} {m : Loc} {H : Hp} {P : PV} (f : Int → Int → Int) (he : ∀ x y (R : V → Prop), R (.int (f x y)) → wpE C elt [some (.int x), some (.int y)] [] fun v _ => R v)
    (hC : LeC C C) (h : wpE C a m H fun v H₁ => ∃ X, v = .tup (zl X) ∧ wpE C b m H₁ fun w H₂ => ∃ k Y, w = .ref k ∧ H₂[k]? = some (zl Y) ∧ X.length = Y.length ∧ P (.ref H₂.length) (H₂ ++ [zl (List.zipWith f X Y)])) : wpE C (.zcomp elt a b) m H P := by
  simp only [ZF, ZE, ZM, ZO, ZD, ZH, Yb, ZN, Zu, ZS, ZP, ZZ, ZQ, ZA, ZC, ZT, Zt, ZB, Zs]
  refine ZX hC a (fun v H₁ q => ?_) h
  obtain ⟨X, rfl, q⟩ := q
  refine ZX hC b (fun w H₂ q => ?_) q
  obtain ⟨k, Y, rfl, hk, hl, q⟩ := q
  show optV (some (zl X)) fun us => optV (some k) fun k => optV H₂[k]? fun vs => _
  rw [optV, optV, hk, optV, zl?_ints, optV, zl?_ints, optV]
  exact ⟨hl, wp_zip f he X Y [] _ (by simpa using q)⟩

end Mine

namespace Mine

end Mine

namespace Mine

end Mine

--STEP: e_slice, sl_ii, sl_ni, sl_in
open PySem
set_option linter.unusedSimpArgs false
set_option linter.unusedVariables false
namespace Mine

/-! products -/
end Mine

--STEP: e_slice, sl_ii, sl_ni, sl_in
open PySem
set_option linter.unusedSimpArgs false
set_option linter.unusedVariables false
namespace Mine

theorem b_is_tup {vs : List V} {H : Hp} {P : PV} : wpB .is_ (.tup vs) .none H P = (isNoneB .none = true ∧ P (.bool false) H) := rfl
theorem b_is_n {H : Hp} {P : PV} : wpB .is_ .none .none H P = (isNoneB .none = true ∧ P (.bool true) H) := rfl
theorem red_take {xs : List Int} (h : Red xs) (n : Nat) : Red (xs.take n) := fun a ha => h a (List.mem_of_mem_take ha)
set_option tactic.hygienic true
/-- an item, or 0 behind the end -/
theorem e_part {C : Calls} {i j : Nat} {m : Loc} {H : Hp} {P : PV} {k : Nat} {t : Nat} {xs : List Int} (hm : m[i]? = some (some (.ref k))) (ht : m[j]? = some (some (.int t))) (hk : H[k]? = some (zl xs)) (h : P (.int (co xs t)) H) :
    wpE C (.ite (.bin .lt (.var j) (.un .len (.var i))) (.bin .item (.var i) (.var j)) (.int 0)) m H P := by
  (try simp only [↓Yd, ↓f_bav, ↓f_bvb, ZU, Zc, e_ite, Ze, u_len_ref, b_lt, b_item_ref, at_of hm, at_of ht, Zq hk, Zr])
  split
  · rename_i c
    refine Zw (by lia) (zl_get (xs := xs) (j := (t : Int).toNat) (by lia)) ?_
    rw [show xs[(t : Int).toNat]'(by lia) = co xs t by rw [co_lt (by lia)]; rfl]
    exact h
  · rename_i c
    rw [co_ge (by lia)] at h; exact h
set_option tactic.hygienic false

end Mine

--STEP: e_slice, sl_ii, sl_ni, sl_in
open PySem
set_option linter.unusedSimpArgs false
set_option linter.unusedVariables false
namespace Mine

theorem first_item {xs : List Int} (h : 0 < xs.length) {F : V → Prop} (q : F (.int (co xs 0))) : itemOf (zl xs) 0 F := by
  refine Zw (by decide) (zl_get (xs := xs) (j := (0 : Int).toNat) h) ?_
  rw [co_lt h] at q; exact q

end Mine

--STEP: e_slice, sl_ii, sl_ni, sl_in
open PySem
set_option linter.unusedSimpArgs false
set_option linter.unusedVariables false
namespace Mine

/-! ## finds -/
noncomputable def behind (A L O : List Int) : List Int := (A.filter fun a => !decide (a ∈ O)) ++ L
theorem u_sorted {H : Hp} {k : Nat} {xs : List Int} {P : PV} (hk : H[k]? = some (zl xs)) : wpU .sorted (.ref k) H P = (xs.length < 64 ∧ ∀ js : List Int, js.Perm xs → js.Pairwise (· ≤ ·) → P (.ref H.length) (H ++ [zl js])) := (optV_eq hk).trans (optV_eq (zl?_ints _))
/-! ## is_find -/
theorem b_eq_tup {X Y : List Int} {H : Hp} {P : PV} : wpB .eq (.tup (zl X)) (.tup (zl Y)) H P = P (.bool (decide (X = Y))) H := by
  have d (X : List Int) : deep 4 H (.tup (zl X)) = some (.tuple (X.map PyData.int)) := by show Option.map _ (deepL _ (zl X)) = _; rw [deepL_zl]; rfl
  refine ((optV_eq (d X)).trans (optV_eq (d Y))).trans ?_
  rw [show PyData.eqv (.tuple (X.map PyData.int)) (.tuple (Y.map PyData.int)) = PyData.eqvAll (X.map PyData.int) (Y.map PyData.int) by simp only [PyData.eqv], eqv_zs]
end Mine

--STEP: e_slice, sl_ii, sl_ni, sl_in, b_is_tup, b_is_n, b_is_ref, u_abs
open PySem
set_option linter.unusedSimpArgs false
set_option linter.unusedVariables false
namespace Mine

theorem b_is_ref {k : Nat} {H : Hp} {P : PV} : wpB .is_ (.ref k) .none H P = (isNoneB .none = true ∧ P (.bool false) H) := rfl
theorem u_abs {a : Int} {H : Hp} {P : PV} : wpU .abs (.int a) H P = P (.int (if a < 0 then -a else a)) H := rfl
end Mine

--STEP: e_slice, sl_ii, sl_ni, sl_in
open PySem
set_option linter.unusedSimpArgs false
set_option linter.unusedVariables false
namespace Mine

/-! ## runs that end, whatever they tell -/
theorem red_mod (a : Int) : 0 ≤ a % 251 ∧ a % 251 < 251 := ⟨Int.emod_nonneg _ (by decide), Int.emod_lt_of_pos _ (by decide)⟩
theorem red_push {xs : List Int} (h : Red xs) (a : Int) : Red (xs ++ [a % 251]) := red_append h (red_mod a).1 (red_mod a).2
theorem top_zero {f num a b : Int} (hinv : fz b * fz f = 1) (hnum : a * f % 251 = num) : (a - num * b) % 251 = 0 := by
  have e : fz ((a - num * b) % 251) = 0 := by
    rw [fz_mod, fz_sub, fz_mul, ← hnum, fz_mod, fz_mul]
    grind
  exact fz_inj (red_mod _) (by decide) (e.trans fz_zero.symm)

set_option tactic.hygienic true
theorem ok_divided (n i j : Nat) (xs ys : List Int) (H : Hp) (P : PV) (hi : H[i]? = some (zl xs)) (hj : H[j]? = some (zl ys)) (rx : Red xs) (ry : Red ys) (tx : Trim xs) (ty : Trim ys) (ny : ys ≠ []) (lx : xs.length ≤ 400000) (ly : ys.length ≤ 400000)
    (h : ∀ k l qs rs H', H <+: H' → H'[k]? = some (zl qs) → H'[l]? = some (zl rs) → Red qs → Trim rs → Red rs → rs.length < ys.length → qs.length ≤ xs.length + 1 → P (.tup [.ref k, .ref l]) H') : run T (n + 3) 16 [.ref i, .ref j] H P := by
  --EXPL
  have ly1 := List.length_pos_iff.mpr ny
  refine run_succ (d := f_divided) rfl rfl (by decide) ?_
  simp only [f_divided, entry, List.map, List.replicate, Nat.reduceSub, List.cons_append, List.nil_append]
  (with_reducible first | refine Zb ?_ | (refine Zf ?_; intro J)); simp -implicitDefEqProofs only [↓Yd, Zi, Zx, Za, u_list_ref, set_2, Zq hi, Zq hj]
  (with_reducible first | refine Zb ?_ | (refine Zf ?_; intro J)); simp -implicitDefEqProofs only [↓Yd, ↓Zp, ↓f_bib, Zi, ZU, e_bin, e_comp, Zx, ZJ, Za, u_len_ref, b_add, b_sub, b_max, set_3]
  refine withL_of (Zz hi) ?_
  refine withL_of (Zz hj) ?_
  rw [Zr, Zr]
  generalize hL : (if (0 : Int) < (xs.length : Int) - ys.length + 1 then (xs.length : Int) - ys.length + 1 else 0) = L
  have hL' : 0 ≤ L ∧ L ≤ 400001 ∧ (ys.length ≤ xs.length → L = (xs.length : Int) - ys.length + 1) ∧ L ≤ xs.length + 1 := by
    subst hL; split <;> lia
  refine comp_range (Zo _ _) (by decide) (by lia) (fun s acc H' => H' = H ++ [zl xs] ∧ acc = zl (List.replicate s 0)) ⟨rfl, rfl⟩ ?_ ?_
  · rintro s acc H' hs ⟨rfl, rfl⟩
    (try (with_reducible (first | refine Zh ?_ | refine Zd ?_); intro J))
    (try simp -implicitDefEqProofs only [e_bool, ZU, branch_true, List.cons_append, List.nil_append])
    refine ⟨(by trivial), ?_⟩
    rw [zl_append, List.replicate_succ']
  rintro acc H' ⟨rfl, rfl⟩
  (try (with_reducible (first | refine Zh ?_ | refine Zd ?_); intro J))
  rw [show (L - 0).toNat = L.toNat by lia]
  (try skip)
  have hj1 : (H ++ [zl xs] ++ [zl (List.replicate L.toNat 0)])[j]? = some (zl ys) := Zz (Zz hj)
  have hr1 : (H ++ [zl xs] ++ [zl (List.replicate L.toNat 0)])[H.length]? = some (zl xs) := Zz Zm
  have hq1 : (H ++ [zl xs] ++ [zl (List.replicate L.toNat 0)])[(H ++ [zl xs]).length]? = some (zl (List.replicate L.toNat 0)) := Zm
  have p1 : H <+: H ++ [zl xs] ++ [zl (List.replicate L.toNat 0)] := Zy (List.prefix_append _ _)
  have kq1 : H.length + 1 = (H ++ [zl xs]).length := by simp
  generalize H ++ [zl xs] ++ [zl (List.replicate L.toNat 0)] = H1 at *
  generalize (H ++ [zl xs]).length = kq at *
  (with_reducible first | refine Zb ?_ | (refine Zf ?_; intro J)); simp -implicitDefEqProofs only [↓f_bvb, Zi, ZU, e_un, ZR, Zn, Zg, ZJ, Za, u_neg, b_item_ref, set_4, Zq hj1]
  refine last_item ny ?_
  rw [last_co ny]
  refine spec_inverse _ _ _ _ ?_
  have hinv := inv_mul (a := co ys (ys.length - 1)) (ps_top (n := ys.length - 1) ry ty (by lia))
  generalize inv (co ys (ys.length - 1)) = f at hinv
  (try skip)
  (try change wpSs _ _ _ _ _)
  refine s_cut (Zo _ _) (fun m' H' => Ex7 fun l rs qs t5 t6 t7 t8 => And9 (H <+: H') (H'[l]? = some (zl rs)) (H'[kq]? = some (zl qs)) (Red rs) (Trim rs) (Red qs) (qs.length = L.toNat) (rs.length < ys.length) (m' = [some (.ref i), some (.ref j), some (.ref l), some (.ref kq), some (.int f), t5, t6, t7, t8])) ?_ ?_
  · (try (with_reducible refine post_letS ?_; intro J))
    refine loop_of (Zo _ _) (fun q m' H' => Ex7 fun l rs qs t5 t6 t7 t8 => And12 (H <+: H') (H.length ≤ l) (l ≠ kq) (H'[l]? = some (zl rs)) (H'[kq]? = some (zl qs)) (Red rs) (Trim rs) (rs.length ≤ xs.length) (Red qs) (qs.length = L.toNat) (rs.length = q) (m' = [some (.ref i), some (.ref j), some (.ref l), some (.ref kq), some (.int f), t5, t6, t7, t8])) xs.length
      ⟨H.length, xs, _, none, none, none, none, p1, Nat.le_refl _, by lia, hr1, hq1, rx, tx, Nat.le_refl _, red_replicate _, by simp, rfl, rfl⟩ ?_
    rintro q m' H' ⟨l, rs, qs, t5, t6, t7, t8, hp, hl, hlk, hrs, hqs, rr, tr, lr, rq, lq, rfl, rfl⟩
    (try (with_reducible (first | refine Zh ?_ | refine Zd ?_); intro J))
    have hj' := Zl hp hj
    (try simp -implicitDefEqProofs only [↓Yd, e_bin, ZJ, Yc, Ze, Za, u_len_ref, b_ge, Zq hrs, Zq hj', Zr])
    split
    rotate_left
    · rename_i c
      exact ⟨l, rs, qs, t5, t6, t7, t8, hp, hrs, hqs, rr, tr, rq, lq, by lia, rfl⟩
    rename_i c
    have nr : rs ≠ [] := fun e => by rw [e, List.length_nil] at c; lia
    (with_reducible first | refine Zb ?_ | (refine Zf ?_; intro J)); simp -implicitDefEqProofs only [↓Yd, Zi, e_bin, ZJ, Yc, Za, u_len_ref, b_sub, set_5, Zq hrs, Zq hj', Zr]
    (with_reducible first | refine Zb ?_ | (refine Zf ?_; intro J)); simp -implicitDefEqProofs only [↓Zp, ↓f_bav, ↓f_bvb, Zi, ZU, e_un, Yc, at_4, Za, u_neg, b_item_ref, set_6, Zq hrs]
    refine last_item nr ?_
    rw [last_co nr]
    (try simp -implicitDefEqProofs only [b_mul, ZY])
    have cr := co_red rr (rs.length - 1)
    refine ⟨.inl (red_small cr), by decide, ?_⟩
    generalize hnum : co rs (rs.length - 1) * f % 251 = num
    have rnum : 0 ≤ num ∧ num < 251 := hnum ▸ red_mod _
    have hat : ((rs.length : Int) - ys.length) = ((rs.length - ys.length : Nat) : Int) := by lia
    rw [hat]
    generalize hat' : rs.length - ys.length = at' at *
    (with_reducible first | refine Zb ?_ | (refine Zf ?_; intro J)); simp -implicitDefEqProofs only [s_setItem, Zc, at_3, at_5, at_6, Za, set_ref, Zq hqs]
    refine ⟨by lia, by rw [Zr]; lia, ?_⟩
    rw [Int.toNat_natCast, zl_set]
    have hr2 := set_ne (ws := zl (qs.set at' num)) hrs (show kq ≠ l by lia)
    have hj2 := set_ne (ws := zl (qs.set at' num)) hj' (show kq ≠ j by have := lt_of hj; lia)
    have hq2 := set_get (ws := zl (qs.set at' num)) hqs
    have p2 : H <+: H'.set kq (zl (qs.set at' num)) := pre_set hp (by lia)
    generalize H'.set kq (zl (qs.set at' num)) = H2 at *
    (try change wpSs _ _ _ _ _)
    refine s_cut (Zo _ _) (fun m' H' => Ex3 fun fs t7 t8 => And7 (H <+: H') (H'[l]? = some (zl fs)) (H'[kq]? = some (zl (qs.set at' num))) (Red fs) (fs.length = rs.length) (co fs (rs.length - 1) = 0) (m' = [some (.ref i), some (.ref j), some (.ref l), some (.ref kq), some (.int f), some (.int (at' : Int)), some (.int num), t7, t8])) ?_ ?_
    · (try (with_reducible refine post_letS ?_; intro J))
      (try simp -implicitDefEqProofs only [s_each, ZI, Zc, ZJ])
      refine each_enum (Zo _ _) hj2 (fun b m' H' => Ex3 fun fs t7 t8 => And7 (H <+: H') (H'[l]? = some (zl fs)) (H'[kq]? = some (zl (qs.set at' num))) (Red fs) (fs.length = rs.length) (co fs (rs.length - 1) = (if b < ys.length then co rs (rs.length - 1) else 0)) (m' = [some (.ref i), some (.ref j), some (.ref l), some (.ref kq), some (.int f), some (.int (at' : Int)), some (.int num), t7, t8])) ?_ ?_ ?_ ?_
      · exact ⟨rs, t7, t8, p2, hr2, hq2, rr, rfl, by rw [if_pos ly1], rfl⟩
      · rintro b m H3 ⟨fs, t7, t8, hp3, _⟩
        (try (with_reducible (first | refine Zh ?_ | refine Zd ?_); intro J))
        exact Zl hp3 hj
      · rintro b v m H3 hv ⟨fs, t7, t8, hp3, hf, hq3, rf, hfl, hco, rfl⟩
        (try (with_reducible (first | refine Zh ?_ | refine Zd ?_); intro J))
        obtain ⟨a, ha, rfl⟩ := zl_at hv
        have hb : b < ys.length := (List.getElem?_eq_some_iff.mp ha).1
        have ea : a = co ys b := by rw [co_lt hb]; rw [List.getElem?_eq_getElem hb] at ha; exact (Option.some.inj ha).symm
        subst ea
        have hin : at' + b < fs.length := by lia
        (with_reducible first | refine Zb ?_ | (refine Zf ?_; intro J)); simp -implicitDefEqProofs only [↓Zp, ↓f_bav, ↓f_bvb, s_setItem, Zc, e_bin, Yc, at_5, at_6, at_7, at_8, Za, set_ref, b_add, b_mul, b_item_ref, set_7, set_8, Zq hf]
        refine Zw (by lia) (zl_get (xs := fs) (j := ((at' : Int) + b).toNat) (by lia)) ?_
        (try simp -implicitDefEqProofs only [b_sub, ZY])
        refine ⟨.inl (red_small rnum), by decide, withL_of hf ⟨by lia, by rw [Zr]; lia, ?_⟩⟩
        rw [zl_set]
        have et : ((at' : Int) + b).toNat = at' + b := by lia
        have ef : fs[((at' : Int) + b).toNat]'(by lia) = co fs (at' + b) := by rw [← co_lt, et]
        rw [ef, et]
        refine ⟨_, _, _, pre_set hp3 hl, set_get hf, set_ne hq3 hlk, red_set rf (red_mod _), by simp [hfl], ?_, rfl⟩
        rw [if_pos hb] at hco
        rw [co_set hin]
        by_cases eb : rs.length - 1 = at' + b
        · rw [if_pos eb, if_neg (by lia), ← eb, hco]
          exact top_zero (by rw [show b = ys.length - 1 by lia]; exact hinv) hnum
        · rw [if_neg eb, if_pos (by lia), hco]
      · rintro m H3 ⟨fs, t7, t8, hp3, hf, hq3, rf, hfl, hco, rfl⟩
        (try (with_reducible (first | refine Zh ?_ | refine Zd ?_); intro J))
        rw [Zr, if_neg (by lia)] at hco
        exact ⟨fs, t7, t8, hp3, hf, hq3, rf, hfl, hco, rfl⟩
    rintro m H3 ⟨fs, t7, t8, hp3, hf, hq3, rf, hfl, hco, rfl⟩
    (try (with_reducible (first | refine Zh ?_ | refine Zd ?_); intro J))
    (with_reducible first | refine Zb ?_ | (refine Zf ?_; intro J)); simp -implicitDefEqProofs only [↓f_v, Zi, Yc, Za, set_2]
    refine spec_trimmed _ _ fs _ _ hf fun k' gs H4 p4 lk g4 tg lg hg => ?_
    (try skip)
    have lgs : gs.length ≤ rs.length - 1 := by
      apply Classical.byContradiction
      intro q
      have e1 : gs.length - 1 = rs.length - 1 := by lia
      have e2 : co gs (gs.length - 1) = 0 := by rw [hg, e1, hco]
      have ng : gs ≠ [] := fun e => by rw [e, List.length_nil] at q; lia
      rw [← last_co ng] at e2
      exact tg ((List.getLast?_eq_some_getLast ng).trans (by rw [e2]))
    refine ⟨gs.length, by lia, k', gs, qs.set at' num, _, _, _, _, hp3.trans p4, ?_, ?_, g4, Zl p4 hq3, red_of_co fun t _ => by rw [hg]; exact co_red rf t, tg, by lia, red_set rq rnum, by simp [lq], rfl, rfl⟩
    · have := hp3.length_le; lia
    · have := lt_of hq3; lia
  rintro m' H' ⟨l, rs, qs, t5, t6, t7, t8, hp, hrs, hqs, rr, tr, rq, lq, hlt, rfl⟩
  (try (with_reducible (first | refine Zh ?_ | refine Zd ?_); intro J))
  (with_reducible first | refine Zb ?_ | (refine Zf ?_; intro J)); simp -implicitDefEqProofs only [↓f_v, ZV, Zc, e_tup, Zn, Zg, Yc, at_3]
  refine spec_trimmed _ _ qs _ _ hqs fun k' gs H4 p4 lk g4 tg lg hg => ?_
  (try skip)
  exact h k' l gs rs H4 (hp.trans p4) g4 (Zl p4 hrs) (red_of_co fun t _ => by rw [hg]; exact co_red rq t) tr rr hlt (by lia)
set_option tactic.hygienic false

theorem ok_less (n i j : Nat) (xs ys : List Int) (H : Hp) (P : PV) (hi : H[i]? = some (zl xs)) (hj : H[j]? = some (zl ys)) (lx : xs.length ≤ 400000) (ly : ys.length ≤ 400000)
    (h : ∀ k zs H', H <+: H' → H'[k]? = some (zl zs) → Red zs → zs.length ≤ max xs.length ys.length → P (.ref k) H') : run T (n + 2) 31 [.ref i, .ref j] H P := by
  refine run_succ (d := f_less) rfl rfl (by decide) ?_
  simp only [f_less, entry, List.map, List.replicate, Nat.reduceSub, List.cons_append, List.nil_append]
  (with_reducible first | refine Zb ?_ | (refine Zf ?_; intro J)); simp only [↓f_l0, Zi, Za, set_2]
  (try change wpSs _ _ _ _ _)
  refine s_cut (Zo _ _) (fun m' H' => Ex4 fun zs t3 t4 t5 => And5 (H <+: H') (H'[H.length]? = some (zl zs)) (Red zs) (zs.length = max xs.length ys.length) (m' = [some (.ref i), some (.ref j), some (.ref H.length), t3, t4, t5])) ?_ ?_
  · (try (with_reducible refine post_letS ?_; intro J))
    (try simp only [↓Yd, s_each, ZU, e_bin, Zx, ZJ, u_len_ref, b_max, Zq (Zz (G := [[]]) hi), Zq (Zz (G := [[]]) hj), Zr])
    have em : (if (xs.length : Int) < ys.length then (ys.length : Int) else xs.length) = (max xs.length ys.length : Nat) := by split <;> lia
    rw [em]
    refine each_range (Zo _ _) (by decide) (by lia) (fun q m' H' => Ex4 fun zs t3 t4 t5 => And5 (H <+: H') (H'[H.length]? = some (zl zs)) (Red zs) (zs.length = q) (m' = [some (.ref i), some (.ref j), some (.ref H.length), t3, t4, t5])) ?_ ?_ ?_
    · exact ⟨[], none, none, none, List.prefix_append _ _, Zm (vs := []), red_nil, rfl, rfl⟩
    · rintro q m' H' hq ⟨zs, t3, t4, t5, hp, hk, rz, rfl, rfl⟩
      (try (with_reducible (first | refine Zh ?_ | refine Zd ?_); intro J))
      rw [show (0 : Int) + (zs.length : Int) = ((zs.length : Nat) : Int) by lia]
      (try change wpSs _ _ _ _ _)
      rw [s_cons, Zi]
      refine e_part (k := i) (t := zs.length) rfl rfl (Zl hp hi) ?_
      (try simp only [Za, set_3, set_4])
      (try change wpSs _ _ _ _ _)
      rw [s_cons, Zi]
      refine e_part (k := j) (t := zs.length) rfl rfl (Zl hp hj) ?_
      (try simp only [Za, set_5])
      (with_reducible first | refine Zb ?_ | (refine Zf ?_; intro J)); simp only [↓Zp, ↓f_bav, s_append, Zc, Yc, at_4, at_5, Za, app_ref, b_sub, ZY]
      refine ⟨by decide, withL_of hk ⟨by rw [Zr]; unfold room; lia, ?_⟩⟩
      rw [zl_append]
      exact ⟨_, _, _, _, pre_set hp (Nat.le_refl _), set_get hk, red_push rz _, by simp, rfl⟩
    · rintro m' H' ⟨zs, t3, t4, t5, hp, hk, rz, hl, rfl⟩
      (try (with_reducible (first | refine Zh ?_ | refine Zd ?_); intro J))
      exact ⟨zs, t3, t4, t5, hp, hk, rz, by lia, rfl⟩
  rintro m' H' ⟨zs, t3, t4, t5, hp, hz, rz, lz, rfl⟩
  (try (with_reducible (first | refine Zh ?_ | refine Zd ?_); intro J))
  (with_reducible first | refine Zb ?_ | (refine Zf ?_; intro J)); simp only [↓f_v, ZV, Yc]
  refine spec_trimmed _ _ zs _ _ hz fun k' gs H4 p4 lk g4 tg lg hg => ?_
  (try skip)
  exact h k' gs H4 (hp.trans p4) g4 (red_of_co fun t _ => by rw [hg]; exact co_red rz t) (by lia)
end Mine

--STEP: e_slice, sl_ii, sl_ni, sl_in
open PySem
set_option linter.unusedSimpArgs false
set_option linter.unusedVariables false
namespace Mine

theorem ok_series (n k : Nat) (S : List Int) (H : Hp) (P : PV) (hk : H[k]? = some (zl S)) (rS : Red S) (lS : S.length ≤ 200) (h : ∀ k' C H', H <+: H' → H'[k']? = some (zl C) → Red C → P (.ref k') H') : run T (n + 3) 32 [.ref k] H P := by
  --EXPL
  refine run_succ (d := f_series) rfl rfl (by decide) ?_
  simp only [f_series, entry, List.map, List.replicate, Nat.reduceSub, List.cons_append, List.nil_append]
  (with_reducible first | refine Zb ?_ | (refine Zf ?_; intro J)); simp -implicitDefEqProofs only [↓f_l1, Zi, Za, set_1]
  (try change wpSs _ _ _ _ _)
  refine s_cut (Zo _ _) (fun m' H' => Ex4 fun C t2 t3 t4 => And4 (H <+: H') (H'[H.length]? = some (zl C)) (Red C) (m' = [some (.ref k), some (.ref H.length), t2, t3, t4])) ?_ ?_
  · (try (with_reducible refine post_letS ?_; intro J))
    (try simp -implicitDefEqProofs only [↓Yd, ↓Zp, s_each, ZU, Zx, u_len_ref, b_add, Zq (Zz (G := [[V.int 1]]) hk), Zr])
    generalize hM : (S.length : Int) + 1 = M
    refine each_range (Zo _ _) (by decide) (by lia) (fun q m' H' => Ex4 fun C t2 t3 t4 => And5 (H <+: H') (H'[H.length]? = some (zl C)) (Red C) (C.length = q + 1) (m' = [some (.ref k), some (.ref H.length), t2, t3, t4])) ?_ ?_ ?_
    · exact ⟨[1], none, none, none, List.prefix_append _ _, Zm, fun a ha => by simp only [List.mem_singleton] at ha; lia, rfl, rfl⟩
    · rintro q m' H' hq ⟨C, t2, t3, t4, hp, hk', rC, lC, rfl⟩
      (try (with_reducible (first | refine Zh ?_ | refine Zd ?_); intro J))
      generalize hkk : (1 : Int) + (q : Int) = kk
      have hq' : q < S.length := by lia
      (try change wpSs _ _ _ _ _)
      rw [s_cons, Zi, ZU, Za]
      simp -implicitDefEqProofs only [List.set_cons_succ, List.set_cons_zero]
      (try change wpSs _ _ _ _ _)
      refine s_cut (Zo _ _) (fun m' H'' => H'' = H' ∧ Ex2 fun w t4 => m' = [some (.ref k), some (.ref H.length), some (.int kk), some (.int w), t4]) ?_ ?_
      · (try (with_reducible refine post_letS ?_; intro J))
        (try simp -implicitDefEqProofs only [↓Zp, s_each, ZU, Zc, Yc, b_add])
        generalize hM2 : kk + 1 = M2
        refine each_range (Zo _ _) (by decide) (by lia) (fun j m' H'' => H'' = H' ∧ Ex2 fun w t4 => m' = [some (.ref k), some (.ref H.length), some (.int kk), some (.int w), t4]) ⟨rfl, 0, t4, rfl⟩ ?_ ?_
        · rintro j m' H'' hj ⟨rfl, w, t4, rfl⟩
          (try (with_reducible (first | refine Zh ?_ | refine Zd ?_); intro J))
          (with_reducible first | refine Zb ?_ | (refine Zf ?_; intro J)); simp -implicitDefEqProofs only [↓Zp, ↓f_bav, ↓f_bvb, Zi, Zc, e_bin, Zx, ZJ, Yc, at_3, at_4, Za, b_sub, b_item_ref, set_3, set_4, Zq (Zl hp hk)]
          refine item_zl (by lia) (by lia) ?_
          (try simp -implicitDefEqProofs only [Zq hk'])
          refine item_zl (by lia) (by lia) ?_
          (try simp -implicitDefEqProofs only [b_add, b_mul])
          exact ⟨.inl (red_small (co_red rS _)), (by trivial), _, _, rfl⟩
        · rintro m' H'' ⟨rfl, w, t4, rfl⟩
          (try (with_reducible (first | refine Zh ?_ | refine Zd ?_); intro J))
          exact ⟨rfl, w, t4, rfl⟩
      rintro m' H'' ⟨rfl, w, t4, rfl⟩
      (try (with_reducible (first | refine Zh ?_ | refine Zd ?_); intro J))
      (with_reducible first | refine Zb ?_ | (refine Zf ?_; intro J)); simp -implicitDefEqProofs only [↓f_v, ↓Yd, ↓Zp, s_append, Zc, e_bin, ZJ, Yc, at_3, Za, app_ref, u_neg]
      refine spec_inverse _ _ _ _ ?_
      have rinv := inv_red kk
      generalize inv kk = v at rinv
      (try simp -implicitDefEqProofs only [b_mul, ZY])
      refine ⟨.inr (red_small rinv), by decide, withL_of hk' ⟨by rw [Zr]; unfold room; lia, C ++ [-w * v % 251], _, _, _, pre_set hp (Nat.le_refl _), ?_, red_push rC _, by simp [lC], rfl⟩⟩
      rw [set_get hk', zl_append]
    · rintro m' H' ⟨C, t2, t3, t4, hp, hk', rC, lC, rfl⟩
      (try (with_reducible (first | refine Zh ?_ | refine Zd ?_); intro J))
      exact ⟨C, t2, t3, t4, hp, hk', rC, rfl⟩
  rintro m' H' ⟨C, t2, t3, t4, hp, hk', rC, rfl⟩
  (try (with_reducible (first | refine Zh ?_ | refine Zd ?_); intro J))
  (try change wpSs _ _ _ _ _); simp -implicitDefEqProofs only [s_cons, ZG, ZV, Zc, ZJ, Zv]
  exact h _ C H' hp hk' rC

theorem one_apart {f a : Int} (h : fz a * fz f = 1) : a * f % 251 ≠ 0 := fun q => by
  have e : fz (a * f % 251) = 1 := by rw [fz_mod, fz_mul]; exact h
  rw [q, fz_zero] at e
  exact absurd e (by decide)
theorem cv_start (f g : Nat → Int) : cv f g 0 = f 0 * g 0 := by simp [cv, sm]

set_option tactic.hygienic true
theorem ok_fraction (n i up down : Nat) (xs : List Int) (H : Hp) (P : PV) (hi : H[i]? = some (zl xs)) (rx : Red xs) (hu : up ≤ 12) (hd : down ≤ 12)
    (hNo : ∀ H', H <+: H' → P .none H')
    (hF : ∀ k l us ls H', H <+: H' → H'[k]? = some (zl us) → H'[l]? = some (zl ls) → Red us ∧ Trim us → Red ls ∧ Trim ls → us.length ≤ 60 → ls.length ≤ 60 → ls ≠ [] → P (.tup [.ref k, .ref l]) H') : run T (n + 4) 33 [.ref i, .int up, .int down] H P := by
  --EXPL
  refine run_succ (d := f_fraction) rfl rfl (by decide) ?_
  simp only [f_fraction, entry, List.map, List.replicate, Nat.reduceSub, List.cons_append, List.nil_append]
  (with_reducible first | refine Zb ?_ | (refine Zf ?_; intro J)); simp -implicitDefEqProofs only [↓Zp, ↓f_bav, Zi, Zc, ZJ, Yc, Za, b_add, set_3]
  generalize hNN : up + down + 1 = N at *
  rw [show (up : Int) + down + 1 = (N : Nat) by lia]
  (with_reducible first | refine Zb ?_ | (refine Zf ?_; intro J)); simp -implicitDefEqProofs only [↓f_l1, Zi, ZU, Zc, e_bin, e_comp, at_3, Za, set_4]
  refine comp_range (Zo _ _) (by decide) (by lia) (fun s acc H' => H = H' ∧ acc = zl (List.replicate s 0)) ⟨rfl, rfl⟩ ?_ ?_
  · rintro s acc H' hs ⟨rfl, rfl⟩
    (try (with_reducible (first | refine Zh ?_ | refine Zd ?_); intro J))
    (try simp -implicitDefEqProofs only [e_bool, ZU, branch_true, List.cons_append, List.nil_append])
    refine ⟨(by trivial), ?_⟩
    rw [zl_append, List.replicate_succ']
  rintro acc H' ⟨rfl, rfl⟩
  (try (with_reducible (first | refine Zh ?_ | refine Zd ?_); intro J))
  rw [show ((N : Int) - 0).toNat = N by lia]
  (try skip)
  rw [b_cat (Zz Zm) (Zm (vs := [V.int 1]))]
  refine ⟨by rw [Zr]; unfold room; simp; lia, ?_⟩
  rw [zl_append]
  have g1 : (H ++ [zl (List.replicate N 0)] ++ [[V.int 1]] ++ [zl (List.replicate N 0 ++ [1])])[(H ++ [zl (List.replicate N 0)] ++ [[V.int 1]]).length]? = some (zl (List.replicate N 0 ++ [1])) := Zm
  have p1 : H <+: H ++ [zl (List.replicate N 0)] ++ [[V.int 1]] ++ [zl (List.replicate N 0 ++ [1])] := Zy (Zy (List.prefix_append _ _))
  generalize H ++ [zl (List.replicate N 0)] ++ [[V.int 1]] ++ [zl (List.replicate N 0 ++ [1])] = H1 at *
  generalize (H ++ [zl (List.replicate N 0)] ++ [[V.int 1]]).length = k1 at *
  (with_reducible first | refine Zb ?_ | (refine Zf ?_; intro J)); simp -implicitDefEqProofs only [Zi, ZI, Zc, ZR, Zn, Zg, Zx, at_3, Za, set_5, e_slice, sl_ni, Zq (Zl p1 hi), picked_ni (show 0 ≤ (N : Int) by lia)]
  rw [Int.toNat_natCast]
  refine spec_trimmed _ _ (xs.take N) _ _ Zm fun k2 R H2 p2 lk2 g2 tR lR cR => ?_
  have rR : Red R := red_co (red_take rx N) cR
  have lR' : R.length ≤ 25 := by rw [List.length_take] at lR; lia
  have p2' := p1.trans ((List.prefix_append _ _).trans p2)
  have g1' := Zl ((List.prefix_append _ _).trans p2) g1
  (try skip)
  (with_reducible first | refine Zb ?_ | (refine Zf ?_; intro J)); simp -implicitDefEqProofs only [↓f_l0, Zi, Za, set_6]
  (with_reducible first | refine Zb ?_ | (refine Zf ?_; intro J)); simp -implicitDefEqProofs only [↓f_l1, Zi, Za, set_7]
  have q1 := Zz (G := [[V.int 1]]) (Zz (G := [[]]) g1')
  have q2 := Zz (G := [[V.int 1]]) (Zz (G := [[]]) g2)
  have q3 : (H2 ++ [[]] ++ [[V.int 1]])[H2.length]? = some (zl []) := Zz Zm
  have q4 : (H2 ++ [[]] ++ [[V.int 1]])[(H2 ++ [[]]).length]? = some (zl [1]) := Zm
  have p3 : H <+: H2 ++ [[]] ++ [[V.int 1]] := Zy (Zy p2')
  generalize H2 ++ [[]] ++ [[V.int 1]] = H3 at *
  generalize H2.length = k3 at *
  generalize (H2 ++ [[]]).length = k4 at *
  have rA : Red (List.replicate N 0 ++ [1]) := red_append (red_replicate _) (by decide) (by decide)
  have tA : Trim (List.replicate N 0 ++ [1]) := by unfold Trim; simp
  have lA : (List.replicate N (0 : Int) ++ [1]).length ≤ 26 := by simp; lia
  generalize List.replicate N 0 ++ [1] = A at *
  (try change wpSs _ _ _ _ _)
  refine s_cut (Zo _ _) (fun m' H' => Ex9 fun kr kl R L t4 t6 t8 t9 t10 => And8 (H <+: H') (H'[kr]? = some (zl R)) (H'[kl]? = some (zl L)) (Red R) (Red L) (R.length ≤ 26) (L.length ≤ 1000) (m' = [some (.ref i), some (.int up), some (.int down), some (.int N), t4, some (.ref kr), t6, some (.ref kl), t8, t9, t10, none])) ?_ ?_
  · (try (with_reducible refine post_letS ?_; intro J))
    refine loop_of (Zo _ _) (fun q m' H' => Ex11 fun ka kr km kl A R M L t8 t9 t10 => And11 (H <+: H') (H'[ka]? = some (zl A)) (H'[kr]? = some (zl R)) (H'[km]? = some (zl M)) (H'[kl]? = some (zl L)) ((Red A ∧ Trim A ∧ A.length ≤ 26)) ((Red R ∧ Trim R ∧ R.length ≤ 26)) ((M.length ≤ 30 * (27 - q) + 1)) ((Red L ∧ L.length ≤ 30 * (27 - q) + 1)) (R.length = q) (m' = [some (.ref i), some (.int up), some (.int down), some (.int N), some (.ref ka), some (.ref kr), some (.ref km), some (.ref kl), t8, t9, t10, none])) R.length ⟨k1, k2, k3, k4, _, _, _, _, none, none, none, p3, q1, q2, q3, q4, ⟨rA, tA, lA⟩, ⟨rR, tR, by lia⟩, by simp, ⟨fun a ha => by simp only [List.mem_singleton] at ha; lia, by simp⟩, rfl, rfl⟩ ?_
    clear q1 q2 q3 q4 p3 g1' g2 p2' cR lR tR p2 g1 p1 rA tA lA rR lR'
    rintro q m' H' ⟨ka, kr, km, kl, A, R, M, L, t8, t9, t10, hp, ha, hr, hm, hl', ⟨rA, tA, lA⟩, ⟨rR, tR, lR⟩, lM, ⟨rL, lL⟩, rfl, rfl⟩
    (try (with_reducible (first | refine Zh ?_ | refine Zd ?_); intro J))
    (try simp -implicitDefEqProofs only [↓Yd, ↓Zp, Zc, e_bin, ZJ, at_5, Ze, Za, u_len_ref, b_add, b_gt, Zq hr, Zr])
    split
    rotate_left
    · exact ⟨kr, kl, R, L, _, _, t8, t9, t10, hp, hr, hl', rR, rL, lR, by lia, rfl⟩
    rename_i c
    have nR : R ≠ [] := fun e => by rw [e, List.length_nil] at c; lia
    (with_reducible first | refine Zb ?_ | (refine Zf ?_; intro J)); simp -implicitDefEqProofs only [↓f_vv, s_unpack, at_4, at_5, Za]
    refine ok_divided _ _ _ A R _ _ ha hr rA rR tA tR nR (by lia) (by lia) fun k l qs rs H4 p4 f4 r4 rq tr rr hlt lq => ?_
    (try simp -implicitDefEqProofs only [put_two, set_8, set_9])
    (with_reducible first | refine Zb ?_ | (refine Zf ?_; intro J)); simp -implicitDefEqProofs only [Zi, Zc, at_5, Za, set_4]
    (with_reducible first | refine Zb ?_ | (refine Zf ?_; intro J)); simp -implicitDefEqProofs only [Zi, Zc, at_9, Za, set_5]
    (with_reducible first | refine Zb ?_ | (refine Zf ?_; intro J)); simp -implicitDefEqProofs only [↓f_vv, Zi, Zc, ZR, Zn, Zg, at_6, at_7, at_8, Za, set_10]
    refine spec_times _ _ _ qs L _ _ f4 (Zl p4 hl') rq (by lia) (by lia) fun k5 zs H5 p5 lk5 f5 tz rz lz cz => ?_
    (try skip)
    refine ok_less _ _ _ M zs _ _ (Zl (p4.trans p5) hm) f5 (by lia) (by lia) fun k6 ms H6 p6 f6 rms lms => ?_
    have pp := p4.trans (p5.trans p6)
    (try skip)
    (with_reducible first | refine Zb ?_ | (refine Zf ?_; intro J)); simp -implicitDefEqProofs only [Zi, Zc, at_7, Za, set_6]
    (with_reducible first | refine Zb ?_ | (refine Zf ?_; intro J)); simp -implicitDefEqProofs only [Zi, Zc, at_10, Za, set_7]
    exact ⟨rs.length, hlt, kr, l, kl, k6, R, rs, L, ms, _, _, _, hp.trans pp, Zl pp hr, Zl (p5.trans p6) r4, Zl pp hl', f6, ⟨rR, tR, lR⟩, ⟨rr, tr, by lia⟩, by lia, ⟨rms, by lia⟩, rfl, rfl⟩
  clear q1 q2 q3 q4 p3 g1' g2 p2' cR lR tR p2 g1 p1 rA tA lA rR lR'
  rintro m' H' ⟨kr, kl, R, L, t4, t6, t8, t9, t10, hp, hr, hl', rR, rL, lR, lL, rfl⟩
  (try (with_reducible (first | refine Zh ?_ | refine Zd ?_); intro J))
  (with_reducible first | refine Zb ?_ | (refine Zf ?_; intro J)); simp -implicitDefEqProofs only [↓Yd, ↓Zp, ZG, ZW, Zc, e_bin, e_or, Yc, at_7, Ze, Za, u_len_ref, b_add, b_gt, b_eq, b_item_ref, Zq hl', Zr]
  split
  · (with_reducible first | refine Zb ?_ | (refine Zf ?_; intro J)); simp -implicitDefEqProofs only [ZV, ZI, Zv]
    exact hNo H' hp
  rename_i l0
  have l0 : 0 < L.length := by lia
  (try skip)
  refine first_item l0 ?_
  (try simp -implicitDefEqProofs only [Ze, b_eq])
  split
  · (with_reducible first | refine Zb ?_ | (refine Zf ?_; intro J)); simp -implicitDefEqProofs only [ZV, ZI, Zv]
    exact hNo H' hp
  rename_i c0
  refine withL_of hl' ?_
  rw [Zr]
  split
  · (with_reducible first | refine Zb ?_ | (refine Zf ?_; intro J)); simp -implicitDefEqProofs only [ZV, ZI, Zv]
    exact hNo H' hp
  rename_i c1
  have f0 : fz (co L 0) ≠ 0 := fun q => c0 (fz_inj (co_red rL 0) (by lia) (q.trans fz_zero.symm))
  have hinv := inv_mul f0
  (with_reducible first | refine Zb ?_ | (refine Zf ?_; intro J)); simp -implicitDefEqProofs only [↓Zp, Zi, Zc, ZR, Zn, Zg, at_7, Za, b_item_ref, set_11, Zq hl']
  refine first_item l0 ?_
  refine spec_inverse _ _ _ _ ?_
  generalize inv (co L 0) = f at hinv
  (try skip)
  (with_reducible first | refine Zb ?_ | (refine Zf ?_; intro J)); simp -implicitDefEqProofs only [ZV, Zc, ZR, e_list, e_tup, Zn, Zg, at_5, at_7, at_11]
  refine spec_times _ _ _ R [f] _ _ (Zz hr) (Zm (vs := [V.int f])) rR (by lia) (by simp) fun k5 us H5 p5 lk5 f5 tu ru lu cu => ?_
  (try skip)
  refine spec_times _ _ _ L [f] _ _ (Zz (Zl p5 (Zz hl'))) (Zm (vs := [V.int f])) rL (by lia) (by simp) fun k6 ls H6 p6 lk6 f6 tl rl ll cl => ?_
  (try skip)
  simp only [List.length_cons, List.length_nil] at lu ll
  refine hF k5 k6 us ls H6 (hp.trans ((List.prefix_append _ _).trans (p5.trans ((List.prefix_append _ _).trans p6)))) (Zl ((List.prefix_append _ _).trans p6) f5) f6 ⟨ru, tu⟩ ⟨rl, tl⟩ (by lia) (by lia) fun q => one_apart hinv ?_
  have e := cl 0
  rw [q, cv_start] at e
  exact e.symm
set_option tactic.hygienic false

end Mine

--STEP: e_slice, sl_ii, sl_ni, sl_in, b_is_tup, b_is_n, b_is_ref, u_abs
open PySem
set_option linter.unusedSimpArgs false
set_option linter.unusedVariables false
namespace Mine

theorem ok_sums_of (n k : Nat) (A : List Int) (many : Nat) (H : Hp) (P : PV) (hk : H[k]? = some (zl A)) (hm : many ≤ 1000) (h : ∀ zs H', H <+: H' → Red zs → zs.length = many → P (.ref H'.length) (H' ++ [zl zs])) : run T (n + 2) 23 [.ref k, .int many] H P := by
  --EXPL
  refine run_succ (d := f_sums_of) rfl rfl (by decide) ?_; simp -implicitDefEqProofs only [f_sums_of, entry, List.map, List.replicate, Nat.reduceSub, s_cons, ↓Zp, ZG, ZV, ZU, Zc, e_comp, ZJ, Zv, b_add, List.cons_append, List.nil_append]
  generalize hM : (many : Int) + 1 = M
  generalize hL : (1 : Int) = L
  refine comp_range (Zo _ _) (by lia) (by lia) (fun q acc H' => ∃ zs, And4 (acc = zl zs) (Red zs) (zs.length = q) (H <+: H')) ⟨[], rfl, red_nil, rfl, List.prefix_refl _⟩ ?_ ?_
  · rintro j acc H' hj ⟨zs, rfl, rz, lz, hp⟩
    (try (with_reducible (first | refine Zh ?_ | refine Zd ?_); intro J))
    (try simp -implicitDefEqProofs only [↓Zp, ZI, e_bool, Zc, e_un, e_comp, Zx, branch_true, List.cons_append, List.nil_append])
    refine comp_lmap (Zo _ _) (Zl hp hk) (fun a => a ^ (j + 1) % 251) ?_ ?_
    · intro a ha H2 hp2 R2 hR2
      (try simp -implicitDefEqProofs only [↓f_vv, Yc, at_3, List.cons_append, List.nil_append])
      refine spec_power _ _ _ _ _ (by lia) ?_
      rw [show (L + (j : Int)).toNat = j + 1 by lia]
      exact hR2 _ (List.prefix_refl _)
    · intro H2 hp2
      (try simp -implicitDefEqProofs only [u_sum_ref, ZY])
      refine withL_of Zm ?_
      (try simp -implicitDefEqProofs only [withI_zl])
      exact ⟨by decide, zs ++ [_ % 251], zl_append _ _, red_push rz _, by simp [lz], Zy (hp.trans hp2)⟩
  · rintro acc H' ⟨zs, rfl, rz, lz, hp⟩
    (try (with_reducible (first | refine Zh ?_ | refine Zd ?_); intro J))
    exact h zs H' hp rz (by lia)

theorem ok_law_sums (n k : Nat) (A : List Int) (many : Nat) (H : Hp) (P : PV) (hk : H[k]? = some (zl A)) (hA : Num A) (hm : many ≤ 1000)
    (h : ∀ k' zs H', H <+: H' → H'[k']? = some (zl zs) → Red zs → zs.length = many → P (.ref k') H') : run T (n + 1) 26 [.ref k, .int many] H P := by
  refine run_succ (d := f_law_sums) rfl rfl (by decide) ?_
  simp only [f_law_sums, entry, List.map, List.replicate, Nat.reduceSub, List.cons_append, List.nil_append]
  (with_reducible first | refine Zb ?_ | (refine Zf ?_; intro J)); simp only [↓f_l0, Zi, Za, set_2]
  (try change wpSs _ _ _ _ _)
  refine s_cut (Zo _ _) (fun m' H' => Ex2 fun zs t3 => And5 (H <+: H') (H'[H.length]? = some (zl zs)) (Red zs) (zs.length = many) (m' = [some (.ref k), some (.int many), some (.ref H.length), t3, none, none])) ?_ ?_
  · (try (with_reducible refine post_letS ?_; intro J))
    (try simp only [s_each, ZU, Zc, ZJ])
    refine each_range (Zo _ _) (by decide) (by lia) (fun q m' H' => Ex2 fun zs t3 => And5 (H <+: H') (H'[H.length]? = some (zl zs)) (Red zs) (zs.length = q) (m' = [some (.ref k), some (.int many), some (.ref H.length), t3, none, none])) ⟨[], none, List.prefix_append _ _, Zm, red_nil, rfl, rfl⟩ ?_ ?_
    · rintro q m' H' hq ⟨zs, t3, hp, hk', rz, lz, rfl⟩
      (try (with_reducible (first | refine Zh ?_ | refine Zd ?_); intro J))
      (with_reducible first | refine Zb ?_ | (refine Zf ?_; intro J)); simp only [s_append, ZU, Zc, Yc, Za, app_ref, set_3, Zq hk']
      refine ⟨by rw [Zr]; unfold room; lia, zs ++ [0], _, pre_set hp (Nat.le_refl _), ?_, red_append rz (by decide) (by decide), by simp [lz], rfl⟩
      rw [set_get hk', zl_append]
    · rintro m' H' ⟨zs, t3, hp, hk', rz, lz, rfl⟩
      (try (with_reducible (first | refine Zh ?_ | refine Zd ?_); intro J))
      exact ⟨zs, t3, hp, hk', rz, by lia, rfl⟩
  rintro m' H' ⟨zs, t3, hp, hk', rz, lz, rfl⟩
  (try (with_reducible (first | refine Zh ?_ | refine Zd ?_); intro J))
  (try change wpSs _ _ _ _ _)
  refine s_cut (Zo _ _) (fun m' H' => Ex4 fun zs t3 t4 t5 => And5 (H <+: H') (H'[H.length]? = some (zl zs)) (Red zs) (zs.length = many) (m' = [some (.ref k), some (.int many), some (.ref H.length), t3, t4, t5])) ?_ ?_
  · (try (with_reducible refine post_letS ?_; intro J))
    (try simp only [s_each, ZI, Zc, Zx])
    refine each_ref (Zo _ _) (Zl hp hk) (fun q m' H' => Ex4 fun zs t3 t4 t5 => And5 (H <+: H') (H'[H.length]? = some (zl zs)) (Red zs) (zs.length = many) (m' = [some (.ref k), some (.int many), some (.ref H.length), t3, t4, t5])) ⟨zs, t3, none, none, hp, hk', rz, lz, rfl⟩ (fun j m H' h => by obtain ⟨_, _, _, _, h, _⟩ := h; exact Zl h hk) ?_ ?_
    · rintro q v m' H' hv ⟨zs, t3, t4, t5, hp, hk', rz, lz, rfl⟩
      (try (with_reducible (first | refine Zh ?_ | refine Zd ?_); intro J))
      obtain ⟨a, ha, rfl⟩ := zl_at hv
      have na := hA a (List.mem_of_getElem? ha)
      (with_reducible first | refine Zb ?_ | (refine Zf ?_; intro J)); simp only [Zi, ZU, Za, set_4, set_5]
      (try change wpSs _ _ _ _ _)
      refine s_cut (Zo _ _) (fun m' H' => Ex4 fun zs t3 t4 t5 => And5 (H <+: H') (H'[H.length]? = some (zl zs)) (Red zs) (zs.length = many) (m' = [some (.ref k), some (.int many), some (.ref H.length), t3, t4, t5])) ?_ (fun m H h => by (try change wpSs _ _ _ _ _); simp only [ZG, Za]; exact h)
      (try simp only [s_each, ZU, Zc, ZJ])
      refine each_range (Zo _ _) (by decide) (by lia) (fun j m' H' => Ex3 fun t3 fs f => And5 (H <+: H') (H'[H.length]? = some (zl fs)) (Red fs) (fs.length = many) (m' = [some (.ref k), some (.int many), some (.ref H.length), t3, some (.int a), some (.int f)])) ⟨_, _, 1, hp, hk', rz, lz, rfl⟩ ?_ ?_
      · rintro j m' H' hj ⟨t3, fs, f, hp, hk', rf, hl, rfl⟩
        (try (with_reducible (first | refine Zh ?_ | refine Zd ?_); intro J))
        (with_reducible first | refine Zb ?_ | (refine Zf ?_; intro J)); simp only [↓Zp, ↓f_bav, Zi, Zc, at_4, at_5, Za, b_mul, ZY, set_3, set_5]
        refine ⟨.inr ⟨by lia, by lia⟩, by decide, ?_⟩
        (with_reducible first | refine Zb ?_ | (refine Zf ?_; intro J)); simp only [↓Zp, ↓f_bav, s_setItem, Zc, Yc, at_3, at_5, Za, set_ref, b_item_ref, Zq hk']
        refine Zw (by lia) (zl_get (xs := fs) (j := (0 + (j : Int)).toNat) (by lia)) ?_
        (try simp only [b_add, ZY])
        refine ⟨by decide, withL_of hk' ⟨by lia, by rw [Zr]; lia, ?_⟩⟩
        rw [zl_set]
        exact ⟨_, _, _, pre_set hp (Nat.le_refl _), set_get hk', red_set rf (red_mod _), by simp [hl], rfl⟩
      · rintro m' H' ⟨t3, fs, f, hp, hk', rf, hl, rfl⟩
        (try (with_reducible (first | refine Zh ?_ | refine Zd ?_); intro J))
        exact ⟨fs, t3, _, _, hp, hk', rf, hl, rfl⟩
    · rintro m' H' ⟨zs, t3, t4, t5, hp, hk', rz, lz, rfl⟩
      (try (with_reducible (first | refine Zh ?_ | refine Zd ?_); intro J))
      exact ⟨zs, t3, t4, t5, hp, hk', rz, lz, rfl⟩
  rintro m' H' ⟨zs, t3, t4, t5, hp, hk', rz, lz, rfl⟩
  (try (with_reducible (first | refine Zh ?_ | refine Zd ?_); intro J))
  (try change wpSs _ _ _ _ _); simp only [s_cons, ZG, ZV, Zc, Yc, Zv]
  exact h _ zs H' hp hk' rz lz

theorem ok_letter (n k : Nat) (A : List Int) (many : Nat) (H : Hp) (P : PV) (hk : H[k]? = some (zl A)) (nA : Num A) (dA : A.Nodup) (lA : A.length < 4000) (h1 : 1 ≤ many) (h2 : many ≤ 12)
    (h : ∀ zs H', H <+: H' → Red zs → zs.length = many → P (.tup [.int A.length, .tup (zl zs)]) H') : run T (n + 3) 24 [.ref k, .int many] H P := by
  refine run_succ (d := f_letter) rfl rfl (by decide) ?_
  simp only [f_letter, entry, List.map, List.replicate, Nat.reduceSub, List.cons_append, List.nil_append]
  (with_reducible first | refine Zb ?_ | (refine Zf ?_; intro J)); simp only [s_expr, Zc, Zn, Zg, Zx, Za]
  refine spec_need_row _ _ A _ _ hk nA dA lA ?_
  (try skip)
  (with_reducible first | refine Zb ?_ | (refine Zf ?_; intro J)); simp only [s_expr, Zc, Zn, Zg, ZJ, Za]
  refine spec_need_count _ _ _ _ (by lia) (by lia) ?_
  (try skip)
  (with_reducible first | refine Zb ?_ | (refine Zf ?_; intro J)); simp only [↓f_vv, ↓Yd, ZV, e_un, e_tup, Zn, Zg, Zx, ZJ, u_len_ref, Zq hk, Zr]
  refine ok_sums_of _ _ A many _ _ hk (by lia) fun zs H' hp rz lz => ?_
  (try simp only [u_tuple_ref])
  refine withL_of Zm ?_
  (try skip)
  exact h zs _ (Zy hp) rz lz

theorem ok_gaps (n k : Nat) (A S : List Int) (c : Int) (H : Hp) (P : PV) (hk : H[k]? = some (zl A)) (nA : Num A) (dA : A.Nodup) (lA : A.length < 4000) (h0 : 0 ≤ c) (h1 : c ≤ 250) (rS : Red S) (l1 : 1 ≤ S.length) (l2 : S.length ≤ 12)
    (h : ∀ k' zs H', H <+: H' → H'[k']? = some (zl zs) → Red zs → zs.length = S.length → P (.tup [.int (c - A.length), .ref k']) H') : run T (n + 3) 29 [.ref k, .tup [.int c, .tup (zl S)]] H P := by
  refine run_succ (d := f_gaps) rfl rfl (by decide) ?_
  simp only [f_gaps, entry, List.map, List.replicate, Nat.reduceSub, List.cons_append, List.nil_append]
  (with_reducible first | refine Zb ?_ | (refine Zf ?_; intro J)); simp only [s_expr, Zc, Zn, Zg, Zx, Za]
  refine spec_need_row _ _ A _ _ hk nA dA lA ?_
  (try skip)
  (with_reducible first | refine Zb ?_ | (refine Zf ?_; intro J)); simp only [s_expr, Zc, Zn, Zg, ZJ, Za]
  refine spec_need_letter _ _ _ _ _ h0 h1 rS l1 l2 ?_
  (try skip)
  (with_reducible first | refine Zb ?_ | (refine Zf ?_; intro J)); simp only [↓Zp, Zi, Zc, e_un, ZR, Zn, Zg, Zx, ZJ, Za, b_item_tup, set_2]
  refine Zw (by decide) rfl ?_
  (try simp only [u_len_tup, Zr])
  refine ok_sums_of _ _ A S.length _ _ hk (by lia) fun zs H' hp rz lz => ?_
  (try skip)
  have o1 : (H' ++ [zl zs])[H'.length]? = some (zl zs) := Zm
  have p1 : H <+: H' ++ [zl zs] := Zy hp
  generalize H' ++ [zl zs] = H1 at *
  (with_reducible first | refine Zb ?_ | (refine Zf ?_; intro J)); simp only [↓Yd, ↓Zp, ZV, Zc, e_bin, e_tup, Zn, Zg, Zx, ZJ, u_len_ref, b_item_tup]
  refine Zw (by decide) rfl ?_
  (try simp only [b_sub, Zq (Zl p1 hk), Zr])
  refine e_zcomp (fun x y => (x - y) % 251) (fun x y R hR => ?_) (Zo _ _) ?_
  · (try simp only [↓Zp, ↓f_bav, Zc, Zx, ZJ, b_sub, ZY])
    exact ⟨by decide, hR⟩
  (try simp only [↓Zp, Zc, ZJ, Yc, b_item_tup])
  refine Zw (by decide) rfl ⟨S, rfl, H'.length, _, rfl, o1, lz.symm, ?_⟩
  refine h _ _ _ (Zy p1) Zm (fun a ha => ?_) (by simp [lz])
  obtain ⟨i, hi, rfl⟩ := List.getElem_of_mem ha
  rw [List.getElem_zipWith]
  exact red_mod _

theorem ok_numbers_of (n k : Nat) (us : List Int) (H : Hp) (P : PV) (hk : H[k]? = some (zl us)) (hu : Red us ∧ Trim us) (nu : us ≠ []) (lu : us.length ≤ 60)
    (hNo : ∀ H', H <+: H' → P .none H') (hYes : ∀ k' js H', H <+: H' → H'[k']? = some (zl js) → js.length ≤ 60 → P (.ref k') H') : run T (n + 3) 34 [.ref k] H P := by
  have hl := roots_le hu.1 hu.2 nu
  refine run_succ (d := f_numbers_of) rfl rfl (by decide) ?_
  simp only [f_numbers_of, entry, List.map, List.replicate, Nat.reduceSub, List.cons_append, List.nil_append]
  (with_reducible first | refine Zb ?_ | (refine Zf ?_; intro J)); simp only [↓f_v, Zi, ZI, e_un, e_comp, Zx, Za, set_1]
  refine spec_roots _ _ us _ _ hk ?_
  (try skip)
  refine comp_lmap (Zo _ _) Zm inv (fun a ha H' hp R hR => ?_) fun H' hp => ?_
  · (try simp only [↓f_v, Yc, List.cons_append, List.nil_append])
    refine spec_inverse _ _ _ _ ?_
    exact hR _ (List.prefix_refl _)
  rw [u_sorted Zm]
  refine ⟨by rw [List.length_map]; lia, fun js hj hs => ?_⟩
  have hjl := hj.length_eq
  rw [List.length_map] at hjl
  (try skip)
  have gj : (H' ++ [zl ((rootsOf us).map inv)] ++ [zl js])[(H' ++ [zl ((rootsOf us).map inv)]).length]? = some (zl js) := Zm
  have pj : H <+: H' ++ [zl ((rootsOf us).map inv)] ++ [zl js] := Zy (Zy ((List.prefix_append H [zl (rootsOf us)]).trans hp))
  generalize H' ++ [zl ((rootsOf us).map inv)] ++ [zl js] = H2 at *
  generalize (H' ++ [zl ((rootsOf us).map inv)]).length = k2 at *
  (with_reducible first | refine Zb ?_ | (refine Zf ?_; intro J)); simp only [↓Yd, ↓Zp, ZG, ZW, e_bin, Zx, ZJ, branch_ndecide, Za, u_len_ref, b_sub, b_ne, Zq gj, Zq (Zl pj hk), Zr]
  split
  · (with_reducible first | refine Zb ?_ | (refine Zf ?_; intro J)); simp only [ZV, Zc, ZJ]
    exact hYes k2 js H2 pj gj (by lia)
  · (with_reducible first | refine Zb ?_ | (refine Zf ?_; intro J)); simp only [ZV, ZI, Zv]
    exact hNo H2 pj

theorem ok_is_find (n k i j : Nat) (A S L O : List Int) (c : Int) (H : Hp) (P : PV) (hk : H[k]? = some (zl A)) (hi : H[i]? = some (zl L)) (hj : H[j]? = some (zl O)) (lA : A.length ≤ 4000) (lL : L.length ≤ 100) (lS : S.length ≤ 100)
    (h : ∀ b H', H <+: H' → P (.bool b) H') : run T (n + 3) 35 [.ref k, .tup [.int c, .tup (zl S)], .ref i, .ref j] H P := by
  refine run_succ (d := f_is_find) rfl rfl (by decide) ?_
  simp only [f_is_find, entry, List.map, List.replicate, Nat.reduceSub, List.cons_append, List.nil_append]
  (with_reducible first | refine Zb ?_ | (refine Zf ?_; intro J)); simp only [↓Zp, ZG, ZW, ZI, Zc, e_un, e_comp, Yc, Za]
  refine comp_lpick (Zo _ _) hi rfl (fun a => decide (a ∈ A)) (fun a ha R hR => ?_) ?_
  · (try simp only [↓f_bav, Zc, Zx, at_5, List.cons_append, List.nil_append, b_isin hk])
    exact hR
  (try simp only [Ze, u_len_ref, b_gt])
  refine withL_of Zm ?_
  have p1 : H <+: H ++ [zl (L.filter fun a => decide (a ∈ A))] := List.prefix_append _ _
  generalize H ++ [zl (L.filter fun a => decide (a ∈ A))] = H1 at *
  split
  · (with_reducible first | refine Zb ?_ | (refine Zf ?_; intro J)); simp only [ZV, e_bool, Zv]
    exact h _ _ p1
  have k1 := Zl p1 hk
  have j1 := Zl p1 hj
  (with_reducible first | refine Zb ?_ | (refine Zf ?_; intro J)); simp only [↓Yd, ↓Zp, ZG, ZW, ZI, Zc, e_un, e_bin, e_or, e_comp, ZJ, Yc, at_3, Za, u_len_ref, b_add, b_item_tup]
  refine comp_lpick (Zo _ _) j1 rfl (fun a => !decide (a ∈ A)) (fun a ha R hR => ?_) ?_
  · (try simp only [↓f_bav, Zc, Zx, at_5, List.cons_append, List.nil_append, b_notin k1])
    exact hR
  (try simp only [Ze, u_len_ref, b_gt])
  refine withL_of Zm ?_
  have p2 : H <+: H1 ++ [zl (O.filter fun a => !decide (a ∈ A))] := Zy p1
  generalize H1 ++ [zl (O.filter fun a => !decide (a ∈ A))] = H2 at *
  split
  · (with_reducible first | refine Zb ?_ | (refine Zf ?_; intro J)); simp only [ZV, e_bool, Zv]
    exact h _ _ p2
  have k2 := Zl p2 hk
  have i2 := Zl p2 hi
  have j2 := Zl p2 hj
  refine withL_of i2 (withL_of j2 ?_)
  refine Zw (by decide) rfl ?_
  (try simp only [Ze, u_len_tup, b_gt])
  split
  · (with_reducible first | refine Zb ?_ | (refine Zf ?_; intro J)); simp only [ZV, e_bool, Zv]
    exact h _ _ p2
  (with_reducible first | refine Zb ?_ | (refine Zf ?_; intro J)); simp only [↓f_bav, Zi, ZI, Zc, e_comp, Zx, Yc, Za, set_4]
  refine comp_lpick (Zo _ _) k2 rfl (fun a => !decide (a ∈ O)) (fun a ha R hR => ?_) ?_
  · (try simp only [↓f_bav, Zc, at_3, at_5, List.cons_append, List.nil_append, b_notin j2])
    exact hR
  have lf := List.length_filter_le (fun a => !decide (a ∈ O)) A
  (try skip)
  rw [b_cat Zm (Zz i2), zl_cat]
  refine ⟨by rw [Zr, Zr]; unfold room; lia, ?_⟩
  (try skip)
  have g3 : (H2 ++ [zl (A.filter fun a => !decide (a ∈ O))] ++ [zl ((A.filter fun a => !decide (a ∈ O)) ++ L)])[(H2 ++ [zl (A.filter fun a => !decide (a ∈ O))]).length]? = some (zl ((A.filter fun a => !decide (a ∈ O)) ++ L)) := Zm
  have p3 : H <+: H2 ++ [zl (A.filter fun a => !decide (a ∈ O))] ++ [zl ((A.filter fun a => !decide (a ∈ O)) ++ L)] := Zy (Zy p2)
  generalize H2 ++ [zl (A.filter fun a => !decide (a ∈ O))] ++ [zl ((A.filter fun a => !decide (a ∈ O)) ++ L)] = H3 at *
  generalize (H2 ++ [zl (A.filter fun a => !decide (a ∈ O))]).length = k3 at *
  generalize (A.filter fun a => !decide (a ∈ O)) ++ L = Z at *
  (with_reducible first | refine Zb ?_ | (refine Zf ?_; intro J)); simp only [↓Yd, ↓Zp, ZV, Zc, e_un, e_bin, e_and, ZR, Zn, Zg, ZJ, at_4, u_len_ref, b_item_tup, Zq g3]
  refine Zw (by decide) rfl ?_
  (try simp only [Ze, b_eq])
  split
  rotate_left
  · exact h _ _ p3
  refine Zw (by decide) rfl ?_
  (try simp only [u_len_tup, Zr])
  refine ok_sums_of _ _ Z S.length _ _ g3 (by lia) fun zs H4 p4 _ _ => ?_
  (try simp only [u_tuple_ref])
  refine withL_of Zm ?_
  refine Zw (by decide) rfl ?_
  rw [b_eq_tup]
  exact h _ _ (Zy (p3.trans p4))

set_option tactic.hygienic true
theorem ok_learnt (n k : Nat) (A S : List Int) (c : Int) (H : Hp) (P : PV) (hk : H[k]? = some (zl A)) (nA : Num A) (dA : A.Nodup) (lA : A.length ≤ 250) (h0 : 0 ≤ c) (h1 : c ≤ 250) (rS : Red S) (l1 : 1 ≤ S.length) (l2 : S.length ≤ 12)
    (hNo : ∀ H', H <+: H' → P .none H') (hYes : ∀ i j L O H', H <+: H' → H'[i]? = some (zl L) → H'[j]? = some (zl O) → P (.tup [.ref i, .ref j]) H') : run T (n + 5) 36 [.ref k, .tup [.int c, .tup (zl S)]] H P := by
  refine run_succ (d := f_learnt) rfl rfl (by decide) ?_
  simp only [f_learnt, entry, List.map, List.replicate, Nat.reduceSub, List.cons_append, List.nil_append]
  (with_reducible first | refine Zb ?_ | (refine Zf ?_; intro J)); simp only [s_expr, Zc, Zn, Zg, Zx, Za]
  refine spec_need_row _ _ A _ _ hk nA dA (by lia) ?_
  (try skip)
  (with_reducible first | refine Zb ?_ | (refine Zf ?_; intro J)); simp only [s_expr, Zc, Zn, Zg, ZJ, Za]
  refine spec_need_letter _ _ _ _ _ h0 h1 rS l1 l2 ?_
  (try skip)
  (with_reducible first | refine Zb ?_ | (refine Zf ?_; intro J)); simp only [↓f_vv, s_unpack, Zx, ZJ, Za]
  refine ok_gaps _ _ A S c _ _ hk nA dA (by lia) h0 h1 rS l1 l2 fun k3 gs H1 p1 g1 rg lg => ?_
  (try simp only [put_two, set_2, set_3])
  (with_reducible first | refine Zb ?_ | (refine Zf ?_; intro J)); simp only [↓Yd, Zi, at_3, Za, u_len_ref, set_4, Zq g1, Zr]
  generalize c - (A.length : Int) = more
  (try change wpSs _ _ _ _ _)
  refine s_cut (Zo _ _) (fun m' H' => H' = H1 ∧ ∃ (s : Nat), s ≤ 12 ∧ m' = [some (.ref k), some (.tup [.int c, .tup (zl S)]), some (.int more), some (.ref k3), some (.int s), none, none, none]) ?_ ?_
  · (try (with_reducible refine post_letS ?_; intro J))
    (try simp only [↓Zp, ↓f_bav, ZG, ZW, Zc, Yc, at_4, Ze, Za, b_sub, ZY, b_eq])
    refine ⟨by decide, ?_⟩
    split
    · (with_reducible first | refine Zb ?_ | (refine Zf ?_; intro J)); simp only [↓Zp, Zi, Zc, at_4, Za, b_sub, set_4]
      refine ⟨(by trivial), gs.length - 1, by lia, ?_⟩
      rw [show (gs.length : Int) - 1 = ((gs.length - 1 : Nat) : Int) by lia]
    · exact ⟨(by trivial), gs.length, by lia, rfl⟩
  rintro m' H' ⟨rfl, s, hs, rfl⟩
  (try (with_reducible (first | refine Zh ?_ | refine Zd ?_); intro J))
  (with_reducible first | refine Zb ?_ | (refine Zf ?_; intro J)); simp only [↓Yd, ↓f_bav, ZG, ZW, Yc, at_4, Ze, Za, b_gt, u_abs]
  obtain ⟨ab, hab, hab1, hab2⟩ : ∃ ab, (if more < 0 then -more else more) = ab ∧ more ≤ ab ∧ -more ≤ ab := ⟨_, rfl, by split <;> lia, by split <;> lia⟩
  rw [hab]
  clear hab
  split
  · (with_reducible first | refine Zb ?_ | (refine Zf ?_; intro J)); simp only [ZV, ZI, Zv]
    exact hNo _ p1
  rename_i c1
  have c2 : -(s : Int) ≤ more ∧ more ≤ s := by lia
  clear c1 hab1 hab2
  obtain ⟨up, hup, lup⟩ : ∃ up : Nat, ((s : Int) + more) / 2 = up ∧ up ≤ 12 := ⟨(((s : Int) + more) / 2).toNat, by lia, by lia⟩
  obtain ⟨down, hdn, ldn⟩ : ∃ down : Nat, ((s : Int) - more) / 2 = down ∧ down ≤ 12 := ⟨(((s : Int) - more) / 2).toNat, by lia, by lia⟩
  (with_reducible first | refine Zb ?_ | (refine Zf ?_; intro J)); simp only [↓f_v, ↓Zp, ↓f_bav, Zi, Zc, ZR, Zn, Zg, Yc, at_3, at_4, Za, b_add, b_sub, b_fdiv, set_5]
  refine ok_series _ _ gs _ _ g1 rg (by lia) fun k4 C H4 p4 c4 rC => ?_
  (try skip)
  refine ⟨by decide, by decide, by decide, by decide, ?_⟩
  rw [hup, hdn]
  have hp4 := p1.trans p4
  refine ok_fraction _ _ up down C _ _ c4 rC lup ldn (fun H5 p5 => ?_) fun k5 l5 us ls H5 p5 g5 g5' hus hls lu ll nls => ?_
  · (try skip)
    (with_reducible first | refine Zb ?_ | (refine Zf ?_; intro J)); simp only [↓Zp, ↓f_bvb, ZG, ZW, ZI, Zc, e_un, e_or, at_5, branch_true, Za, b_is_n]
    refine ⟨rfl, ?_⟩
    (with_reducible first | refine Zb ?_ | (refine Zf ?_; intro J)); simp only [ZV, ZI, Zv]
    exact hNo _ (hp4.trans p5)
  have p5' := hp4.trans p5
  (try skip)
  (with_reducible first | refine Zb ?_ | (refine Zf ?_; intro J)); simp only [↓Zp, ↓f_bvb, ZG, ZW, ZI, Zc, e_un, e_or, at_5, branch_false, Za, b_item_tup, b_is_tup]
  refine ⟨rfl, ?_⟩
  refine Zw (by decide) rfl ?_
  (try simp only [Ze, u_len_ref, b_eq, Zq g5, Zr])
  split
  · (with_reducible first | refine Zb ?_ | (refine Zf ?_; intro J)); simp only [ZV, ZI, Zv]
    exact hNo _ p5'
  rename_i z
  (try change wpSs _ _ _ _ _)
  refine s_cut (Zo _ _) (fun m' H' => ∃ v, And3 (H5 <+: H') ((v = .none ∨ ∃ i L, v = .ref i ∧ H'[i]? = some (zl L) ∧ L.length ≤ 60)) (m' = [some (.ref k), some (.tup [.int c, .tup (zl S)]), some (.int more), some (.ref k3), some (.int s), some (.tup [.ref k5, .ref l5]), some v, none])) ?_ ?_
  · (try (with_reducible refine post_letS ?_; intro J))
    (try simp only [↓Zp, Zi, Zc, ZR, Zn, Zg, at_5, Za, b_item_tup, set_6])
    refine Zw (by decide) rfl ?_
    refine ok_numbers_of _ _ us _ _ g5 hus (fun q => by rw [q] at z; simp at z) lu (fun H6 p6 => ?_) fun i js H6 p6 g6 lj => ?_
    · (try skip)
      exact ⟨_, p6, .inl rfl, rfl⟩
    · (try skip)
      exact ⟨_, p6, .inr ⟨i, js, rfl, g6, lj⟩, rfl⟩
  rintro m' H6 ⟨v, p6, hv, rfl⟩
  (try (with_reducible (first | refine Zh ?_ | refine Zd ?_); intro J))
  (try change wpSs _ _ _ _ _)
  refine s_cut (Zo _ _) (fun m' H' => ∃ w, And3 (H6 <+: H') ((w = .none ∨ ∃ i L, w = .ref i ∧ H'[i]? = some (zl L))) (m' = [some (.ref k), some (.tup [.int c, .tup (zl S)]), some (.int more), some (.ref k3), some (.int s), some (.tup [.ref k5, .ref l5]), some v, some w])) ?_ ?_
  · (try (with_reducible refine post_letS ?_; intro J))
    (try simp only [↓Zp, Zi, Zc, ZR, Zn, Zg, at_5, Za, b_item_tup, set_7])
    refine Zw (by decide) rfl ?_
    refine ok_numbers_of _ _ ls _ _ (Zl p6 g5') hls nls ll (fun H7 p7 => ?_) fun i js H7 p7 g7 lj => ?_
    · (try skip)
      exact ⟨_, p7, .inl rfl, rfl⟩
    · (try skip)
      exact ⟨_, p7, .inr ⟨i, js, rfl, g7⟩, rfl⟩
  rintro m' H7 ⟨w, p7, hw, rfl⟩
  (try (with_reducible (first | refine Zh ?_ | refine Zd ?_); intro J))
  have p7' := p5'.trans (p6.trans p7)
  rcases hv with rfl | ⟨i, L, rfl, gi, lL⟩
  · (with_reducible first | refine Zb ?_ | (refine Zf ?_; intro J)); simp only [↓f_bvb, ZG, ZW, ZI, Zc, e_not, e_or, ZR, Zn, Zg, Zx, ZJ, at_6, at_7, branch_true, Za, b_is_n]
    refine ⟨rfl, ?_⟩
    (with_reducible first | refine Zb ?_ | (refine Zf ?_; intro J)); simp only [ZV, ZI, Zv]
    exact hNo _ p7'
  rcases hw with rfl | ⟨j, O, rfl, gj⟩
  · (with_reducible first | refine Zb ?_ | (refine Zf ?_; intro J)); simp only [↓f_bvb, ZG, ZW, ZI, Zc, e_not, e_or, ZR, Zn, Zg, Zx, ZJ, at_6, at_7, branch_true, branch_false, Za, b_is_n, b_is_ref]
    refine ⟨rfl, rfl, ?_⟩
    (with_reducible first | refine Zb ?_ | (refine Zf ?_; intro J)); simp only [ZV, ZI, Zv]
    exact hNo _ p7'
  have gi7 := Zl p7 gi
  (with_reducible first | refine Zb ?_ | (refine Zf ?_; intro J)); simp only [↓f_bvb, ZG, ZW, ZI, Zc, e_not, e_or, ZR, Zn, Zg, Zx, ZJ, at_6, at_7, branch_false, Za, b_is_ref]
  refine ⟨rfl, rfl, ?_⟩
  refine ok_is_find _ _ _ _ A S L O c _ _ (Zl p7' hk) gi7 gj (by lia) (by lia) (by lia) fun b H8 p8 => ?_
  cases b with
  | false =>
    (try simp only [branch_true, not_bool, Bool.not_false])
    (with_reducible first | refine Zb ?_ | (refine Zf ?_; intro J)); simp only [ZV, ZI, Zv]
    exact hNo _ (p7'.trans p8)
  | true =>
    (try simp only [branch_false, not_bool, Bool.not_true])
    (with_reducible first | refine Zb ?_ | (refine Zf ?_; intro J)); simp only [ZV, Zc, e_tup, Zn, Zg, at_6, at_7]
    exact hYes i j L O H8 (p7'.trans p8) (Zl p8 gi7) (Zl p8 gj)
set_option tactic.hygienic false

theorem ok_met (n i j many : Nat) (A B : List Int) (H : Hp) (P : PV) (hi : H[i]? = some (zl A)) (hj : H[j]? = some (zl B)) (nA : Num A) (dA : A.Nodup) (lA : A.length ≤ 250) (nB : Num B) (dB : B.Nodup) (lB : B.length ≤ 250) (m1 : 1 ≤ many) (m2 : many ≤ 12)
    (h : ∀ v H', H <+: H' → P v H') : run T (n + 6) 38 [.ref i, .ref j, .int many] H P := by
  refine run_succ (d := f_met) rfl rfl (by decide) ?_
  simp only [f_met, entry, List.map, List.replicate, Nat.reduceSub, List.cons_append, List.nil_append]
  (with_reducible first | refine Zb ?_ | (refine Zf ?_; intro J)); simp only [s_expr, Zc, Zn, Zg, Zx, Za]
  refine spec_need_row _ _ A _ _ hi nA dA (by lia) ?_
  (try skip)
  (with_reducible first | refine Zb ?_ | (refine Zf ?_; intro J)); simp only [s_expr, Zc, Zn, Zg, ZJ, Za]
  refine spec_need_row _ _ B _ _ hj nB dB (by lia) ?_
  (try skip)
  (with_reducible first | refine Zb ?_ | (refine Zf ?_; intro J)); simp only [s_expr, Zc, Zn, Zg, Yc, Za]
  refine spec_need_count _ _ _ _ (by lia) (by lia) ?_
  (try skip)
  (with_reducible first | refine Zb ?_ | (refine Zf ?_; intro J)); simp only [↓f_vv, Zi, Zc, ZR, Zn, Zg, Zx, ZJ, Yc, Za, set_3]
  refine ok_letter _ _ A many _ _ hi nA dA (by lia) m1 m2 fun zs H1 p1 rz lz => ?_
  (try skip)
  refine ok_learnt _ _ B zs A.length _ _ (Zl p1 hj) nB dB lB (by lia) (by lia) rz (by lia) (by lia) (fun H2 p2 => ?_) fun k l L O H2 p2 gk gl => ?_
  · (try skip)
    (with_reducible first | refine Zb ?_ | (refine Zf ?_; intro J)); simp only [↓Zp, ↓f_bvb, ZG, ZW, ZI, Zc, e_not, e_or, ZR, Zn, Zg, Zx, at_3, branch_true, Za, b_is_n]
    refine ⟨rfl, ?_⟩
    (with_reducible first | refine Zb ?_ | (refine Zf ?_; intro J)); simp only [ZV, ZI, Zv]
    exact h _ _ (p1.trans p2)
  · have p := p1.trans p2
    (try skip)
    (with_reducible first | refine Zb ?_ | (refine Zf ?_; intro J)); simp only [↓Zp, ↓f_bvb, ZG, ZW, ZI, Zc, e_not, e_or, ZR, Zn, Zg, Zx, at_3, branch_false, Za, b_item_tup, b_is_tup]
    refine ⟨rfl, ?_⟩
    refine Zw (by decide) rfl ?_
    (try skip)
    refine Zw (by decide) rfl ?_
    refine spec_sound _ _ _ _ A L O _ _ (Zl p hi) gk gl nA dA (by lia) fun H3 p3 => ?_
    cases ((L.all fun a => decide (a ∈ A)) && O.all fun a => !decide (a ∈ A)) with
    | true =>
      (try simp only [branch_false, not_bool, Bool.not_true])
      (with_reducible first | refine Zb ?_ | (refine Zf ?_; intro J)); simp only [ZV, Zc, at_3]
      exact h _ _ (p.trans p3)
    | false =>
      (try simp only [branch_true, not_bool, Bool.not_false])
      (with_reducible first | refine Zb ?_ | (refine Zf ?_; intro J)); simp only [ZV, ZI, Zv]
      exact h _ _ (p.trans p3)
end Mine

open PySem
set_option linter.unusedSimpArgs false
set_option linter.unusedVariables false
namespace Mine

/-! ## what shows in so many letters -/
inductive Sz (H : Hp) : Nat → V → Nat → Prop where
  | none {n b : Nat} (h : 24 ≤ b) : Sz H n .none b
  | bool {n b : Nat} {c : Bool} (h : 24 ≤ b) : Sz H n (.bool c) b
  | int {n b : Nat} {i : Int} (hi : i.natAbs < 10 ^ 23) (h : 24 ≤ b) : Sz H n (.int i) b
  | three {n b : Nat} (h : 24 ≤ b) : Sz H n (.str "3") b
  | tup {n b b' : Nat} {vs : List V} (h : vs.length * (b' + 2) + 3 ≤ b) (hs : ∀ x ∈ vs, Sz H n x b') : Sz H (n + 1) (.tup vs) b
  | ref {n b b' k : Nat} {vs : List V} (hk : H[k]? = some vs) (h : vs.length * (b' + 2) + 3 ≤ b) (hs : ∀ x ∈ vs, Sz H n x b') : Sz H (n + 1) (.ref k) b

theorem Sz.pre {H H' : Hp} {n b : Nat} {v : V} (h : Sz H n v b) (p : H <+: H') : Sz H' n v b := by
  induction h with
  | none h => exact .none h
  | bool h => exact .bool h
  | int hi h => exact .int hi h
  | three h => exact .three h
  | tup h _ ih => exact .tup h ih
  | ref hk h _ ih => exact .ref (Zl p hk) h ih
theorem Sz.wide {H : Hp} {n b b' : Nat} {v : V} (h : Sz H n v b) (hb : b ≤ b') : Sz H n v b' := by
  cases h with
  | none h => exact .none (Nat.le_trans h hb)
  | bool h => exact .bool (Nat.le_trans h hb)
  | int hi h => exact .int hi (Nat.le_trans h hb)
  | three h => exact .three (Nat.le_trans h hb)
  | tup h ih => exact .tup (Nat.le_trans h hb) ih
  | ref hk h ih => exact .ref hk (Nat.le_trans h hb) ih
/-- shows as d in all that comes -/
noncomputable def Shw (H : Hp) (n : Nat) (v : V) (b : Nat) : Prop := ∃ d, (∀ H', H <+: H' → deepS n H' v = some d) ∧ d.showable = true ∧ d.shown.length ≤ b

theorem shw_all {H : Hp} {n b : Nat} : ∀ (vs : List V), (∀ x ∈ vs, Shw H n x b) → ∃ ds, (∀ H', H <+: H' → deepL (deepS n H') vs = some ds) ∧ PyData.showableAll ds = true ∧ piled (PyData.shownAll ds) ≤ vs.length * (b + 2)
  | [], _ => ⟨[], fun _ _ => rfl, rfl, Nat.zero_le _⟩
  | x :: r, h => by
    obtain ⟨d, h1, h2, h3⟩ := h x List.mem_cons_self
    obtain ⟨ds, g1, g2, g3⟩ := shw_all r fun y hy => h y (List.mem_cons_of_mem _ hy)
    refine ⟨d :: ds, fun H' p => ?_, ?_, ?_⟩
    · show (match deepS n H' x, deepL (deepS n H') r with | some x, some xs => some (x :: xs) | _, _ => Option.none) = _
      rw [h1 H' p, g1 H' p]
    · rw [PyData.showableAll, h2, g2]; rfl
    · rw [PyData.shownAll, piled_cons, List.length_cons, Nat.add_mul]; lia
theorem join_le (ts : List Str) : (Str.join ", " ts).length ≤ piled ts := by
  by_cases h : ts = []
  · subst h; exact Nat.zero_le _
  · have := join_length_add ts h; lia
theorem tupleText_le (ts : List Str) : (tupleText ts).length ≤ piled ts + 3 := by
  have := join_le ts
  unfold tupleText
  rw [strLen_append, strLen_append]
  have e1 : (("(" : String) : Str).length = 1 := rfl
  have e2 : (((if ts.length == 1 then ",)" else ")" : String)) : Str).length ≤ 2 := by split <;> decide
  lia
theorem listText_le : ∀ ts : List Str, (listText ts).length ≤ piled ts + 3
  | [] => by decide
  | t :: r => by
    have h := textFrom_length_pos r 1 (("[" : Str) ++ (if (0 : Nat) > 0 then ", " else "" : String) ++ t) (Nat.succ_pos 0)
    have e : ((("[" : Str) ++ (if (0 : Nat) > 0 then ", " else "" : String) ++ t)).length = 1 + t.length := by
      rw [strLen_append, strLen_append]; rfl
    have hX : (listText (t :: r)).length = (textFrom 0 "[" (t :: r)).length + 1 := by
      show (textFrom 0 "[" (t :: r) ++ "]").length = _
      rw [strLen_append]; rfl
    have hY : (textFrom 0 "[" (t :: r)).length = (textFrom 1 (("[" : Str) ++ (if (0 : Nat) > 0 then ", " else "" : String) ++ t) r).length := rfl
    rw [hX, hY, h, e, piled_cons]; lia

theorem sz_shw {H : Hp} {n b : Nat} {v : V} (h : Sz H n v b) : Shw H n v b := by
  induction h with
  | none h => exact ⟨.none, fun _ _ => deep_leaf rfl, rfl, Nat.le_trans (show _ ≤ 24 by decide) h⟩
  | @bool n b c h => exact ⟨.bool c, fun _ _ => deep_leaf rfl, rfl, Nat.le_trans (by cases c <;> decide) h⟩
  | @int n b i hi h =>
    refine ⟨.int i, fun _ _ => deep_leaf rfl, ?_, ?_⟩
    · show decide (i.natAbs.log2 < 1920) = true
      refine decide_eq_true ?_
      by_cases h0 : i.natAbs = 0
      · rw [h0]; decide
      · exact (Nat.log2_lt h0).mpr (Nat.lt_of_lt_of_le hi (Nat.le_trans (show 10 ^ 23 ≤ 2 ^ 80 by decide) (Nat.pow_le_pow_right (by decide) (by decide))))
    · show (Str.ofString (toString i)).length ≤ b
      rw [ofString_length]
      exact Nat.le_trans (int_text_length_le10 (k := 23) (by decide) hi) h
  | @three n b h => exact ⟨.str "3", fun _ _ => deep_leaf rfl, rfl, Nat.le_trans (show _ ≤ 24 by decide +kernel) h⟩
  | @tup n b b' vs h _ ih =>
    obtain ⟨ds, g1, g2, g3⟩ := shw_all vs ih
    refine ⟨.tuple ds, fun H' p => by show Option.map PyData.tuple (deepL (deepS n H') vs) = _; rw [g1 H' p]; rfl, g2, ?_⟩
    have := tupleText_le (PyData.shownAll ds)
    show (tupleText (PyData.shownAll ds)).length ≤ b
    lia
  | @ref n b b' k vs hk h _ ih =>
    obtain ⟨ds, g1, g2, g3⟩ := shw_all vs ih
    refine ⟨.list ds, fun H' p => by rw [show deepS (n + 1) H' (.ref k) = (match H'[k]? with | some vs => (deepL (deepS n H') vs).map PyData.list | Option.none => Option.none) from rfl, Zl p hk]; show Option.map PyData.list (deepL (deepS n H') vs) = _; rw [g1 H' p]; rfl, g2, ?_⟩
    have := listText_le (PyData.shownAll ds)
    show (listText (PyData.shownAll ds)).length ≤ b
    lia

/-- has a text -/
noncomputable def Tx (H : Hp) (v : V) : Prop := ∃ s : Str, s.length ≤ 20000 ∧ ∀ H', H <+: H' → ∀ P : PV, P (.str s) H' → textV v H' P
theorem Tx.pre {H H' : Hp} {v : V} (h : Tx H v) (p : H <+: H') : Tx H' v := h.imp fun _ q => ⟨q.1, fun H'' p' => q.2 H'' (p.trans p')⟩
theorem tx_str {H : Hp} {s : Str} (h : s.length ≤ 20000) : Tx H (.str s) := ⟨s, h, fun _ _ _ q => q⟩
theorem tx_sz {H : Hp} {v : V} {b : Nat} (h : Sz H 4 v b) (hb : b ≤ 20000) : Tx H v := by
  obtain ⟨d, h1, h2, h3⟩ := sz_shw h
  have key : ∀ H', H <+: H' → ∀ P : PV, P (.str d.shown) H' → textD v H' P := fun H' p P hP => by
    unfold textD
    rw [h1 H' p]
    exact ⟨h2, by lia, hP⟩
  have all : (∀ H' P, textV v H' P = textD v H' P) → Tx H v := fun e => ⟨d.shown, by lia, fun H' p P hP => by rw [e]; exact key H' p P hP⟩
  cases v with
  | str s => cases h; exact tx_str (by decide)
  | dct => cases h
  | frz _ => cases h
  | none => exact all fun _ _ => rfl
  | bool _ => exact all fun _ _ => rfl
  | int _ => exact all fun _ _ => rfl
  | tup _ => exact all fun _ _ => rfl
  | ref _ => exact all fun _ _ => rfl
theorem tx_dct {H : Hp} : Tx H .dct := ⟨dct0.shown, by decide +kernel, fun _ _ _ q => q⟩
end Mine

--STEP: e_slice, sl_ii, sl_ni, sl_in, rz_ite, rz_expr, rz_raise
open PySem
set_option linter.unusedSimpArgs false
set_option linter.unusedVariables false
namespace Mine

/-! ## steps of raising runs -/
section
variable {C : Calls} {Z : Raisers} {m : Loc} {H : Hp} {R : PX}
theorem ZL {s : S} {r : List S} (h : rzS C Z s m H R) : rzSs C Z (s :: r) m H R := Or.inl h
theorem rz_then {s : S} {r : List S} (h : wpS C s m H (thenS (fun m' H' => rzSs C Z r m' H' R) noRet)) : rzSs C Z (s :: r) m H R := by
  refine Or.inr ?_
  have e : (fun f m' H' => match f with | .next => rzSs C Z r m' H' R | .ret _ => False) = thenS (fun m' H' => rzSs C Z r m' H' R) noRet := by
    funext f m' H'; cases f <;> rfl
  exact e ▸ h
theorem rz_ite {t : X} {b c : List S} : rzS C Z (.ite t b c) m H R = wpE C t m H fun v H₁ => branch v (rzSs C Z b m H₁ R) (rzSs C Z c m H₁ R) := rfl
theorem rz_expr {f : Nat} {as : List X} : rzS C Z (.expr f as) m H R = wpEs C as m H fun vs H₁ => Z f vs H₁ R := rfl
theorem rz_raise {k : Nat} : rzS C Z (.raise k) m H R = R k H := rfl
theorem rz_each {is : List Nat} {it : It} {a c : X} {b : List S} : rzS C Z (.each is it a c b) m H R = wpE C a m H fun v H₁ => wpE C c m H₁ fun w H₂ => match items it v w H₂ with
    | some (vs, src) => wpEach is (fun m H Q => rzSs C Z b m H R ∨ wpSs C b m H Q) src (fun _ _ _ => False) vs m H₂
    | Option.none => False := rfl
theorem runZ_succ {T : Nat → Option Fn} {n k : Nat} {d : Fn} {vs : List V} (hT : T k = some d) (h1 : vs.length = d.params) (h2 : d.params ≤ d.locals)
    (h : rzSs (run T n) (runZ T n) d.body (entry d vs) H R) : runZ T (n + 1) k vs H R := by
  rw [runZ_at hT]; exact ⟨h1, h2, h⟩
/-- a walk that ends at a bad thing -/
theorem rz_walk {b : List S} {src : List (Nat × List V)} {u x : V} {r : List V} (hs : Still src H) :
    ∀ (A : List Int) (t : Option V), (∀ a ∈ A, ∀ Q : PF, Q .next [some u, some (.int a)] H → wpSs C b [some u, some (.int a)] H Q) → rzSs C Z b [some u, some x] H R →
      wpEach [1] (fun m H Q => rzSs C Z b m H R ∨ wpSs C b m H Q) src (fun _ _ _ => False) (zl A ++ x :: r) [some u, t] H
  | [], _, _, bad => ⟨hs, Or.inl bad⟩
  | a :: A, _, good, bad => ⟨hs, Or.inr (good a List.mem_cons_self _ (rz_walk hs A _ (fun a' ha => good a' (List.mem_cons_of_mem _ ha)) bad))⟩
end

/-! ## what is not whole -/
noncomputable def Odd (lo hi : Int) : V → Prop
  | .int a => a < lo ∨ hi < a
  | .bool _ => True
  | .str _ => True
  | .none => True
  | .ref _ => True
  | _ => False
theorem u_isInt_v {v : V} {H : Hp} {P : PV} : wpU .isInt v H P = P (.bool (isIntB v)) H := rfl
theorem u_isList_v {v : V} {H : Hp} {P : PV} : wpU .isList v H P = P (.bool (isListB v)) H := rfl
theorem u_isTuple_v {v : V} {H : Hp} {P : PV} : wpU .isTuple v H P = P (.bool (isTupB v)) H := rfl
set_option tactic.hygienic true
theorem spec_not_whole (n : Nat) (v : V) (lo hi : Int) (H : Hp) (P : PV) (hv : Odd lo hi v) (h : P (.bool false) H) : run T (n + 1) 20 [v, .int lo, .int hi] H P := by
  cases v with
  | int a =>
    refine run_succ (d := f_is_whole) rfl rfl (by decide) ?_; simp only [f_is_whole, entry, List.map, List.replicate, Nat.reduceSub, s_cons, ↓Yd, ZG, ZV, Zc, e_chain, e_not, e_and, Zx, ZJ, Yc, branch_true, Ze, not_bool, Zv, u_isInt_int, u_isBool_int, b_le, List.cons_append, List.nil_append, Bool.not_false]
    have hv : a < lo ∨ hi < a := hv
    split
    · rw [decide_eq_false (by lia)]; exact h
    · rename_i c; rw [decide_eq_false c]; exact h
  | bool b =>
    refine run_succ (d := f_is_whole) rfl rfl (by decide) ?_; simp only [f_is_whole, entry, List.map, List.replicate, Nat.reduceSub, u_isInt_v, isIntB, s_cons, ↓Yd, ZG, ZV, Zc, e_chain, e_not, e_and, Zx, ZJ, Yc, branch_true, branch_false, not_bool, Zv, u_isBool_bool, List.cons_append, List.nil_append, Bool.not_true]
    exact h
  | none =>
    refine run_succ (d := f_is_whole) rfl rfl (by decide) ?_; simp only [f_is_whole, entry, List.map, List.replicate, Nat.reduceSub, s_cons, ↓Yd, ZG, ZV, Zc, e_chain, e_not, e_and, Zx, ZJ, Yc, branch_false, Zv, u_isInt_none, List.cons_append, List.nil_append]
    exact h
  | str s =>
    refine run_succ (d := f_is_whole) rfl rfl (by decide) ?_; simp only [f_is_whole, entry, List.map, List.replicate, Nat.reduceSub, u_isInt_v, isIntB, s_cons, ↓Yd, ZG, ZV, Zc, e_chain, e_not, e_and, Zx, ZJ, Yc, branch_false, Zv, List.cons_append, List.nil_append]
    exact h
  | ref k =>
    refine run_succ (d := f_is_whole) rfl rfl (by decide) ?_; simp only [f_is_whole, entry, List.map, List.replicate, Nat.reduceSub, s_cons, ↓Yd, ZG, ZV, Zc, e_chain, e_not, e_and, Zx, ZJ, Yc, branch_false, Zv, u_isInt_ref, List.cons_append, List.nil_append]
    exact h
  | tup _ => exact hv.elim
  | frz _ => exact hv.elim
  | dct => exact hv.elim
set_option tactic.hygienic false

theorem zspec_need_count (n : Nat) (v : V) (H : Hp) (R : PX) (hv : Odd 1 12 v) (h : R 1 H) : runZ T (n + 2) 22 [v] H R := by
  refine runZ_succ (d := f_need_count) rfl rfl (by decide) ?_; simp only [f_need_count, entry, List.map, List.replicate, Nat.reduceSub, List.cons_append, List.nil_append]
  refine ZL ?_
  (try simp only [ZU, Zc, e_not, ZR, Zn, Zg, Zx, rz_ite])
  refine spec_not_whole _ _ _ _ _ _ hv ?_
  (try simp only [branch_true, not_bool, Bool.not_false])
  exact ZL h

/-- a bad row -/
noncomputable def BadRowV (H : Hp) (v : V) : Prop := isListB v = false ∨ (∃ k A x r, v = .ref k ∧ H[k]? = some (zl A ++ x :: r) ∧ Num A ∧ Odd 1 250 x) ∨ ∃ k A, v = .ref k ∧ H[k]? = some (zl A) ∧ Num A ∧ ¬ A.Nodup ∧ A.length < 4000
theorem BadRowV.pre {H H' : Hp} {v : V} (h : BadRowV H v) (p : H <+: H') : BadRowV H' v := by
  rcases h with h | ⟨k, A, x, r, e, hk, h⟩ | ⟨k, A, e, hk, h⟩
  · exact .inl h
  · exact .inr (.inl ⟨k, A, x, r, e, Zl p hk, h⟩)
  · exact .inr (.inr ⟨k, A, e, Zl p hk, h⟩)

theorem row_good (n : Nat) (A : List Int) (h1 : Num A) (u : V) (H : Hp) : ∀ a ∈ A, ∀ Q : PF, Q .next [some u, some (.int a)] H → wpSs (run T (n + 1)) [.ite (.not (.call 20 [(.var 1), (.int 1), (.bin .sub (.int 251) (.int 1))])) [.raise 0] []] [some u, some (.int a)] H Q := by
  intro a ha Q hQ
  have ra := h1 a ha
  (with_reducible first | refine Zb ?_ | (refine Zf ?_; intro J)); simp only [↓Zp, ZG, ZW, ZU, Zc, e_not, ZR, Zn, Zg, ZJ, b_sub]
  refine spec_is_whole _ _ _ _ _ _ ra.1 (by lia) ?_
  (try simp only [branch_false, not_bool, Bool.not_true])
  exact hQ

theorem zspec_need_row (n : Nat) (v : V) (H : Hp) (R : PX) (hv : BadRowV H v) (h : R 0 H) : runZ T (n + 2) 21 [v] H R := by
  rcases hv with hv | ⟨k, A, x, r, rfl, hk, h1, hx⟩ | ⟨k, A, rfl, hk, h1, h2, h3⟩
  · refine runZ_succ (d := f_need_row) rfl rfl (by decide) ?_; simp only [f_need_row, entry, List.map, List.replicate, Nat.reduceSub, List.cons_append, List.nil_append]
    refine ZL ?_
    (try simp only [↓Yd, e_not, Zx, not_bool, rz_ite, u_isList_v])
    rw [hv]
    (try simp only [branch_true, Bool.not_false])
    exact ZL h
  · refine runZ_succ (d := f_need_row) rfl rfl (by decide) ?_; simp only [f_need_row, entry, List.map, List.replicate, Nat.reduceSub, List.cons_append, List.nil_append]
    refine rz_then ?_
    (try simp only [↓Yd, ZG, ZW, e_not, Zx, branch_false, not_bool, Za, u_isList_ref, Bool.not_true])
    refine ZL ?_
    rw [rz_each]
    (try simp only [ZI, Zc, Zx])
    rw [it_seq hk]
    refine rz_walk (fun p hp => by simp only [List.mem_singleton] at hp; subst hp; exact hk) A _ (row_good n A h1 _ _) ?_
    refine ZL ?_
    (try simp only [↓Zp, ZU, Zc, e_not, ZR, Zn, Zg, ZJ, b_sub, rz_ite])
    refine spec_not_whole _ _ _ _ _ _ hx ?_
    (try simp only [branch_true, not_bool, Bool.not_false])
    exact ZL h
  · refine runZ_succ (d := f_need_row) rfl rfl (by decide) ?_; simp only [f_need_row, entry, List.map, List.replicate, Nat.reduceSub, List.cons_append, List.nil_append]
    refine rz_then ?_
    (try simp only [↓Yd, ZG, ZW, e_not, Zx, branch_false, not_bool, Za, u_isList_ref, Bool.not_true])
    refine rz_then ?_
    (try simp only [s_each, ZI, Zc, Zx])
    refine each_ref (Zo _ _) hk (fun j m' H' => H' = H ∧ ∃ t, m' = [some (.ref k), t]) ⟨rfl, none, rfl⟩ (fun j m H' h => h.1 ▸ hk) ?_ ?_
    · rintro j v m H' hv ⟨rfl, t, rfl⟩
      (try (with_reducible (first | refine Zh ?_ | refine Zd ?_); intro J))
      obtain ⟨a, ha, rfl⟩ := zl_at hv
      exact row_good n A h1 _ _ a (List.mem_of_getElem? ha) _ ⟨rfl, _, rfl⟩
    rintro m H' ⟨rfl, t, rfl⟩
    (try (with_reducible (first | refine Zh ?_ | refine Zd ?_); intro J))
    refine ZL ?_
    (try simp only [↓Yd, e_bin, Zx, u_len_ref, rz_ite])
    rw [u_nset hk]
    refine ⟨h3, fun c _ hc => ?_⟩
    have := hc h2
    (try simp only [branch_ndecide, b_ne, Zq hk, Zr])
    rw [if_neg (by lia)]
    exact ZL h

/-- a bad letter -/
noncomputable def BadLetV (v : V) : Prop := isTupB v = false ∨ ∃ us, v = .tup us ∧ (us.length ≠ 2 ∨ ∃ x y, us = [x, y] ∧ (Odd 0 250 x ∨ ∃ c, x = .int c ∧ 0 ≤ c ∧ c ≤ 250 ∧ (isTupB y = false ∨
  ∃ ts, y = .tup ts ∧ ((ts.length = 0 ∨ 12 < ts.length) ∨ (1 ≤ ts.length ∧ ts.length ≤ 12 ∧ ∃ A z r, ts = zl A ++ z :: r ∧ Red A ∧ Odd 0 250 z)))))

theorem zspec_need_letter (n : Nat) (v : V) (H : Hp) (R : PX) (hv : BadLetV v) (h : R 2 H) : runZ T (n + 2) 28 [v] H R := by
  rcases hv with hv | ⟨us, rfl, hv | ⟨x, y, rfl, hv | ⟨c, rfl, c0, c1, hv | ⟨ts, rfl, hv | ⟨l1, l2, A, z, r, rfl, rA, hz⟩⟩⟩⟩⟩
  · refine runZ_succ (d := f_need_letter) rfl rfl (by decide) ?_; simp only [f_need_letter, entry, List.map, List.replicate, Nat.reduceSub, List.cons_append, List.nil_append]
    refine ZL ?_
    (try simp only [↓Yd, ↓Zp, ZU, Zc, e_not, e_or, ZR, Zn, Zg, Zx, not_bool, b_sub, rz_ite, u_isTuple_v])
    rw [hv]
    (try simp only [branch_true, Bool.not_false])
    exact ZL h
  · refine runZ_succ (d := f_need_letter) rfl rfl (by decide) ?_; simp only [f_need_letter, entry, List.map, List.replicate, Nat.reduceSub, List.cons_append, List.nil_append]
    refine ZL ?_
    (try simp only [↓Yd, ↓Zp, ZU, Zc, e_not, e_or, ZR, Zn, Zg, Zx, branch_false, branch_ndecide, not_bool, u_len_tup, u_isTuple_tup, b_sub, b_ne, b_item_tup, Bool.not_true, rz_ite])
    rw [if_neg (by lia)]
    (try skip)
    rw [if_neg (by lia)]
    exact ZL h
  · refine runZ_succ (d := f_need_letter) rfl rfl (by decide) ?_; simp only [f_need_letter, entry, List.map, List.replicate, Nat.reduceSub, List.cons_append, List.nil_append]
    refine ZL ?_
    (try simp only [↓Yd, ↓Zp, ZU, Zc, e_not, e_or, ZR, Zn, Zg, Zx, branch_false, branch_ndecide, not_bool, u_len_tup, u_isTuple_tup, b_sub, b_ne, b_item_tup, Bool.not_true, rz_ite])
    rw [if_pos (show (([x, y] : List V).length : Int) = 2 from rfl)]
    refine Zw (by decide) rfl ?_
    (try skip)
    refine spec_not_whole _ _ _ _ _ _ hv ?_
    (try simp only [branch_true, not_bool, Bool.not_false])
    exact ZL h
  all_goals
    refine runZ_succ (d := f_need_letter) rfl rfl (by decide) ?_; simp only [f_need_letter, entry, List.map, List.replicate, Nat.reduceSub, List.cons_append, List.nil_append]
    refine rz_then ?_
    (try simp only [↓Yd, ↓Zp, ZG, ZW, ZU, Zc, e_not, e_or, ZR, Zn, Zg, Zx, branch_false, branch_ndecide, not_bool, Za, u_len_tup, u_isTuple_tup, b_sub, b_ne, b_item_tup, Bool.not_true])
    rw [if_pos (show (([_, _] : List V).length : Int) = 2 from rfl)]
    refine Zw (by decide) rfl ?_
    (try skip)
    refine spec_is_whole _ _ _ _ _ _ c0 (by lia) ?_
    (try simp only [branch_false, not_bool, Bool.not_true])
  · refine ZL ?_
    (try simp only [↓Zp, ZU, Zc, e_un, e_chain, e_not, e_or, Zx, b_item_tup, rz_ite])
    refine Zw (by decide) rfl ?_
    (try simp only [not_bool, u_isTuple_v])
    rw [hv]
    (try simp only [branch_true, Bool.not_false])
    exact ZL h
  · refine ZL ?_
    (try simp only [↓Zp, ZU, Zc, e_un, e_chain, e_not, e_or, Zx, b_item_tup, rz_ite])
    refine Zw (by decide) rfl ?_
    (try simp only [branch_false, not_bool, u_isTuple_tup, Bool.not_true])
    refine Zw (by decide) rfl ?_
    (try simp only [Ze, branch_ndecide, not_bool, u_len_tup, b_le])
    rcases hv with hv | hv
    · rw [if_neg (by lia)]
      (try skip)
      rw [if_neg (by lia)]
      exact ZL h
    · rw [if_pos (by lia), if_neg (by lia)]
      exact ZL h
  · refine rz_then ?_
    (try simp only [↓Zp, ZG, ZW, ZU, Zc, e_un, e_chain, e_not, e_or, Zx, Za, b_item_tup])
    refine Zw (by decide) rfl ?_
    (try simp only [branch_false, not_bool, u_isTuple_tup, Bool.not_true])
    refine Zw (by decide) rfl ?_
    (try simp only [Ze, branch_ndecide, not_bool, u_len_tup, b_le])
    rw [if_pos (by lia), if_pos (by lia)]
    refine ZL ?_
    rw [rz_each]
    (try simp only [↓Zp, ZI, Zc, Zx, b_item_tup])
    refine Zw (by decide) rfl ?_
    show wpEach _ _ _ _ _ _ _
    refine rz_walk (fun p hp => by cases hp) A _ (fun a ha Q hQ => ?_) ?_
    · have ra := rA a ha
      (with_reducible first | refine Zb ?_ | (refine Zf ?_; intro J)); simp only [↓Zp, ZG, ZW, ZU, Zc, e_not, ZR, Zn, Zg, ZJ, b_sub]
      refine spec_is_whole _ _ _ _ _ _ ra.1 (by lia) ?_
      (try simp only [branch_false, not_bool, Bool.not_true])
      exact hQ
    · refine ZL ?_
      (try simp only [↓Zp, ZU, Zc, e_not, ZR, Zn, Zg, ZJ, b_sub, rz_ite])
      refine spec_not_whole _ _ _ _ _ _ hz ?_
      (try simp only [branch_true, not_bool, Bool.not_false])
      exact ZL h
end Mine

--STEP: e_slice, sl_ii, sl_ni, sl_in, sl_tni, sl_tin, e_dct, b_add_tup, b_mul_ref
open PySem
set_option linter.unusedSimpArgs false
set_option linter.unusedVariables false
namespace Mine

theorem e_dct {C : Calls} {m : Loc} {H : Hp} {P : PV} : wpE C .dct m H P = P .dct H := rfl
theorem b_add_tup {xs ys : List V} {H : Hp} {P : PV} : wpB .add (.tup xs) (.tup ys) H P = (xs.length + ys.length ≤ room ∧ P (.tup (xs ++ ys)) H) := rfl
theorem b_mul_ref {i : Nat} {b : Int} {H : Hp} {P : PV} : wpB .mul (.ref i) (.int b) H P = withL H i fun xs => optV (lone xs) fun x => 0 ≤ b ∧ b ≤ 512 ∧ P (.ref H.length) (H ++ [List.replicate b.toNat x]) := by
  show optV H[i]? (fun xs => _) = _
  rw [optV_L]; rfl
theorem item_any {vs : List V} {i : Int} {F : V → Prop} (h0 : 0 ≤ i) (h1 : i < vs.length) (q : ∀ v ∈ vs, F v) : itemOf vs i F :=
  Zw (v := vs[i.toNat]'(by lia)) h0 (List.getElem?_eq_getElem (by lia)) (q _ (List.getElem_mem _))
theorem sz_num {H : Hp} {n b : Nat} {a : Int} (h : 0 ≤ a ∧ a ≤ 1000) (hb : 24 ≤ b) : Sz H n (.int a) b := .int (by lia) hb
theorem sz_zl {H : Hp} {n b : Nat} {A : List Int} (h : ∀ a ∈ A, 0 ≤ a ∧ a ≤ 1000) (hb : 24 ≤ b) : ∀ x ∈ zl A, Sz H n x b := fun x hx => by
  obtain ⟨a, ha, rfl⟩ := List.mem_map.mp hx
  exact sz_num (h a ha) hb

noncomputable def far : Int := 100000000000000000000
theorem far_eq : far = 100000000000000000000 := rfl
theorem b_far {H : Hp} {P : PV} : wpB .pow (.int 10) (.int 20) H P = P (.int far) H := b_pow
theorem spec_law_odd (n : Nat) (c lo hi : Int) (H : Hp) (P : PV) (l0 : 0 ≤ lo) (l1 : lo ≤ hi) (l2 : hi ≤ 1000) (h : ∀ v H', H <+: H' → Odd lo hi v → (∀ n, Sz H' (n + 1) v 29) → P v H') : run T (n + 1) 39 [.int c, .int lo, .int hi] H P := by
  refine run_succ (d := f_law_odd) rfl rfl (by decide) ?_
  simp only [f_law_odd, entry, List.map, List.replicate, Nat.reduceSub, List.cons_append, List.nil_append]
  refine Zf ?_
  intro J
  rw [Zi, e_bin, e_bin, Zc, Zx, ZU, b_fdiv, e_bin, ZU, ZU, b_far, ZY]
  have f0 : 0 < far := by rw [far_eq]; decide
  refine ⟨by decide, by decide, f0, ?_⟩
  have hf : 0 ≤ c / 9 % far ∧ c / 9 % far < far := ⟨Int.emod_nonneg _ (by lia), Int.emod_lt_of_pos _ f0⟩
  generalize c / 9 % far = f at hf
  rw [far_eq] at hf
  rw [Za, set_3]
  show wpSs _ _ _ _ _
  (with_reducible first | refine Zb ?_ | (refine Zf ?_; intro J)); simp only [↓f_l1, ↓Zp, ↓f_bav, ZV, ZI, e_bool, e_str, Zc, e_bin, e_list, Zn, Zg, Zx, ZJ, Yc, at_3, b_add, b_sub, ZY, b_item_ref]
  refine ⟨by decide, withL_of Zm ?_⟩
  have p : H <+: H ++ [[V.int 3]] ++ [[V.int (lo - 1), .int (hi + 1), .int (lo - 1 - f), .int (hi + 1 + f), .bool true, .bool false, .str "3", .none, .ref H.length]] := Zy (List.prefix_append _ _)
  have g : (H ++ [[V.int 3]] ++ [[V.int (lo - 1), .int (hi + 1), .int (lo - 1 - f), .int (hi + 1 + f), .bool true, .bool false, .str "3", .none, .ref H.length]])[H.length]? = some [V.int 3] := Zz Zm
  generalize H ++ [[V.int 3]] ++ [[V.int (lo - 1), .int (hi + 1), .int (lo - 1 - f), .int (hi + 1 + f), .bool true, .bool false, .str "3", .none, .ref H.length]] = H' at p g ⊢
  refine item_any (Int.emod_nonneg _ (by decide)) (Int.emod_lt_of_pos _ (by decide)) fun v hv => ?_
  have key : Odd lo hi v ∧ ∀ n, Sz H' (n + 1) v 29 := by
    simp only [List.mem_cons, List.not_mem_nil, or_false] at hv
    rcases hv with rfl | rfl | rfl | rfl | rfl | rfl | rfl | rfl | rfl
    · exact ⟨.inl (by lia), fun _ => .int (by lia) (by decide)⟩
    · exact ⟨.inr (by lia), fun _ => .int (by lia) (by decide)⟩
    · exact ⟨.inl (by lia), fun _ => .int (by lia) (by decide)⟩
    · exact ⟨.inr (by lia), fun _ => .int (by lia) (by decide)⟩
    · exact ⟨(by trivial), fun _ => .bool (by decide)⟩
    · exact ⟨(by trivial), fun _ => .bool (by decide)⟩
    · exact ⟨(by trivial), fun _ => .three (by decide)⟩
    · exact ⟨(by trivial), fun _ => .none (by decide)⟩
    · exact ⟨(by trivial), fun _ => .ref (b' := 24) g (by decide) fun x hx => by rw [List.mem_singleton.mp hx]; exact .int (by decide) (by decide)⟩
  exact h v H' p key.1 key.2

/-- put in, and told twice -/
theorem again_dup {A : List Int} {j t : Nat} (hj : j < A.length) : ¬ (A.take t ++ [co A j] ++ A.drop t).Nodup := fun q => by
  have hm : co A j ∈ A.take t ++ A.drop t := by rw [List.take_append_drop, co_lt hj]; exact List.getElem_mem _
  rw [List.append_assoc, List.nodup_append] at q
  obtain ⟨_, q2, q3⟩ := q
  rcases List.mem_append.mp hm with q | q
  · exact q3 _ q _ (List.mem_append_left _ (List.mem_singleton.mpr rfl)) rfl
  · exact (List.nodup_cons.mp q2).1 q

theorem num_part {A : List Int} {t j : Nat} (nA : Num A) (hj : j < A.length) : Num (A.take t ++ [co A j] ++ A.drop t) := fun a ha => by
  rcases List.mem_append.mp ha with ha | ha
  · rcases List.mem_append.mp ha with ha | ha
    · exact nA a (List.mem_of_mem_take ha)
    · rw [List.mem_singleton.mp ha, co_lt hj]; exact nA _ (List.getElem_mem _)
  · exact nA a (List.mem_of_mem_drop ha)

/-- the middle put in: what stands behind -/
theorem part_tx {H : Hp} {k t : Nat} {A : List Int} {x : V} (hk : H[k]? = some (zl (A.take t) ++ [x] ++ zl (A.drop t))) (nA : Num A) (lA : A.length ≤ 9) (hx : Sz H 3 x 29) : Tx H (.ref k) := by
  have l : (zl (A.take t) ++ [x] ++ zl (A.drop t)).length = A.length + 1 := by
    rw [List.length_append, List.length_append, Zr, Zr, List.length_singleton]
    have := congrArg List.length (List.take_append_drop t A)
    rw [List.length_append] at this
    lia
  refine tx_sz (b := 313) (.ref (b' := 29) hk (by rw [l]; lia) fun y hy => ?_) (by decide)
  rcases List.mem_append.mp hy with hy | hy
  · rcases List.mem_append.mp hy with hy | hy
    · exact sz_zl (fun a ha => by have := nA a (List.mem_of_mem_take ha); lia) (by decide) y hy
    · rw [List.mem_singleton.mp hy]; exact hx
  · exact sz_zl (fun a ha => by have := nA a (List.mem_of_mem_drop ha); lia) (by decide) y hy

set_option tactic.hygienic true
theorem spec_bad_row (n k : Nat) (A : List Int) (c : Int) (H : Hp) (P : PV) (hk : H[k]? = some (zl A)) (nA : Num A) (lA : A.length ≤ 9) (h : ∀ v H', H <+: H' → BadRowV H' v → Tx H' v → P v H') : run T (n + 2) 68 [.ref k, .int c] H P := by
  refine run_succ (d := f_law_bad_row) rfl rfl (by decide) ?_
  simp only [f_law_bad_row, entry, List.map, List.replicate, Nat.reduceSub, List.cons_append, List.nil_append]
  (with_reducible first | refine Zb ?_ | (refine Zf ?_; intro J)); simp only [↓Zp, ZG, ZW, Zc, ZJ, Ze, Za, ZY, b_eq]
  refine ⟨by decide, ?_⟩
  split
  · (with_reducible first | refine Zb ?_ | (refine Zf ?_; intro J)); simp only [↓Zp, ZV, ZI, e_bool, ZU, e_str, Zc, e_bin, e_list, e_tup, Zn, Zg, ZJ, Zv, b_fdiv, ZY, b_item_ref, e_dct]
    refine ⟨by decide, by decide, by decide, withL_of Zm ?_⟩
    refine item_any (Int.emod_nonneg _ (by decide)) (Int.emod_lt_of_pos _ (by decide)) fun v hv => ?_
    have key : isListB v = false ∧ ∀ H, Tx H v := by
      simp only [List.mem_cons, List.not_mem_nil, or_false] at hv
      rcases hv with rfl | rfl | rfl | rfl | rfl | rfl
      · exact ⟨rfl, fun _ => tx_sz (b := 24) (.none (by decide)) (by decide)⟩
      · exact ⟨rfl, fun _ => tx_sz (b := 24) (.int (by decide) (by decide)) (by decide)⟩
      · exact ⟨rfl, fun _ => tx_str (by decide)⟩
      · exact ⟨rfl, fun _ => tx_sz (b := 55) (.tup (b' := 24) (by decide) fun x hx => by
          simp only [List.mem_cons, List.not_mem_nil, or_false] at hx
          rcases hx with rfl | rfl <;> exact .int (by decide) (by decide)) (by decide)⟩
      · exact ⟨rfl, fun _ => tx_dct⟩
      · exact ⟨rfl, fun _ => tx_sz (b := 24) (.bool (by decide)) (by decide)⟩
    exact h v _ (List.prefix_append _ _) (.inl key.1) (key.2 _)
  (try skip)
  (with_reducible first | refine Zb ?_ | (refine Zf ?_; intro J)); simp only [↓Yd, ↓Zp, Zi, Zc, e_bin, Zx, ZJ, Za, u_len_ref, b_add, b_fdiv, ZY, set_2, Zq hk, Zr]
  refine ⟨by decide, by decide, by lia, ?_⟩
  have ht : 0 ≤ c / 6 % ((A.length : Int) + 1) := Int.emod_nonneg _ (by lia)
  generalize c / 6 % ((A.length : Int) + 1) = t at ht
  have other : ∀ H1, H <+: H1 → wpSs (run T (n + 1)) [.assign 4 (.call 39 [(.bin .fdiv (.bin .fdiv (.var 1) (.int 6)) (.int 26)), (.int 1), (.int 250)]), .ret (.bin .add (.bin .add (.slice (.var 0) .none (.var 2)) (.list [(.var 4)])) (.slice (.var 0) (.var 2) .none))]
      [some (.ref k), some (.int c), some (.int t), none, none] H1 fun fl _ H' => match fl with | .next => P .none H' | .ret v => P v H' := fun H1 p1 => by
    (with_reducible first | refine Zb ?_ | (refine Zf ?_; intro J)); simp only [↓Zp, Zi, ZU, Zc, ZR, Zn, Zg, ZJ, Za, b_fdiv, set_4]
    refine ⟨by decide, by decide, by decide, by decide, ?_⟩
    refine spec_law_odd _ _ _ _ _ _ (by decide) (by decide) (by decide) fun v H2 p2 ov sv => ?_
    have k2 := Zl (p1.trans p2) hk
    (with_reducible first | refine Zb ?_ | (refine Zf ?_; intro J)); simp only [ZV, ZI, Zc, e_bin, e_list, Zn, Zg, Zx, Yc, at_4, e_slice, sl_ni, sl_in, Zq k2, picked_ni ht]
    rw [b_cat (Zz Zm) Zm]
    refine ⟨by rw [Zr, List.length_take]; unfold room; simp only [List.length_cons, List.length_nil]; lia, ?_⟩
    have k3 := Zz (G := [zl (A.take t.toNat) ++ [v]]) (Zz (G := [[v]]) (Zz (G := [zl (A.take t.toNat)]) k2))
    (try simp only [Zq k3, picked_in ht])
    rw [b_cat (Zz Zm) Zm]
    refine ⟨by rw [List.length_append, Zr, Zr, List.length_take, List.length_drop]; unfold room; simp only [List.length_cons, List.length_nil]; lia, ?_⟩
    refine h _ _ ?_ ?_ ?_
    · exact Zy (Zy (Zy (Zy (Zy (p1.trans p2)))))
    · exact .inr (.inl ⟨_, A.take t.toNat, v, zl (A.drop t.toNat), rfl, by rw [Zm]; simp, fun a ha => nA a (List.mem_of_mem_take ha), ov⟩)
    · exact part_tx (t := t.toNat) Zm nA lA ((sv 2).pre (Zy (Zy (Zy (Zy (Zy (List.prefix_refl _)))))))
  (with_reducible first | refine Zb ?_ | (refine Zf ?_; intro J)); simp only [↓f_l0, ↓Zp, ↓f_bvb, ZG, ZW, Zc, e_and, Zx, ZJ, Ze, Za, ZY, b_lt]
  refine ⟨by decide, ?_⟩
  split
  rotate_left
  · exact other _ (List.prefix_refl _)
  (try simp only [branch_ndecide, b_ne_list (Zz (G := [[]]) hk) (Zm (H := H) (vs := zl []))])
  split
  · exact other _ (List.prefix_append _ _)
  rename_i hne
  have l0 := List.length_pos_iff.mpr hne
  have p1 : H <+: H ++ [[]] := List.prefix_append _ _
  have k1 : (H ++ [[]])[k]? = some (zl A) := Zz hk
  generalize H ++ [[]] = H1 at p1 k1
  (with_reducible first | refine Zb ?_ | (refine Zf ?_; intro J)); simp only [↓Yd, ↓Zp, ↓f_bvb, Zi, Zc, e_bin, Zx, ZJ, Za, u_len_ref, b_fdiv, ZY, b_item_ref, set_3, Zq k1, Zr]
  refine ⟨by decide, by decide, by decide, by decide, by lia, ?_⟩
  have hj := Int.emod_nonneg (c / 6 / 26) (show (A.length : Int) ≠ 0 by lia)
  have hj' := Int.emod_lt_of_pos (c / 6 / 26) (show 0 < (A.length : Int) by lia)
  generalize c / 6 / 26 % (A.length : Int) = j at hj hj'
  refine item_zl hj hj' ?_
  (try skip)
  (with_reducible first | refine Zb ?_ | (refine Zf ?_; intro J)); simp only [ZV, ZI, Zc, e_bin, e_list, Zn, Zg, Zx, Yc, at_3, Zv, e_slice, sl_ni, sl_in, Zq k1, picked_ni ht]
  rw [b_cat (Zz Zm) Zm]
  refine ⟨by rw [Zr, List.length_take]; unfold room; simp only [List.length_cons, List.length_nil]; lia, ?_⟩
  have k3 := Zz (G := [zl (A.take t.toNat) ++ [.int (co A j.toNat)]]) (Zz (G := [[.int (co A j.toNat)]]) (Zz (G := [zl (A.take t.toNat)]) k1))
  (try simp only [Zq k3, picked_in ht])
  rw [b_cat (Zz Zm) Zm]
  refine ⟨by rw [List.length_append, Zr, Zr, List.length_take, List.length_drop]; unfold room; simp only [List.length_cons, List.length_nil]; lia, ?_⟩
  have hjn : j.toNat < A.length := by lia
  have hr := nA _ (List.getElem_mem hjn)
  rw [← co_lt hjn] at hr
  refine h _ _ ?_ ?_ ?_
  · exact Zy (Zy (Zy (Zy (Zy p1))))
  · refine .inr (.inr ⟨_, A.take t.toNat ++ [co A j.toNat] ++ A.drop t.toNat, rfl, by rw [Zm]; simp [zl], num_part nA hjn, again_dup hjn, ?_⟩)
    rw [List.length_append, List.length_append, List.length_take, List.length_drop, List.length_singleton]; lia
  · exact part_tx (t := t.toNat) Zm nA lA (sz_num (by lia) (by decide))
set_option tactic.hygienic false

end Mine

--STEP: e_slice, sl_ii, sl_ni, sl_in, sl_tni, sl_tin, e_dct, b_add_tup, b_mul_ref
open PySem
set_option linter.unusedSimpArgs false
set_option linter.unusedVariables false
namespace Mine

/-- a pair shows -/
theorem tx_pair {H : Hp} {x y : V} (hx : Sz H 3 x 700) (hy : Sz H 3 y 700) : Tx H (.tup [x, y]) :=
  tx_sz (b := 2200) (.tup (b' := 700) (by simp) fun z hz => by
    simp only [List.mem_cons, List.not_mem_nil, or_false] at hz
    rcases hz with rfl | rfl
    · exact hx
    · exact hy) (by decide)
theorem red_small' {S : List Int} (h : Red S) : ∀ a ∈ S, 0 ≤ a ∧ a ≤ 1000 := fun a ha => by have := h a ha; lia
theorem sz_tup {H : Hp} {S : List Int} (h : Red S) (l : S.length ≤ 21) : Sz H 3 (.tup (zl S)) 700 := .tup (b' := 24) (by rw [Zr]; lia) (sz_zl (red_small' h) (by decide))

theorem spec_bad_letter (n : Nat) (S : List Int) (c cell : Int) (H : Hp) (P : PV) (h0 : 0 ≤ c) (h1 : c ≤ 250) (rS : Red S) (l1 : 1 ≤ S.length) (l2 : S.length ≤ 12) (h : ∀ v H', H <+: H' → BadLetV v → Tx H' v → P v H') : run T (n + 2) 40 [.tup [.int c, .tup (zl S)], .int cell] H P := by
  have sS : ∀ H, Sz H 3 (.tup (zl S)) 700 := fun _ => sz_tup rS (by lia)
  have sc : ∀ {n} H, Sz H n (.int c) 700 := fun _ => sz_num (by lia) (by decide)
  refine run_succ (d := f_law_bad_letter) rfl rfl (by decide) ?_
  simp only [f_law_bad_letter, entry, List.map, List.replicate, Nat.reduceSub, List.cons_append, List.nil_append]
  (with_reducible first | refine Zb ?_ | (refine Zf ?_; intro J)); simp only [↓Zp, Zi, Zc, ZJ, Za, b_fdiv, set_2]
  refine ⟨by decide, by decide, ?_⟩
  generalize cell / 7 = more
  (with_reducible first | refine Zb ?_ | (refine Zf ?_; intro J)); simp only [↓Zp, ZG, ZW, Zc, ZJ, Ze, Za, ZY, b_eq]
  refine ⟨by decide, ?_⟩
  split
  · (with_reducible first | refine Zb ?_ | (refine Zf ?_; intro J)); simp only [↓Yd, ↓Zp, ↓f_bvb, Zi, ZI, ZU, Zc, e_list, e_tup, Zn, Zg, Zx, Za, u_list_tup, b_item_tup, set_3, List.cons_append, List.nil_append, b_add_tup]
    refine Zw (by decide) rfl ⟨Nat.le_of_ble_eq_true rfl, ?_⟩
    have g0 : ∀ G, (H ++ [[V.int c, V.tup (zl S)]] ++ G)[H.length]? = some [V.int c, V.tup (zl S)] := fun G => Zz Zm
    (with_reducible first | refine Zb ?_ | (refine Zf ?_; intro J)); simp only [↓Zp, ↓f_bvb, ZV, ZI, Zc, e_bin, e_list, e_tup, Zn, Zg, Zx, Yc, at_3, Zv, ZY, b_item_tup]
    refine Zw (by decide) rfl ?_
    (try skip)
    rw [b_cat (Zz Zm) Zm]
    refine ⟨Nat.le_of_ble_eq_true rfl, ?_⟩
    (try simp only [b_item_ref, List.cons_append, List.nil_append])
    refine ⟨by decide, withL_of Zm ?_⟩
    refine item_any (Int.emod_nonneg _ (by decide)) (Int.emod_lt_of_pos _ (by decide)) fun v hv => ?_
    have key : BadLetV v ∧ ∀ H', H'[H.length]? = some [V.int c, V.tup (zl S)] → Tx H' v := by
      simp only [List.cons_append, List.nil_append, List.mem_cons, List.not_mem_nil, or_false] at hv
      rcases hv with rfl | rfl | rfl | rfl | rfl | rfl | rfl
      · exact ⟨.inl rfl, fun _ _ => tx_sz (b := 24) (.none (by decide)) (by decide)⟩
      · exact ⟨.inl rfl, fun _ _ => tx_sz (b := 24) (.int (by decide) (by decide)) (by decide)⟩
      · refine ⟨.inl rfl, fun H' g => tx_sz (b := 2200) (.ref (b' := 700) g (by simp) fun z hz => ?_) (by decide)⟩
        simp only [List.mem_cons, List.not_mem_nil, or_false] at hz
        rcases hz with rfl | rfl
        · exact sc _
        · exact sS _
      · exact ⟨.inr ⟨_, rfl, .inl (by decide)⟩, fun _ _ => tx_sz (b := 24) (.tup (b' := 0) (by decide) fun x hx => by cases hx) (by decide)⟩
      · refine ⟨.inr ⟨_, rfl, .inl fun q => by cases q⟩, fun _ _ => tx_sz (b := 2200) (.tup (b' := 700) (by simp) fun z hz => ?_) (by decide)⟩
        rw [List.mem_singleton.mp hz]
        exact sc _
      · refine ⟨.inr ⟨_, rfl, .inl fun q => by cases q⟩, fun _ _ => tx_sz (b := 2200) (.tup (b' := 700) (by simp) fun z hz => ?_) (by decide)⟩
        simp only [List.mem_cons, List.not_mem_nil, or_false] at hz
        rcases hz with rfl | rfl | rfl
        · exact sc _
        · exact sS _
        · exact sz_num (by decide) (by decide)
      · exact ⟨.inr ⟨_, rfl, .inr ⟨_, _, rfl, .inr ⟨c, rfl, h0, h1, .inl rfl⟩⟩⟩, fun _ _ => tx_pair (sc _) (.none (by decide))⟩
    refine h v _ ?_ key.1 (key.2 _ ?_)
    · exact Zy (Zy (Zy (List.prefix_append _ _)))
    · exact Zz (Zz (Zz Zm))
  (with_reducible first | refine Zb ?_ | (refine Zf ?_; intro J)); simp only [↓Zp, ZG, ZW, Zc, ZJ, Ze, Za, ZY, b_eq]
  refine ⟨by decide, ?_⟩
  split
  · (with_reducible first | refine Zb ?_ | (refine Zf ?_; intro J)); simp only [↓Zp, ZV, ZU, Zc, ZR, e_tup, Zn, Zg, Zx, Yc, Zv, b_item_tup]
    refine spec_law_odd _ _ _ _ _ _ (by decide) (by decide) (by decide) fun v H1 p1 ov sv => ?_
    (try skip)
    refine Zw (by decide) rfl ?_
    exact h _ _ p1 (.inr ⟨_, rfl, .inr ⟨_, _, rfl, .inl ov⟩⟩) (tx_pair ((sv 2).wide (by decide)) (sS _))
  (with_reducible first | refine Zb ?_ | (refine Zf ?_; intro J)); simp only [↓Zp, ZG, ZW, Zc, ZJ, Ze, Za, ZY, b_eq]
  refine ⟨by decide, ?_⟩
  split
  · (with_reducible first | refine Zb ?_ | (refine Zf ?_; intro J)); simp only [↓Zp, ZV, Zc, e_tup, Zn, Zg, Zx, Zv, b_item_tup]
    refine Zw (by decide) rfl ?_
    exact h _ _ (List.prefix_refl _) (.inr ⟨_, rfl, .inr ⟨_, _, rfl, .inr ⟨c, rfl, h0, h1, .inr ⟨_, rfl, .inl (.inl rfl)⟩⟩⟩⟩) (tx_pair (sc _) (.tup (b' := 24) (by decide) fun x hx => by cases hx))
  (with_reducible first | refine Zb ?_ | (refine Zf ?_; intro J)); simp only [↓Zp, ZG, ZW, Zc, ZJ, Ze, Za, ZY, b_eq]
  refine ⟨by decide, ?_⟩
  split
  · (with_reducible first | refine Zb ?_ | (refine Zf ?_; intro J)); simp only [↓f_l1, ↓Zp, ↓f_bib, ZV, Zc, e_un, e_bin, e_tup, Zn, Zg, Zx, Yc, Zv, u_tuple_ref, b_add, ZY, b_item_tup, b_mul_ref]
    refine Zw (by decide) rfl ⟨by decide, withL_of Zm ?_⟩
    show 0 ≤ 13 + more % 9 ∧ _
    have hm : 0 ≤ more % 9 ∧ more % 9 ≤ 8 := by lia
    generalize more % 9 = q at hm
    refine ⟨by lia, by lia, withL_of Zm ?_⟩
    have hz : List.replicate (13 + q).toNat (V.int 0) = zl (List.replicate (13 + q).toNat 0) := by simp [zl]
    refine h _ _ (Zy (List.prefix_append _ _)) (.inr ⟨_, rfl, .inr ⟨_, _, rfl, .inr ⟨c, rfl, h0, h1, .inr ⟨_, rfl, .inl (.inr (by rw [List.length_replicate]; lia))⟩⟩⟩⟩) (tx_pair (sc _) ?_)
    rw [hz]
    exact sz_tup (red_replicate _) (by rw [List.length_replicate]; lia)
  (with_reducible first | refine Zb ?_ | (refine Zf ?_; intro J)); simp only [↓Zp, ZG, ZW, Zc, ZJ, Ze, Za, ZY, b_eq]
  refine ⟨by decide, ?_⟩
  split
  · (with_reducible first | refine Zb ?_ | (refine Zf ?_; intro J)); simp only [↓Zp, ZV, Zc, e_un, e_tup, Zn, Zg, Zx, Zv, b_item_tup]
    refine Zw (by decide) rfl ?_
    refine Zw (by decide) rfl ?_
    (try simp only [u_list_tup])
    exact h _ _ (List.prefix_append _ _) (.inr ⟨_, rfl, .inr ⟨_, _, rfl, .inr ⟨c, rfl, h0, h1, .inl rfl⟩⟩⟩) (tx_pair (sc _) (.ref (b' := 24) Zm (by rw [Zr]; lia) (sz_zl (red_small' rS) (by decide))))
  (with_reducible first | refine Zb ?_ | (refine Zf ?_; intro J)); simp only [↓Zp, ↓f_bvb, Zi, Zc, e_un, Zx, Yc, Za, b_item_tup, set_4]
  refine Zw (by decide) rfl ?_
  (try simp only [u_len_tup, ZY, Zr])
  refine ⟨by lia, ?_⟩
  have ht := Int.emod_nonneg more (show (S.length : Int) ≠ 0 by lia)
  have ht' := Int.emod_lt_of_pos more (show 0 < (S.length : Int) by lia)
  generalize more % (S.length : Int) = t at ht ht'
  (with_reducible first | refine Zb ?_ | (refine Zf ?_; intro J)); simp only [↓Zp, ZV, ZI, ZU, Zc, e_bin, ZR, e_tup, Zn, Zg, Zx, Yc, at_4, b_add, b_fdiv, b_item_tup, e_slice]
  refine Zw (by decide) rfl ?_
  (try skip)
  refine Zw (by decide) rfl ?_
  (try simp only [sl_tni, b_add_tup, Zr])
  refine ⟨ht, ht', by decide, by decide, ?_⟩
  refine spec_law_odd _ _ _ _ _ _ (by decide) (by decide) (by decide) fun v H1 p1 ov sv => ?_
  (try skip)
  refine ⟨?_, Zw (by decide) rfl ?_⟩
  · rw [List.length_take, Zr]; unfold room; simp only [List.length_cons, List.length_nil]; lia
  (try simp only [sl_tin, b_add_tup, Zr])
  have lt : ((zl S).take t.toNat).length = t.toNat := by rw [List.length_take, Zr]; lia
  have ld : ((zl S).drop (t + 1).toNat).length = S.length - (t + 1).toNat := by rw [List.length_drop, Zr]
  refine ⟨by lia, by lia, ?_, ?_⟩
  · rw [List.length_append, lt, ld]; unfold room; simp only [List.length_cons, List.length_nil]; lia
  have eA : (zl S).take t.toNat = zl (S.take t.toNat) := by rw [zl, zl, List.map_take]
  have eB : (zl S).drop (t + 1).toNat = zl (S.drop (t + 1).toNat) := by rw [zl, zl, List.map_drop]
  refine h _ _ p1 (.inr ⟨_, rfl, .inr ⟨_, _, rfl, .inr ⟨c, rfl, h0, h1, .inr ⟨_, rfl, .inr ⟨?_, ?_, S.take t.toNat, v, zl (S.drop (t + 1).toNat), ?_, fun a ha => rS a (List.mem_of_mem_take ha), ov⟩⟩⟩⟩⟩) (tx_pair (sc _) ?_)
  · simp only [List.length_append, lt, ld, List.length_singleton]; lia
  · simp only [List.length_append, lt, ld, List.length_singleton]; lia
  · rw [eA, eB]; simp
  · refine .tup (b' := 29) ?_ fun x hx => ?_
    · simp only [List.length_append, lt, ld, List.length_singleton]; lia
    · rcases List.mem_append.mp hx with hx | hx
      · rcases List.mem_append.mp hx with hx | hx
        · exact sz_zl (red_small' rS) (by decide) x (List.mem_of_mem_take hx)
        · rw [List.mem_singleton.mp hx]; exact sv 1
      · exact sz_zl (red_small' rS) (by decide) x (List.mem_of_mem_drop hx)
end Mine

--STEP: e_slice, sl_ii, sl_ni, sl_in, rz_ite, rz_expr, rz_raise
open PySem
set_option linter.unusedSimpArgs false
set_option linter.unusedVariables false
namespace Mine

noncomputable def GoodRow (H : Hp) (v : V) : Prop := ∃ k A, v = .ref k ∧ H[k]? = some (zl A) ∧ Num A ∧ A.Nodup ∧ A.length ≤ 9
noncomputable def GoodCnt (v : V) : Prop := ∃ q : Nat, v = .int q ∧ 1 ≤ q ∧ q ≤ 12
noncomputable def GoodLet (v : V) : Prop := ∃ c S, v = .tup [.int c, .tup (zl S)] ∧ 0 ≤ c ∧ c ≤ 250 ∧ Red S ∧ 1 ≤ S.length ∧ S.length ≤ 12
theorem GoodRow.pre {H H' : Hp} {v : V} (h : GoodRow H v) (p : H <+: H') : GoodRow H' v := by
  obtain ⟨k, A, e, hk, r⟩ := h
  exact ⟨k, A, e, Zl p hk, r⟩
theorem GoodRow.tx {H : Hp} {v : V} (h : GoodRow H v) : Tx H v := by
  obtain ⟨k, A, rfl, hk, nA, _, lA⟩ := h
  exact tx_sz (b := 300) (.ref (b' := 24) hk (by rw [Zr]; lia) (sz_zl (fun a ha => by have := nA a ha; lia) (by decide))) (by decide)
theorem GoodLet.tx {H : Hp} {v : V} (h : GoodLet v) : Tx H v := by
  obtain ⟨c, S, rfl, h0, h1, rS, l1, l2⟩ := h
  exact tx_pair (sz_num (by lia) (by decide)) (sz_tup rS (by lia))

/-! ## the five ways, where all is good -/
theorem spec_called (n : Nat) (way : Int) (r o q t : V) (H : Hp) (P : PV) (w0 : 0 ≤ way) (w1 : way ≤ 4) (hr : GoodRow H r) (ho : GoodRow H o) (hq : GoodCnt q) (ht : GoodLet t) (h : ∀ v H', H <+: H' → P v H') : run T (n + 7) 41 [.int way, r, o, q, t] H P := by
  obtain ⟨i, A, rfl, hi, nA, dA, lA⟩ := hr
  obtain ⟨j, B, rfl, hj, nB, dB, lB⟩ := ho
  obtain ⟨m, rfl, m1, m2⟩ := hq
  obtain ⟨c, S, rfl, c0, c1, rS, l1, l2⟩ := ht
  refine run_succ (d := f_law_called) rfl rfl (by decide) ?_
  simp only [f_law_called, entry, List.map, List.replicate, Nat.reduceSub, List.cons_append, List.nil_append]
  (with_reducible first | refine Zb ?_ | (refine Zf ?_; intro J)); simp only [↓Zp, ZW, Zc, Zx, Ze, b_eq]
  split
  · (with_reducible first | refine Zb ?_ | (refine Zf ?_; intro J)); simp only [s_expr, Zc, Zn, Zg, ZJ, at_3]
    exact ok_letter _ _ A m _ _ hi nA dA (by lia) m1 m2 fun _ H' p _ _ => h _ _ p
  (with_reducible first | refine Zb ?_ | (refine Zf ?_; intro J)); simp only [↓Zp, ZW, Zc, Zx, Ze, b_eq]
  split
  · (with_reducible first | refine Zb ?_ | (refine Zf ?_; intro J)); simp only [s_expr, Zc, Zn, Zg, ZJ, at_4]
    exact ok_gaps _ _ A S c _ _ hi nA dA (by lia) c0 c1 rS l1 l2 fun _ _ H' p _ _ _ => h _ _ p
  (with_reducible first | refine Zb ?_ | (refine Zf ?_; intro J)); simp only [↓Zp, ZW, Zc, Zx, Ze, b_eq]
  split
  · (with_reducible first | refine Zb ?_ | (refine Zf ?_; intro J)); simp only [s_expr, Zc, Zn, Zg, ZJ, at_4]
    exact ok_learnt _ _ A S c _ _ hi nA dA (by lia) c0 c1 rS l1 l2 (fun H' p => h _ _ p) fun _ _ _ _ H' p _ _ => h _ _ p
  (with_reducible first | refine Zb ?_ | (refine Zf ?_; intro J)); simp only [↓Zp, ZW, Zc, Zx, Ze, b_eq]
  split
  · (with_reducible first | refine Zb ?_ | (refine Zf ?_; intro J)); simp only [↓f_l1, ↓f_l2, s_expr, Zc, Zn, Zg, ZJ]
    exact spec_sound _ _ _ _ A [1, 2] [3] _ _ (Zz (Zz hi)) (Zz (Zm (vs := zl [1, 2]))) (Zm (vs := zl [3])) nA dA (by lia) fun H' p => h _ _ (List.IsPrefix.trans (Zy (List.prefix_append _ _)) p)
  (with_reducible first | refine Zb ?_ | (refine Zf ?_; intro J)); simp only [s_expr, Zc, Zn, Zg, ZJ, Yc, at_3]
  exact ok_met _ _ _ m A B _ _ hi hj nA dA (by lia) nB dB (by lia) m1 m2 fun _ H' p => h _ _ p

/-! ## where something is bad -/
theorem need_row_ok (n : Nat) {r : V} {H : Hp} {P : PV} (hr : GoodRow H r) (h : P .none H) : run T (n + 2) 21 [r] H P := by
  obtain ⟨i, A, rfl, hi, nA, dA, lA⟩ := hr
  exact spec_need_row _ _ A _ _ hi nA dA (by lia) h
theorem zspec_letter (n : Nat) (r q : V) (H : Hp) (R : PX) (h : (BadRowV H r ∧ R 0 H) ∨ (GoodRow H r ∧ Odd 1 12 q ∧ R 1 H)) : runZ T (n + 3) 24 [r, q] H R := by
  refine runZ_succ (d := f_letter) rfl rfl (by decide) ?_; simp only [f_letter, entry, List.map, List.replicate, Nat.reduceSub, List.cons_append, List.nil_append]
  rcases h with ⟨hr, h⟩ | ⟨hr, hq, h⟩
  · refine ZL ?_
    (try simp only [Zc, Zn, Zg, Zx, rz_expr])
    exact zspec_need_row _ _ _ _ hr h
  · refine rz_then ?_
    (try simp only [s_expr, Zc, Zn, Zg, Zx, Za])
    refine need_row_ok _ hr ?_
    refine ZL ?_
    (try simp only [Zc, Zn, Zg, ZJ, rz_expr])
    exact zspec_need_count _ _ _ _ hq h
theorem zspec_gaps (n : Nat) (r t : V) (H : Hp) (R : PX) (h : (BadRowV H r ∧ R 0 H) ∨ (GoodRow H r ∧ BadLetV t ∧ R 2 H)) : runZ T (n + 3) 29 [r, t] H R := by
  refine runZ_succ (d := f_gaps) rfl rfl (by decide) ?_; simp only [f_gaps, entry, List.map, List.replicate, Nat.reduceSub, List.cons_append, List.nil_append]
  rcases h with ⟨hr, h⟩ | ⟨hr, hq, h⟩
  · refine ZL ?_
    (try simp only [Zc, Zn, Zg, Zx, rz_expr])
    exact zspec_need_row _ _ _ _ hr h
  · refine rz_then ?_
    (try simp only [s_expr, Zc, Zn, Zg, Zx, Za])
    refine need_row_ok _ hr ?_
    refine ZL ?_
    (try simp only [Zc, Zn, Zg, ZJ, rz_expr])
    exact zspec_need_letter _ _ _ _ hq h
theorem zspec_learnt (n : Nat) (r t : V) (H : Hp) (R : PX) (h : (BadRowV H r ∧ R 0 H) ∨ (GoodRow H r ∧ BadLetV t ∧ R 2 H)) : runZ T (n + 3) 36 [r, t] H R := by
  refine runZ_succ (d := f_learnt) rfl rfl (by decide) ?_; simp only [f_learnt, entry, List.map, List.replicate, Nat.reduceSub, List.cons_append, List.nil_append]
  rcases h with ⟨hr, h⟩ | ⟨hr, hq, h⟩
  · refine ZL ?_
    (try simp only [Zc, Zn, Zg, Zx, rz_expr])
    exact zspec_need_row _ _ _ _ hr h
  · refine rz_then ?_
    (try simp only [s_expr, Zc, Zn, Zg, Zx, Za])
    refine need_row_ok _ hr ?_
    refine ZL ?_
    (try simp only [Zc, Zn, Zg, ZJ, rz_expr])
    exact zspec_need_letter _ _ _ _ hq h
theorem zspec_sound (n : Nat) (r l o : V) (H : Hp) (R : PX) (hr : BadRowV H r) (h : R 0 H) : runZ T (n + 3) 37 [r, l, o] H R := by
  refine runZ_succ (d := f_sound) rfl rfl (by decide) ?_; simp only [f_sound, entry, List.map, List.replicate, Nat.reduceSub, List.cons_append, List.nil_append]
  refine ZL ?_
  (try simp only [Zc, Zn, Zg, Zx, rz_expr])
  exact zspec_need_row _ _ _ _ hr h
theorem zspec_met (n : Nat) (r o q : V) (H : Hp) (R : PX) (h : (BadRowV H r ∧ R 0 H) ∨ (GoodRow H r ∧ ((BadRowV H o ∧ R 0 H) ∨ (GoodRow H o ∧ Odd 1 12 q ∧ R 1 H)))) : runZ T (n + 3) 38 [r, o, q] H R := by
  refine runZ_succ (d := f_met) rfl rfl (by decide) ?_; simp only [f_met, entry, List.map, List.replicate, Nat.reduceSub, List.cons_append, List.nil_append]
  rcases h with ⟨hr, h⟩ | ⟨hr, ⟨ho, h⟩ | ⟨ho, hq, h⟩⟩
  · refine ZL ?_
    (try simp only [Zc, Zn, Zg, Zx, rz_expr])
    exact zspec_need_row _ _ _ _ hr h
  · refine rz_then ?_
    (try simp only [s_expr, Zc, Zn, Zg, Zx, Za])
    refine need_row_ok _ hr ?_
    refine ZL ?_
    (try simp only [Zc, Zn, Zg, ZJ, rz_expr])
    exact zspec_need_row _ _ _ _ ho h
  · refine rz_then ?_
    (try simp only [s_expr, Zc, Zn, Zg, Zx, Za])
    refine need_row_ok _ hr ?_
    refine rz_then ?_
    (try simp only [s_expr, Zc, Zn, Zg, ZJ, Za])
    refine need_row_ok _ ho ?_
    refine ZL ?_
    (try simp only [Zc, Zn, Zg, Yc, rz_expr])
    exact zspec_need_count _ _ _ _ hq h

/-- which kind comes -/
noncomputable def Bad (H : Hp) (way : Int) (r o q t : V) (k : Nat) : Prop :=
  (k = 0 ∧ (BadRowV H r ∨ (way = 4 ∧ GoodRow H r ∧ BadRowV H o))) ∨ (k = 1 ∧ (way = 0 ∨ way = 4) ∧ GoodRow H r ∧ GoodRow H o ∧ Odd 1 12 q) ∨ (k = 2 ∧ (way = 1 ∨ way = 2) ∧ GoodRow H r ∧ BadLetV t)

set_option tactic.hygienic true
theorem zspec_called (n : Nat) (way : Int) (r o q t : V) (k : Nat) (H : Hp) (R : PX) (w0 : 0 ≤ way) (w1 : way ≤ 4) (hb : Bad H way r o q t k) (h : ∀ H', H <+: H' → R k H') : runZ T (n + 4) 41 [.int way, r, o, q, t] H R := by
  have hH := h H (List.prefix_refl _)
  refine runZ_succ (d := f_law_called) rfl rfl (by decide) ?_; simp only [f_law_called, entry, List.map, List.replicate, Nat.reduceSub, List.cons_append, List.nil_append]
  refine ZL ?_
  (try simp only [↓Zp, Zc, Zx, Ze, b_eq, rz_ite])
  split
  · rename_i c
    refine ZL ?_
    (try simp only [Zc, Zn, Zg, ZJ, at_3, rz_expr])
    refine zspec_letter _ _ _ _ _ ?_
    rcases hb with ⟨rfl, hb | hb⟩ | ⟨rfl, _, g1, g2, g3⟩ | ⟨rfl, hb, _⟩
    · exact .inl ⟨hb, hH⟩
    · lia
    · exact .inr ⟨g1, g3, hH⟩
    · lia
  refine ZL ?_
  (try simp only [↓Zp, Zc, Zx, Ze, b_eq, rz_ite])
  split
  · rename_i c
    refine ZL ?_
    (try simp only [Zc, Zn, Zg, ZJ, at_4, rz_expr])
    refine zspec_gaps _ _ _ _ _ ?_
    rcases hb with ⟨rfl, hb | hb⟩ | ⟨rfl, hb, _⟩ | ⟨rfl, _, g1, g3⟩
    · exact .inl ⟨hb, hH⟩
    · lia
    · lia
    · exact .inr ⟨g1, g3, hH⟩
  refine ZL ?_
  (try simp only [↓Zp, Zc, Zx, Ze, b_eq, rz_ite])
  split
  · rename_i c
    refine ZL ?_
    (try simp only [Zc, Zn, Zg, ZJ, at_4, rz_expr])
    refine zspec_learnt _ _ _ _ _ ?_
    rcases hb with ⟨rfl, hb | hb⟩ | ⟨rfl, hb, _⟩ | ⟨rfl, _, g1, g3⟩
    · exact .inl ⟨hb, hH⟩
    · lia
    · lia
    · exact .inr ⟨g1, g3, hH⟩
  refine ZL ?_
  (try simp only [↓Zp, Zc, Zx, Ze, b_eq, rz_ite])
  split
  · rename_i c
    refine ZL ?_
    (try simp only [↓f_l1, ↓f_l2, Zc, Zn, Zg, ZJ, rz_expr])
    rcases hb with ⟨rfl, hb | hb⟩ | ⟨rfl, hb, _⟩ | ⟨rfl, hb, _⟩
    · exact zspec_sound _ _ _ _ _ _ (hb.pre (Zy (List.prefix_append _ _))) (h _ (Zy (List.prefix_append _ _)))
    · lia
    · lia
    · lia
  refine ZL ?_
  (try simp only [Zc, Zn, Zg, ZJ, Yc, at_3, rz_expr])
  refine zspec_met _ _ _ _ _ _ ?_
  rcases hb with ⟨rfl, hb | ⟨_, g1, g2⟩⟩ | ⟨rfl, _, g1, g2, g3⟩ | ⟨rfl, hb, _⟩
  · exact .inl ⟨hb, hH⟩
  · exact .inr ⟨g1, .inl ⟨g2, hH⟩⟩
  · exact .inr ⟨g1, .inr ⟨g2, g3, hH⟩⟩
  · lia
set_option tactic.hygienic false

end Mine

--STEP: e_slice, sl_ii, sl_ni, sl_in, f_vvvi
open PySem
set_option linter.unusedSimpArgs false
set_option linter.unusedVariables false
namespace Mine

noncomputable def word (k : Nat) : Str := (["row", "count", "letter"] : List Str).getD k ""
/-- the last line's second half is true -/
noncomputable def Same (n : Nat) (m : Loc) (H : Hp) : Prop := wpE (run T n) w_same m H fun v _ => v = .bool true
/-- what the last line stands on -/
noncomputable def Due (n : Nat) (m : Loc) (H : Hp) : Prop := ∃ s r o q t p w d e, m = [s, some r, some o, some q, some t, p, some w, some (.str d), e] ∧
  ((run T n 41 [w, r, o, q, t] H fun _ H' => d = "" ∧ ∀ H'', H' <+: H'' → Same n m H'') ∨ runZ T n 41 [w, r, o, q, t] H fun k H' => k < 3 ∧ d = word k ∧ ∀ H'', H' <+: H'' → Same n m H'')

theorem f_vvvi {C : Calls} {m : Loc} {H : Hp} {P : PV} {f i : Nat} {a b : Int} : wpE C (.call f [.var i, .int a, .int b]) m H P = at? m i fun v => C f [v, .int a, .int b] H P := rfl
theorem u_text {v : V} {H : Hp} {P : PV} : wpU .text v H P = textV v H P := rfl
theorem b_add_str {x y : Str} {H : Hp} {P : PV} : wpB .add (.str x) (.str y) H P = (x.length + y.length ≤ 100000 ∧ P (.str (x ++ y)) H) := rfl
theorem b_eq_str {x y : Str} {H : Hp} {P : PV} : wpB .eq (.str x) (.str y) H P = P (.bool (decide (x = y))) H := rfl

/-- the three texts -/
theorem texts {n : Nat} {H : Hp} {r o t : V} (hr : Tx H r) (ho : Tx H o) (ht : Tx H t) : ∃ z : Str, ∀ H', H <+: H' → ∀ (s q p w d e : Option V) (P : PV), P (.str z) H' → wpE (run T n) (.bin .add (.bin .add (.un .text (.var 1)) (.un .text (.var 2))) (.un .text (.var 4))) [s, some r, some o, q, some t, p, w, d, e] H' P := by
  obtain ⟨x, lx, hx⟩ := hr
  obtain ⟨y, ly, hy⟩ := ho
  obtain ⟨z, lz, hz⟩ := ht
  refine ⟨x ++ y ++ z, fun H' hp s q p w d e P hP => ?_⟩
  (try simp only [↓Yd, e_bin, ZJ, Yc, at_4, u_text])
  refine hx H' hp _ (hy H' hp _ ?_)
  (try simp only [b_add_str])
  refine ⟨by lia, hz H' hp _ ?_⟩
  rw [b_add_str]
  refine ⟨by rw [strLen_append]; lia, hP⟩

set_option tactic.hygienic true
theorem main07 (xs : List Int) (n : Nat) (hx : xs.length ≤ 63) : wpSs (run T (n + 8)) f_law_07.body (entry f_law_07 [.frz xs]) [] fun fl m H => fl = .next ∧ Due (n + 8) m H := by
  simp only [f_law_07, entry, List.map, List.replicate, Nat.reduceSub, List.cons_append, List.nil_append]
  (with_reducible first | refine Zb ?_ | (refine Zf ?_; intro J)); simp only [Zi, ZU, Zc, ZR, Zn, Zg, Zx, Za, set_1]
  refine spec_law_row _ _ _ _ _ _ (by decide) (by decide) (by decide) (by decide) fun i A H1 p1 _ hi nA dA lA => ?_
  (try skip)
  (with_reducible first | refine Zb ?_ | (refine Zf ?_; intro J)); simp only [Zi, ZU, Zc, ZR, Zn, Zg, Zx, Za, set_2]
  refine spec_law_row _ _ _ _ _ _ (by decide) (by decide) (by decide) (by decide) fun j B H2 p2 _ hj nB dB lB => ?_
  (try skip)
  (with_reducible first | refine Zb ?_ | (refine Zf ?_; intro J)); simp only [↓f_vi, ↓Zp, ↓f_bib, Zi, Zx, Za, set_3]
  refine spec_cell _ _ _ _ _ (by decide) ?_
  (try simp only [b_add, ZY])
  refine ⟨by decide, ?_⟩
  have hm : 0 ≤ cell xs 2 % 12 ∧ cell xs 2 % 12 ≤ 11 := by lia
  obtain ⟨m, em, m1, m2⟩ : ∃ m : Nat, 1 + cell xs 2 % 12 = m ∧ 1 ≤ m ∧ m ≤ 12 := ⟨(1 + cell xs 2 % 12).toNat, by lia, by lia, by lia⟩
  rw [em]
  (with_reducible first | refine Zb ?_ | (refine Zf ?_; intro J)); simp only [↓f_vv, ↓Yd, Zi, e_un, e_tup, Zn, Zg, Yc, at_3, Za, u_len_ref, set_4, Zq hj, Zr]
  refine ok_law_sums _ _ B m _ _ hj nB (by lia) fun k3 zs H3 p3 s3 rz lz => ?_
  (try simp only [u_tuple_ref, Zq s3])
  have hr : GoodRow H3 (.ref i) := ⟨i, A, rfl, Zl (p2.trans p3) hi, nA, dA, by lia⟩
  have ho : GoodRow H3 (.ref j) := ⟨j, B, rfl, Zl p3 hj, nB, dB, by lia⟩
  have hq : GoodCnt (.int m) := ⟨m, rfl, m1, m2⟩
  have ht : GoodLet (.tup [.int B.length, .tup (zl zs)]) := ⟨B.length, _, rfl, by lia, by lia, rz, by lia, by lia⟩
  clear p1 p2 p3 s3 hi hj em hm
  generalize V.ref i = r at hr
  generalize V.ref j = o at ho
  generalize V.int (m : Int) = q at hq
  generalize (V.tup [.int B.length, .tup (zl zs)]) = t at ht
  clear nA dA lA nB dB lB m1 m2 rz lz
  (with_reducible first | refine Zb ?_ | (refine Zf ?_; intro J)); simp only [↓f_vi, Zi, Zx, Za, set_5]
  refine spec_cell _ _ _ _ _ (by decide) ?_
  (try skip)
  generalize cell xs 3 = pick
  (with_reducible first | refine Zb ?_ | (refine Zf ?_; intro J)); simp only [↓Zp, Zi, Zc, at_5, Za, ZY, set_6]
  refine ⟨by decide, ?_⟩
  have hw : 0 ≤ pick % 5 ∧ pick % 5 ≤ 4 := by lia
  generalize pick % 5 = way at hw
  (with_reducible first | refine Zb ?_ | (refine Zf ?_; intro J)); simp only [Zi, e_str, Za, set_7]
  -- a bad letter
  (try change wpSs _ _ _ _ _)
  refine s_cut (Zo _ _) (fun m' H' => Ex2 fun t (d : Str) => And4 (H3 <+: H') (Tx H' t) (((d = "" ∧ GoodLet t) ∨ (d = "letter" ∧ (way = 1 ∨ way = 2) ∧ BadLetV t))) (m' = [some (.frz xs), some r, some o, some q, some t, some (.int pick), some (.int way), some (.str d), none])) ?_ ?_
  · (try (with_reducible refine post_letS ?_; intro J))
    (try simp only [↓f_l2, ↓Zp, ↓f_bvb, ZG, ZW, Zc, e_and, at_5, at_6, Ze, Za, b_fdiv, ZY, b_eq])
    refine ⟨by decide, by decide, by decide, ?_⟩
    split
    rotate_left
    · exact ⟨t, "", List.prefix_refl _, ht.tx, .inl ⟨rfl, ht⟩, rfl⟩
    have e1 : (H3 ++ [[V.int 1, V.int 2]])[H3.length]? = some (zl [1, 2]) := Zm
    rw [b_isin e1]
    (try simp only [Ze])
    split
    rotate_left
    · exact ⟨t, "", List.prefix_append _ _, ht.tx, .inl ⟨rfl, ht⟩, rfl⟩
    rename_i hin
    (with_reducible first | refine Zb ?_ | (refine Zf ?_; intro J)); simp only [↓f_vi, Zi, Zc, ZR, Zn, Zg, Zx, at_4, Za, set_4]
    refine spec_cell _ _ _ _ _ (by decide) ?_
    obtain ⟨c, S, rfl, c0, c1, rS, l1, l2⟩ := ht
    refine spec_bad_letter _ S c _ _ _ c0 c1 rS l1 l2 fun v H' p hb hx => ?_
    (try skip)
    (with_reducible first | refine Zb ?_ | (refine Zf ?_; intro J)); simp only [Zi, e_str, Za, set_7]
    refine ⟨v, "letter", List.IsPrefix.trans (List.prefix_append _ _) p, hx, .inr ⟨rfl, ?_, hb⟩, rfl⟩
    simpa using hin
  rintro m' H4 ⟨t', d', p4, xt, hd, rfl⟩
  (try (with_reducible (first | refine Zh ?_ | refine Zd ?_); intro J))
  replace hr := hr.pre p4
  replace ho := ho.pre p4
  clear ht p4 H3
  -- a bad count
  (try change wpSs _ _ _ _ _)
  refine s_cut (Zo _ _) (fun m' H' => Ex2 fun q (d : Str) => And3 (H4 <+: H') (((d = "" ∧ GoodCnt q ∧ GoodLet t') ∨ (d = "letter" ∧ (way = 1 ∨ way = 2) ∧ BadLetV t') ∨ (d = "count" ∧ (way = 0 ∨ way = 4) ∧ Odd 1 12 q))) (m' = [some (.frz xs), some r, some o, some q, some t', some (.int pick), some (.int way), some (.str d), none])) ?_ ?_
  · (try (with_reducible refine post_letS ?_; intro J))
    have stay : ∀ H', H4 <+: H' → ∃ (q_1 : V) (d : Str), H4 <+: H' ∧ ((d = "" ∧ GoodCnt q_1 ∧ GoodLet t') ∨ (d = "letter" ∧ (way = 1 ∨ way = 2) ∧ BadLetV t') ∨ (d = "count" ∧ (way = 0 ∨ way = 4) ∧ Odd 1 12 q_1)) ∧ [some (V.frz xs), some r, some o, some q, some t', some (.int pick), some (.int way), some (.str d'), none] = [some (.frz xs), some r, some o, some q_1, some t', some (.int pick), some (.int way), some (.str d), none] := fun H' p => by
      refine ⟨q, d', p, ?_, rfl⟩
      rcases hd with ⟨h1, h2⟩ | h
      · exact .inl ⟨h1, hq, h2⟩
      · exact .inr (.inl h)
    (try simp only [↓f_l2, ↓Zp, ↓f_bvb, ZG, ZW, Zc, e_and, at_5, at_6, Ze, Za, b_fdiv, ZY, b_eq])
    refine ⟨by decide, by decide, by decide, ?_⟩
    split
    rotate_left
    · obtain ⟨a, b, c, d, e⟩ := stay _ (List.prefix_refl _)
      exact ⟨a, b, c, d, e⟩
    have e1 : (H4 ++ [[V.int 0, V.int 4]])[H4.length]? = some (zl [0, 4]) := Zm
    rw [b_isin e1]
    (try simp only [Ze])
    split
    rotate_left
    · obtain ⟨a, b, c, d, e⟩ := stay _ (List.prefix_append _ _)
      exact ⟨a, b, c, d, e⟩
    rename_i hin
    (with_reducible first | refine Zb ?_ | (refine Zf ?_; intro J)); simp only [↓f_vi, Zi, ZU, ZR, Zn, Zg, Zx, Za, set_3]
    refine spec_cell _ _ _ _ _ (by decide) ?_
    refine spec_law_odd _ _ _ _ _ _ (by decide) (by decide) (by decide) fun v H' p ov _ => ?_
    (try skip)
    (with_reducible first | refine Zb ?_ | (refine Zf ?_; intro J)); simp only [Zi, e_str, Za, set_7]
    refine ⟨v, "count", List.IsPrefix.trans (List.prefix_append _ _) p, .inr (.inr ⟨rfl, ?_, ov⟩), rfl⟩
    simpa using hin
  rintro m' H5 ⟨q', d5, p5, hd5, rfl⟩
  (try (with_reducible (first | refine Zh ?_ | refine Zd ?_); intro J))
  replace hr := hr.pre p5
  replace ho := ho.pre p5
  replace xt := xt.pre p5
  clear hd hq p5 H4
  -- the other row is bad
  (try change wpSs _ _ _ _ _)
  refine s_cut (Zo _ _) (fun m' H' => Ex2 fun o (d : Str) => And4 (H5 <+: H') (Tx H' o) (((d = d5 ∧ GoodRow H' o) ∨ (d = "row" ∧ way = 4 ∧ BadRowV H' o))) (m' = [some (.frz xs), some r, some o, some q', some t', some (.int pick), some (.int way), some (.str d), none])) ?_ ?_
  · (try (with_reducible refine post_letS ?_; intro J))
    (try simp only [↓Zp, ZG, ZW, Zc, e_and, at_5, at_6, Ze, Za, b_fdiv, ZY, b_eq])
    refine ⟨by decide, by decide, by decide, ?_⟩
    split
    rotate_left
    · exact ⟨o, d5, List.prefix_refl _, ho.tx, .inl ⟨rfl, ho⟩, rfl⟩
    (try skip)
    split
    rotate_left
    · exact ⟨o, d5, List.prefix_refl _, ho.tx, .inl ⟨rfl, ho⟩, rfl⟩
    rename_i h4
    (with_reducible first | refine Zb ?_ | (refine Zf ?_; intro J)); simp only [↓f_vi, Zi, Zc, ZR, Zn, Zg, Zx, Yc, Za, set_2]
    refine spec_cell _ _ _ _ _ (by decide) ?_
    obtain ⟨k, A', rfl, hk, nA, dA, lA⟩ := ho
    refine spec_bad_row _ _ A' _ _ _ hk nA lA fun v H' p hb hx => ?_
    (try skip)
    (with_reducible first | refine Zb ?_ | (refine Zf ?_; intro J)); simp only [Zi, e_str, Za, set_7]
    exact ⟨v, "row", p, hx, .inr ⟨rfl, h4, hb⟩, rfl⟩
  rintro m' H6 ⟨o', d6, p6, xo, hd6, rfl⟩
  (try (with_reducible (first | refine Zh ?_ | refine Zd ?_); intro J))
  replace hr := hr.pre p6
  replace xt := xt.pre p6
  clear ho p6 H5
  -- the row is bad
  (try change wpSs _ _ _ _ _)
  refine s_cut (Zo _ _) (fun m' H' => Ex2 fun r (d : Str) => And4 (H6 <+: H') (Tx H' r) (((d = d6 ∧ GoodRow H' r) ∨ (d = "row" ∧ BadRowV H' r))) (m' = [some (.frz xs), some r, some o', some q', some t', some (.int pick), some (.int way), some (.str d), none])) ?_ ?_
  · (try (with_reducible refine post_letS ?_; intro J))
    (try simp only [↓Zp, ZG, ZW, Zc, at_5, Ze, Za, b_fdiv, ZY, b_eq])
    refine ⟨by decide, by decide, by decide, ?_⟩
    split
    rotate_left
    · exact ⟨r, d6, List.prefix_refl _, hr.tx, .inl ⟨rfl, hr⟩, rfl⟩
    (with_reducible first | refine Zb ?_ | (refine Zf ?_; intro J)); simp only [↓f_vi, Zi, Zc, ZR, Zn, Zg, Zx, ZJ, Za, set_1]
    refine spec_cell _ _ _ _ _ (by decide) ?_
    obtain ⟨k, A', rfl, hk, nA, dA, lA⟩ := hr
    refine spec_bad_row _ _ A' _ _ _ hk nA lA fun v H' p hb hx => ?_
    (try skip)
    (with_reducible first | refine Zb ?_ | (refine Zf ?_; intro J)); simp only [Zi, e_str, Za, set_7]
    exact ⟨v, "row", p, hx, .inr ⟨rfl, hb⟩, rfl⟩
  rintro m' H7 ⟨r', d7, p7, xr, hd7, rfl⟩
  (try (with_reducible (first | refine Zh ?_ | refine Zd ?_); intro J))
  replace xt := xt.pre p7
  replace xo := xo.pre p7
  obtain ⟨z, hz⟩ := texts (n := n + 8) xr xo xt
  (try change wpSs _ _ _ _ _)
  rw [s_cons, Zi]
  refine hz H7 (List.prefix_refl _) _ _ _ _ _ _ _ ?_
  (try simp only [ZG, Za, set_8])
  refine ⟨(by trivial), ?_⟩
  have same : ∀ H', H7 <+: H' → Same (n + 8) [some (.frz xs), some r', some o', some q', some t', some (.int pick), some (.int way), some (.str d7), some (.str z)] H' := fun H' p => by
    unfold Same w_same
    rw [e_bin]
    refine hz H' p _ _ _ _ _ _ _ ?_
    rw [Zc, at_8, b_eq_str, decide_eq_true rfl]
  refine ⟨_, _, _, _, _, _, _, _, _, rfl, ?_⟩
  have bad : ∀ k, k < 3 → d7 = word k → Bad H7 way r' o' q' t' k → runZ T (n + 8) 41 [.int way, r', o', q', t'] H7 fun k H' => k < 3 ∧ d7 = word k ∧ ∀ H'', H' <+: H'' → Same (n + 8) [some (.frz xs), some r', some o', some q', some t', some (.int pick), some (.int way), some (.str d7), some (.str z)] H'' := fun k hk hd hb => zspec_called (n + 4) way _ _ _ _ k _ _ hw.1 hw.2 hb fun H' p => ⟨hk, hd, fun H'' p' => same H'' (p.trans p')⟩
  rcases hd7 with ⟨rfl, gr⟩ | ⟨rfl, br⟩
  · rcases hd6 with ⟨rfl, go⟩ | ⟨rfl, h4, bo⟩
    · replace go := go.pre p7
      rcases hd5 with ⟨rfl, gq, gt⟩ | ⟨rfl, hw', bt⟩ | ⟨rfl, hw', bq⟩
      · exact .inl (spec_called (n + 1) way _ _ _ _ _ _ hw.1 hw.2 gr go gq gt fun _ H' p => ⟨rfl, fun H'' p' => same H'' (p.trans p')⟩)
      · exact .inr <| bad 2 (by decide) rfl (.inr (.inr ⟨rfl, hw', gr, bt⟩))
      · exact .inr <| bad 1 (by decide) rfl (.inr (.inl ⟨rfl, hw', gr, go, bq⟩))
    · exact .inr <| bad 0 (by decide) rfl (.inl ⟨rfl, .inr ⟨h4, gr, bo.pre p7⟩⟩)
  · exact .inr <| bad 0 (by decide) rfl (.inl ⟨rfl, .inl br⟩)
set_option tactic.hygienic false

end Mine

open PySem PySem.W
namespace Mine

structure LP where
  init : List Stmt
  f : Str
  args : List Expr
  due : Expr
  same : Expr
noncomputable def lawOf (body : List Stmt) : Option LP := body.getLast?.bind fun l => (retOf l).bind fun r => (andOf r).bind fun ab => (eqOf ab.1).bind fun cd => (callOf cd.1).bind fun c => (nameOf c.1).bind fun f => some ⟨body.dropLast, f, c.2.1, cd.2, ab.2⟩
noncomputable def LawIs (body : List Stmt) (L : LP) : Prop := Ex5 fun fp cp p1 p2 p3 => body = L.init ++ [.Return (some (.BoolOp .And [.Compare (.Call (.Name L.f fp) L.args [] cp) [.Eq] [L.due] p1, L.same] p2)) p3]
theorem lawOf_eq {body : List Stmt} {L : LP} (h : lawOf body = some L) : LawIs body L := by
  obtain ⟨l, h1, h⟩ := Zk h
  obtain ⟨r, h2, h⟩ := Zk h
  obtain ⟨⟨a, b⟩, h3, h⟩ := Zk h
  obtain ⟨⟨c, d⟩, h4, h⟩ := Zk h
  obtain ⟨⟨fe, args, cp⟩, h5, h⟩ := Zk h
  obtain ⟨f, h6, h⟩ := Zk h
  cases h
  dsimp only at *
  obtain ⟨p3, rfl⟩ := retOf_eq h2
  obtain ⟨p2, rfl⟩ := andOf_eq h3
  obtain ⟨p1, rfl⟩ := eqOf_eq h4
  obtain ⟨fp, rfl⟩ := nameOf_eq h6
  have h5 := callOf_eq h5
  subst h5
  exact ⟨fp, cp, p1, p2, p3, by obtain ⟨ys, rfl⟩ := List.getLast?_eq_some_iff.mp h1; rw [List.dropLast_concat]⟩

structure LawOk (D : Tabs) (sc : Scope) (L : LP) : Prop where
  lenΓ : (ownNames sc).length = 9
  init : cSs D sc (ownNames sc) L.init = some f_law_07.body
  args : cEs D sc (ownNames sc) L.args = some w_args
  due : cE D sc (ownNames sc) L.due = some (.var 7)
  same : cE D sc (ownNames sc) L.same = some w_same
  gf : isGlob sc L.f = true
  df : (L.f == ("__debug__" : Str)) = false

section
variable {prog : Program} {w : World} {base : Heap} {D : Tabs} {T : Nat → Option Fn} {mg mb : Str → Option Value} {C : Calls} {A : Around} {sc : Scope} {Γ : List Str} {env : Env}

set_option tactic.hygienic true
theorem execs_then {rest : List Stmt} (hS : ∀ st x, cS D sc Γ st = some x → SS prog w base C A st x sc Γ env) : ∀ (init : List Stmt) (xs : List Mine.S), cSs D sc Γ init = some xs →
    ∀ (m : Loc) (φ : List Addr) (H : Hp) (s : Shared) (Q : Loc → Hp → Prop) (QQ : Flow → Shared → Prop) (E : Value → Shared → Prop), Rel base φ H s.heap → EnvR base φ sc env Γ m s.heap → wpSs C xs m H (fun fl m H => fl = .next ∧ Q m H) →
    (∀ m' φ' H' s', Q m' H' → Step (own env) φ φ' s s' → Rel base φ' H' s'.heap → EnvR base φ' sc env Γ m' s'.heap → wpAny (model prog w) A (execs rest env) QQ E s') → wpAny (model prog w) A (execs (init ++ rest) env) QQ E s
  | [], xs, hc, m, φ, H, s, Q, QQ, E, R, W, hw, K => by
    rw [cSs_nil] at hc; cases hc
    exact K m φ H s (show Fl.next = .next ∧ Q m H from hw).2 (Step.refl _ _ _) R W
  | st :: r, xs, hc, m, φ, H, s, Q, QQ, E, R, W, hw, K => by
    obtain ⟨a, as, g1, g2, rfl⟩ := cSs_cons hc
    rw [wss_cons] at hw
    refine wpAny_execs_cons (hS st a g1 m φ H s _ _ E R W hw fun fl f m' φ' H' s' hq st' R' W' hf => ?_)
    cases fl with
    | next =>
      rw [show f = .next from hf]
      exact execs_then hS r as g2 m' φ' H' s' Q QQ E R' W' hq fun m'' φ'' H'' s'' hq' st'' R'' W'' => K m'' φ'' H'' s'' hq' (st'.trans st'') R'' W''
    | ret v => exact absurd hq.1 (by intro q; cases q)
set_option tactic.hygienic false

theorem marks {op : CmpOp} {r : Expr} {y : X} (h : cE D sc Γ r = some y) : behindInMarks op r = false :=
  cE_elim (M := fun r _ => behindInMarks op r = false) (by intros; rfl) (by intros; rfl) (by intros; rfl) (by intros; rfl) (by intros; rfl) (by intros; rfl) (by intros; rfl) (by intros; rfl) (by intros; rfl) (by intros; rfl) (by intros; rfl) (by intros; rfl) (by intros; rfl) (by intros; rfl) r y h

end

section
variable {prog : Program} {w : World} {c : ClaimW} {cl : Str → Option Addr} {mean : ExcName → Option Value} {args : List WData} {s₁ : Shared} {mg mb : Str → Option Value} {D : Tabs}
variable {cn : Nat → Str} {Cl : Nat → Addr} {S : Addr} {Kd : Nat → Value}
/-- the law is called -/
theorem law_call (G : Ground s₁.heap D T mg mb) (hX : ExcsOk s₁.heap D Kd mg) (hR : ∀ A, A.handled = none → D.revs = true → RevSound prog w s₁.heap A) (hZ : ∀ C A, A.handled = none → D.zips = true → ZipSound prog w s₁.heap D C A)
    (N : Kinds s₁.heap mg cn Cl S) (hKd : ∀ k, k < 3 → Kd k = .ref (Cl k)) {fa : Addr} {o : Obj} {fd : FuncData} {body : List Stmt} {params : List Str} {L : LP} (F : CodeAt s₁.heap fa o fd body params) (hl1 : params.length = 1) (hL : lawOf body = some L) (O : LawOk D fd.scope L)
    {aw : Addr} {ow : Obj} {fdw : FuncData} {bodyw : List Stmt} {paramsw : List Str} {W : WP} (hmw : mg L.f = some (.ref aw)) (Fw : CodeAt s₁.heap aw ow fdw bodyw paramsw) (hl5 : paramsw.length = 5) (hW : wordOf bodyw = some W) (Ow : WordOk D cn fdw.scope 41 W) (hsn : mg W.sn = some (.ref S))
    {a : Addr} {vs : List Value} {xs : List Int} (hLs : s₁.heap.IsList a vs.toArray) (hI : PyProof.Rows.IntsAre vs xs) (hx : xs.length ≤ 63) {Q : Value → Shared → Prop} {E : Value → Shared → Prop}
    (K : ∀ s', (∀ b o, s₁.heap.get? b = some o → s'.heap.get? b = some o) → (∃ hh tk, s' = { s₁ with heap := hh, toks := tk }) → Q (.bool true) s') : wpAny (model prog w) callerA (call (.ref fa) [.ref a] []) Q E s₁ := by
  have hA : Room 41 callerA := ⟨rfl, by show 1 + claimMargin + 41 < 900; unfold claimMargin; lia, by show 4 + 8 * 41 + 100 < cLine; unfold cLine; lia, rfl⟩
  have main := main07 xs 31 hx
  generalize hn : 31 + 8 = n at main
  have R : Rel s₁.heap [] [] s₁.heap := ⟨fun _ _ e => e, rfl, List.nodup_nil, fun _ h => by simp at h, fun _ h => by simp at h, fun k a h => by simp at h⟩
  have rv : RepL s₁.heap [] s₁.heap [.frz xs] [.ref a] := ⟨_, _, rfl, ⟨a, vs, rfl, hLs, hI, by unfold room; lia⟩, rfl⟩
  refine call_plain G R F (by have := hA.2.1; lia) rv (by rw [hl1]; rfl) (by rw [O.lenΓ]; exact Nat.le_of_ble_eq_true rfl) fun env s1 QQ EE hfe st hown R1 W1 hQ => ?_
  rw [O.lenΓ] at W1
  change EnvR s₁.heap [] fd.scope env (ownNames fd.scope) (entry f_law_07 [.frz xs]) s1.heap at W1
  have hA' : Room 40 (callerA.deeper env) := hA.deeper env
  have hAn : Room (n + 1) (callerA.deeper env) := by rw [← hn]; exact hA'
  have hAm : Room n (callerA.deeper env) := ⟨hAn.1, by have := hAn.2.1; lia, by have := hAn.2.2.1; lia, hAn.2.2.2⟩
  have u64 : (callerA.deeper env).units + 64 < cLine := by have := hA'.2.2.1; lia
  have hh : Here (callerA.deeper env) env [] := ⟨Around.frames_deeper rfl, hfe, fun a h => by cases h⟩
  have sC := soundC (prog := prog) (w := w) G hR hZ n _ hAm
  have sE := fun e x h => (soundE (C := run T n) (A := callerA.deeper env) G hAm.1 u64 hAm.2.2.2 sC (hR _ hAm.1) (hZ _ _ hAm.1) _ e (Nat.lt_succ_self _) fd.scope (ownNames fd.scope) env x h).1
  have sS := fun st x h => (soundS (C := run T n) (A := callerA.deeper env) G hAm.1 u64 hAm.2.2.2 sC (hR _ hAm.1) (hZ _ _ hAm.1) fd.scope (ownNames fd.scope) env _).1 st (Nat.lt_succ_self _) x h
  obtain ⟨fp, cp, p1, p2, p3, rfl⟩ := lawOf_eq hL
  refine execs_then sS L.init _ O.init _ _ _ s1 (Due n) _ _ R1 W1 main fun m2 φ2 H2 s2 hD st2 R2 W2 => ?_
  obtain ⟨es, er, eo, eq, et, epk, ew, d, ekp, rfl, hD⟩ := hD
  refine wpAny_execs_cons (wpAny_Return_some ?_)
  have hwe : wpEs (run T n) w_args [es, some er, some eo, some eq, some et, epk, some ew, some (.str d), ekp] H2 fun vs H' => vs = [ew, er, eo, eq, et] ∧ H' = H2 := by
    simp [w_args, wes_cons, wes_nil, ZH]
  refine wpAny_bind (wpAny_Compare1 ?_ (marks O.due))
  refine wpAny_Call_NameR (glob_name G R2 W2 O.gf O.df hmw ?_)
  refine PySem.Calls.callWith_function (o := ow) (fd := fdw) ?_
  obtain ⟨e0, r0, hargs⟩ : ∃ e0 r0, L.args = e0 :: r0 := by
    have := O.args
    cases hq : L.args with
    | nil => rw [hq, cEs_nil] at this; cases this
    | cons e r => exact ⟨e, r, rfl⟩
  have e1 : backTo cp (starEach L.args env) = (false, eval e0 env) :: backTo cp (starEach r0 env) := by
    have hc := O.args
    rw [hargs] at hc ⊢
    obtain ⟨_, _, h1, _⟩ := cEs_cons hc
    rw [not_star h1]; rfl
  rw [e1]
  refine PySem.Calls.evalArgs_plain ?_
  rw [← e1]
  refine se_args L.args w_args O.args (fun e _ x h => sE e x h) _ φ2 H2 s2 _ _ _ R2 W2 hwe fun vs3 ws φ3 H3 s3 hp3 st3 R3 rv3 _ => ⟨⟨R3.keep _ _ Fw.obj, Fw.dat⟩, ?_⟩
  obtain ⟨rfl, rfl⟩ := hp3
  have W3 := W2.step R2 st3
  refine word_call G hX hR hZ N hKd hAn hh.frames (stk_cons hh W3 fun e he => nomatch he) R3 Fw hl5 hW Ow hsn rv3
    (PO := fun oc H' => d = outWord oc ∧ ∀ H'', H' <+: H'' → Same n [es, some er, some eo, some eq, some et, epk, some ew, some (.str d), ekp] H'') hD fun oc t φ4 H4 H5 s5 hpo hpre R5 surv hs5 => ?_
  obtain ⟨hd, hsame⟩ := hpo
  have W5 := surv _ _ _ _ W3
  refine sE L.due _ O.due _ φ4 H5 s5 (fun v H' => v = .str d ∧ H' = H5) _ _ R5 W5 (by rw [ZH]; exact ⟨rfl, rfl⟩) fun v y φ6 H6 s6 hp6 st6 R6 r6 => ?_
  obtain ⟨rfl, rfl⟩ := hp6
  have W6 := W5.step R5 st6
  refine soundCmp (op := .Eq) (a := .str (outWord oc)) (b := .str d) (P := fun v H' => v = .bool true ∧ H' = H6) u64 R6 ⟨t, rfl⟩ r6 ?_ fun v y φ7 H7 s7 hp7 st7 R7 r7 => ?_
  · show wpB .eq _ _ _ _
    rw [b_eq_str, hd, decide_eq_true rfl]
    exact ⟨rfl, rfl⟩
  obtain ⟨rfl, rfl⟩ := hp7
  have W7 := W6.step R6 st7
  rw [show y = .bool true from r7]
  refine wpAny_bind (wpAny_standAt (wpAny_bind (wpAny_holding (wpAny_truthy_bool ?_))))
  show wpAny (model prog w) (callerA.deeper env) (eval L.same env) _ _ s7
  refine sE L.same _ O.same _ φ7 H7 s7 (fun v _ => v = .bool true) _ _ R7 W7 (hsame _ hpre) fun v y φ8 H8 s8 hp8 st8 R8 r8 => ?_
  subst hp8
  rw [show y = .bool true from r8]
  obtain ⟨_, _, q1⟩ := st.same
  obtain ⟨_, _, q2⟩ := st2.same
  obtain ⟨_, _, q3⟩ := st3.same
  obtain ⟨_, _, q5⟩ := hs5
  obtain ⟨_, _, q6⟩ := st6.same
  obtain ⟨_, _, q7⟩ := st7.same
  obtain ⟨h8, t8, q8⟩ := st8.same
  exact hQ _ _ (K s8 R8.keep ⟨h8, t8, by rw [q8, q7, q6, q5, q3, q2, q1]⟩)

/-- the whole of law 07 -/
theorem at_top07 (G : Ground s₁.heap D T mg mb) (hX : ExcsOk s₁.heap D Kd mg) (hR : ∀ A, A.handled = none → D.revs = true → RevSound prog w s₁.heap A) (hZ : ∀ C A, A.handled = none → D.zips = true → ZipSound prog w s₁.heap D C A)
    (N : Kinds s₁.heap mg cn Cl S) (hKd : ∀ k, k < 3 → Kd k = .ref (Cl k)) {fa : Addr} {o : Obj} {fd : FuncData} {body : List Stmt} {params : List Str} {L : LP} (F : CodeAt s₁.heap fa o fd body params) (hl1 : params.length = 1) (hL : lawOf body = some L) (O : LawOk D fd.scope L)
    {aw : Addr} {ow : Obj} {fdw : FuncData} {bodyw : List Stmt} {paramsw : List Str} {W : WP} (hmw : mg L.f = some (.ref aw)) (Fw : CodeAt s₁.heap aw ow fdw bodyw paramsw) (hl5 : paramsw.length = 5) (hW : wordOf bodyw = some W) (Ow : WordOk D cn fdw.scope 41 W) (hsn : mg W.sn = some (.ref S))
    {a : Addr} {vs : List Value} {xs : List Int} (hLs : s₁.heap.IsList a vs.toArray) (hI : PyProof.Rows.IntsAre vs xs) (hx : xs.length ≤ 63) (hg : s₁.gens = #[]) (hr : ∀ cls, c.raises args cls = false) (hp : c.post args (.bool true) args = true) :
    wpAny (model prog w) callerA ((fun f vs => call f vs) (Value.ref fa) [Value.ref a]) (fun v s' => GoodWG c cl mean args s₁ (.ok (.ret v)) s') (fun e s' => GoodWG c cl mean args s₁ (.error e) s') s₁ := by
  refine law_call G hX hR hZ N hKd F hl1 hL O hmw Fw hl5 hW Ow hsn hLs hI hx fun s8 keep ⟨h8, t8, e8⟩ => ?_
  refine GoodW.toG ⟨.inl ⟨_, .bool true, [], rfl, hr, .bool true, hp, fun _ => ⟨List.nodup_nil, fun _ h => by cases h⟩⟩, keep, ?_, ?_⟩
  · rw [e8]
  · rw [e8]; exact hg
end
end Mine

open PySem PySem.W
namespace Mine

/-! ## the classes, looked up behind the text's top -/
noncomputable def badNames : List Str := ["BadRow", "BadCount", "BadLetter"]
noncomputable def badName (j : Nat) : Str := badNames.getD j ""
noncomputable def hushOk (h : Heap) (name : Str) : Bool := match h.clsAt mainGlobals name with
  | some (_, _, cd) => hush.all fun n => (h.nsMap cd.ns n).isNone
  | none => false
theorem clsAt_of {h : Heap} {name : Str} {chain : List Str} {bm : List Value} {newId : String} (x : h.ownExcOk name chain bm newId = true) (y : hushOk h name = true) :
    ∃ C, h.nsMap mainGlobals name = some (.ref C) ∧ ClsAt h C ((chain.map fun n => (h.nsMap mainGlobals n).getD .none) ++ bm):= by
  obtain ⟨C, N, nm, q, bs, hdct, sn, sub, ab, col, dd, k0, k1, k2, k3, k5, hb, hC, hN, _⟩ := Heap.ownExc_of_ok x
  refine ⟨C, hb, nm, q, N, bs, hdct, sn, sub, ab, col, dd, k0, k1, k2, k3, k5, newId, _, hC, hN, fun n hn => ?_⟩
  unfold hushOk at y
  cases hf : h.clsAt mainGlobals name with
  | none => rw [hf] at y; cases y
  | some z =>
    obtain ⟨C', o', cd'⟩ := z
    rw [hf] at y
    obtain ⟨hn', ho', hd'⟩ := Heap.clsAt_spec hf
    rw [hb] at hn'
    obtain rfl : C = C' := by injection hn' with q1; injection q1
    rw [hC] at ho'
    obtain rfl := Option.some.inj ho'
    obtain rfl : _ = cd' := by injection hd'
    exact Option.isNone_iff_eq_none.mp (List.all_eq_true.mp y n hn)
noncomputable def bound1 (h : Heap) (n : Str) : Option Value := h.nsMap mainGlobals n
noncomputable def look (s : Shared) : Bool := s.heap.ownExcOk "SumError" [] vbm "ValueError.__new__" && (hushOk s.heap "SumError" && ((badNames.all fun n => s.heap.ownExcOk n ["SumError"] vbm "ValueError.__new__" && hushOk s.heap n) &&
  (decide ((bound1 s.heap "SumError" :: badNames.map (bound1 s.heap)).Nodup) && (s.heap.get? sysModules).isSome)))
noncomputable def XC (mg : Str → Option Value) (h : Heap) : Prop := Ex2 fun Cl S => And3 (Kinds h mg badName Cl S) (mg "SumError" = some (.ref S)) (∃ o, h.get? sysModules = some o)
theorem XC.keeps (mg : Str → Option Value) (h h' : Heap) (x : XC mg h) (hk : ∀ b o, h.get? b = some o → h'.get? b = some o) : XC mg h' := by
  obtain ⟨Cl, S, N, hs, o, ho⟩ := x
  exact ⟨Cl, S, ⟨fun j hj => ⟨(N.each j hj).1, (N.each j hj).2.1.keeps hk, (N.each j hj).2.2⟩, N.inj, N.top.keeps hk⟩, hs, o, hk _ _ ho⟩
theorem xc_of (s : Shared) (x : look s = true) : XC (s.heap.nsMap mainGlobals) s.heap := by
  unfold look at x
  simp only [Bool.and_eq_true, List.all_eq_true, decide_eq_true_eq] at x
  obtain ⟨x1, x2, x3, x4, x5⟩ := x
  obtain ⟨S, hS, cS⟩ := clsAt_of x1 x2
  have at3 : ∀ j, j < 3 → badName j ∈ badNames := fun j hj => by
    rcases (show j = 0 ∨ j = 1 ∨ j = 2 by lia) with rfl | rfl | rfl <;> decide
  have each : ∀ j, ∃ C, j < 3 → s.heap.nsMap mainGlobals (badName j) = some (.ref C) ∧ ClsAt s.heap C (.ref S :: vbm) := fun j => by
    by_cases hj : j < 3
    · obtain ⟨y1, y2⟩ := x3 _ (at3 j hj)
      obtain ⟨C, hC, cC⟩ := clsAt_of y1 y2
      refine ⟨C, fun _ => ⟨hC, ?_⟩⟩
      simpa [hS] using cC
    · exact ⟨0, fun q => absurd q hj⟩
  obtain ⟨Cl, hCl⟩ := Classical.axiomOfChoice each
  have b1 : ∀ j, j < 3 → bound1 s.heap (badName j) = some (.ref (Cl j)) := fun j hj => (hCl j hj).1
  have bS : bound1 s.heap "SumError" = some (.ref S) := hS
  obtain ⟨n1, n2⟩ := List.nodup_cons.mp x4
  refine ⟨Cl, S, ⟨fun j hj => ⟨(hCl j hj).1, (hCl j hj).2, fun q => n1 ?_⟩, fun i j hi hj q => ?_, by simpa using cS⟩, hS, Option.isSome_iff_exists.mp x5⟩
  · rw [bS, q, ← b1 j hj]
    exact List.mem_map.mpr ⟨_, at3 j hj, rfl⟩
  · have e : bound1 s.heap (badName i) = bound1 s.heap (badName j) := by rw [b1 i hi, b1 j hj, q]
    have n3 : [bound1 s.heap (badName 0), bound1 s.heap (badName 1), bound1 s.heap (badName 2)].Nodup := n2
    simp only [List.nodup_cons, List.mem_cons, List.not_mem_nil, or_false, not_or] at n3
    obtain ⟨⟨m1, m2⟩, m3, _⟩ := n3
    rcases (show i = 0 ∨ i = 1 ∨ i = 2 by lia) with rfl | rfl | rfl <;> rcases (show j = 0 ∨ j = 1 ∨ j = 2 by lia) with rfl | rfl | rfl <;> first | rfl | exact absurd e m1 | exact absurd e m2 | exact absurd e m3 | exact absurd e.symm m1 | exact absurd e.symm m2 | exact absurd e.symm m3

theorem excs_of {p : Program} {loose : List Str} {mean : ExcName → Option Value} {base : Heap} {mg mb : Str → Option Value} {D : Tabs} {Cl : Nat → Addr} {S : Addr} (X : PyProof.Rows.Top p loose mean mg mb base) (N : Kinds base mg badName Cl S)
    (hs : ∀ n ∈ badNames, PyProof.Rows.specOf p n = some ("ValueError.__new__", vbm)) (hD : D.excs = ([("BadRow", 0), ("BadCount", 1), ("BadLetter", 2)] : List (Str × Nat))) : ExcsOk base D (fun k => .ref (Cl k)) mg := fun f k hk => by
  have hm : f ∈ badNames ∧ k < 3 ∧ f = badName k := by
    rw [hD] at hk
    have := lookup_find hk
    simp only [List.mem_cons, List.not_mem_nil, or_false, Prod.mk.injEq] at this
    rcases this with ⟨rfl, rfl⟩ | ⟨rfl, rfl⟩ | ⟨rfl, rfl⟩ <;> exact ⟨by decide, by decide, rfl⟩
  obtain ⟨h1, h2, rfl⟩ := hm
  obtain ⟨C, O, _⟩ := X.ownAt (hs _ h1)
  have hb := O.bound
  rw [(N.each k h2).1] at hb
  cases hb
  exact ⟨_, vbm, _, rfl, O.own, ⟨"ValueError", _, _, F.excBase_ValueError, by decide⟩, "ValueError", _, _, F.excBase_ValueError⟩

/-- a function of the text, as a piece of code -/
theorem code_of {p : Program} {loose : List Str} {mean : ExcName → Option Value} {base : Heap} {mg mb : Str → Option Value} (X : PyProof.Rows.Top p loose mean mg mb base) {r : DefRec} {f : Str} (hr : (PyProof.Rows.recsOf p).find? (fun d => d.name == f) = some r)
    (hp : plainFd (Calls.docDef r.name r.params r.body r.scope .none .none .none) = true) (hf : frameOk r.scope (r.params.args.map (·.arg)) = true) :
    Ex3 fun a o fd => And3 (mg f = some (.ref a)) (fd.scope = r.scope) (CodeAt base a o fd r.body (r.params.args.map (·.arg))):= by
  obtain ⟨a, o, pm, code, doc, h1, h2, h3, h4⟩ := X.fn r (List.mem_of_find?_eq_some hr)
  have hn : r.name = f := by simpa using List.find?_some hr
  rw [hn] at h1
  exact ⟨a, o, _, h1, rfl, ⟨h2, h3, rfl, h4, rfl, rfl, rfl, hf, fun vs hl => bind_plain (fd := Calls.docDef r.name r.params r.body r.scope pm code doc) hp vs hl⟩⟩
end Mine

namespace Mine
open PySem PySem.W PyProof.Rows
noncomputable def vw : Program := view PySem.Challenge.pw_uf060012_07 [1, 2, 3, 4, 6, 7, 8, 9, 11, 12, 13, 14, 15, 16, 17, 19, 20, 21, 22, 23, 24, 26, 27, 29, 30, 31, 32, 33, 35, 36, 37, 38, 39, 40, 41, 42, 43, 44, 45]
theorem def_some : (defOf vw (Str.ofString "law")).isSome = true := by decide +kernel
noncomputable def dk : DefRec × List (Str × Expr) := (defOf vw (Str.ofString "law")).get def_some
theorem left : LeftO PySem.Challenge.rw_uf060012_07.row.prog vw [] (fun s => (xlAt vw [] s && recOk (RowW.records (OpenRow.toRowW PySem.Challenge.rw_uf060012_07.row)) s) && look s) (Hook.obs Hook.none) (Hook.val Hook.none) 6100 := fun w => by kernel_rfl
theorem dk_name : dk.1.name = Str.ofString "law" := by kernel_rfl
theorem lr_some : ((recsOf vw).find? fun d => d.name == Str.ofString "law").isSome = true := by decide +kernel
noncomputable def lr : DefRec := ((recsOf vw).find? fun d => d.name == Str.ofString "law").get lr_some
theorem lr_eq : (recsOf vw).find? (fun d => d.name == Str.ofString "law") = some lr := (Option.some_get lr_some).symm
theorem wr_some : ((recsOf vw).find? fun d => d.name == Str.ofString "_law_word").isSome = true := by decide +kernel
noncomputable def wr : DefRec := ((recsOf vw).find? fun d => d.name == Str.ofString "_law_word").get wr_some
theorem wr_eq : (recsOf vw).find? (fun d => d.name == Str.ofString "_law_word") = some wr := (Option.some_get wr_some).symm
theorem lp_some : (lawOf lr.body).isSome = true := by decide +kernel
noncomputable def lp : LP := (lawOf lr.body).get lp_some
theorem lp_eq : lawOf lr.body = some lp := (Option.some_get lp_some).symm
theorem lp_f : lp.f = Str.ofString "_law_word" := by kernel_rfl
theorem wp_some : (wordOf wr.body).isSome = true := by decide +kernel
noncomputable def wp7 : WP := (wordOf wr.body).get wp_some
theorem wp_eq : wordOf wr.body = some wp7 := (Option.some_get wp_some).symm
theorem wp_sn : wp7.sn = Str.ofString "SumError" := by kernel_rfl
theorem law_ok : LawOk D07 lr.scope lp := ⟨by kernel_rfl, by kernel_rfl, by kernel_rfl, by kernel_rfl, by kernel_rfl, by kernel_rfl, by kernel_rfl⟩
theorem glob3 : (badNames.all fun n => isGlob wr.scope n && !(n == Str.ofString "__debug__")) = true := by kernel_rfl
theorem mem3 {j : Nat} (h : j < 3) : badName j ∈ badNames := by
  rcases (show j = 0 ∨ j = 1 ∨ j = 2 by omega) with rfl | rfl | rfl <;> decide
theorem apart2 : (wp7.en == wp7.kn) = false ∧ (wp7.en == wp7.wn) = false := ⟨by kernel_rfl, by kernel_rfl⟩
theorem word_ok : WordOk D07 badName wr.scope 41 wp7 where
  lenΓ := by kernel_rfl
  fid := by kernel_rfl
  gf := by kernel_rfl
  df := by kernel_rfl
  args := by kernel_rfl
  kinds := by kernel_rfl
  lc := by kernel_rfl
  comp := by kernel_rfl
  last := by kernel_rfl
  gint := by kernel_rfl
  ginst := by kernel_rfl
  gval := by kernel_rfl
  gcn := fun j hj => by simpa using List.all_eq_true.mp glob3 _ (mem3 hj)
  gsn := by kernel_rfl
  dsn := by kernel_rfl
  loce := by kernel_rfl
  dbge := by kernel_rfl
  sle := by kernel_rfl
  ownk := by kernel_rfl
  slk := by kernel_rfl
  nek := beq_eq_false_iff_ne.mp apart2.1
  ownw := by kernel_rfl
  varw := by kernel_rfl
  slw := by kernel_rfl
  new := beq_eq_false_iff_ne.mp apart2.2
  dbgw := by kernel_rfl
  clsw := by kernel_rfl
theorem specs : (badNames.all fun n => specOf vw n == some ("ValueError.__new__", vbm)) = true := by kernel_rfl
end Mine
open PySem PySem.W PyProof.Rows
set_option maxRecDepth 100000 in
set_option maxHeartbeats 8000000 in
theorem PySem.Challenge.cw_uf060012_07_holds : PySem.Challenge.rw_uf060012_07.Holds := by
  refine holds_law (by decide +kernel) fun said => ?_
  refine W.holds_open (q := Mine.vw) (loose := []) (Xt := fun s => (xlAt Mine.vw [] s && recOk (RowW.records (OpenRow.toRowW PySem.Challenge.rw_uf060012_07.row)) s) && Mine.look s) (XP := fun mg h => XL Mine.vw [] mg h ∧ Mine.XC mg h) (Yf := Hook.obs Hook.none) (Ya := Hook.val Hook.none) (YP := Hook.says Hook.none) (d := Mine.dk.1) (kwd := Mine.dk.2) (N := 6100) Mine.left (Hook.of Hook.none) (Hook.keeps Hook.none) (fun s e => ⟨xl_of s (Bool.and_eq_true_iff.mp (Bool.and_eq_true_iff.mp e).1).1, Mine.xc_of s (Bool.and_eq_true_iff.mp e).2⟩) (fun mg h h' x hk => ⟨XL.keeps mg h h' x.1 hk, Mine.XC.keeps mg h h' x.2 hk⟩) (by kernel_rfl) (by kernel_rfl) (by kernel_rfl) (fun s e => recFacts_of (Bool.and_eq_true_iff.mp (Bool.and_eq_true_iff.mp e).1).2) (by kernel_rfl) (by first | assumption | decide +kernel) (by decide +kernel) ⟨rfl, rfl, rfl, rfl, rfl, by decide +kernel⟩ ?hw ?hc
  case hw => w_witness2
  intro w s₀ s₁ mg mb G Y fa o pm cd doc dV kV ho hd hcd hD hmg hg args vals as hpre hlay hrd hwl hlo
  obtain ⟨Cl, S, N, hS, hsys⟩ := G.X.2
  refine Ground.open G ?_
  intro T B D TE TW
  have MG : Mine.Ground s₁.heap Mine.D07 Mine.T mg mb := Mine.ground_of T hsys (by kernel_rfl) (by kernel_rfl) (by kernel_rfl) (by kernel_rfl)
  have EX : Mine.ExcsOk s₁.heap Mine.D07 (fun k => .ref (Cl k)) mg := Mine.excs_of T N (fun n hn => beq_iff_eq.mp (List.all_eq_true.mp Mine.specs n hn)) rfl
  obtain ⟨al, ol, fdl, hml, hsl, Fl⟩ := Mine.code_of T Mine.lr_eq (by kernel_rfl) (by kernel_rfl)
  obtain ⟨aw, ow, fdw, hmw, hsw, Fw⟩ := Mine.code_of T Mine.wr_eq (by kernel_rfl) (by kernel_rfl)
  rw [Mine.dk_name, hml] at hmg
  cases hmg
  rw [← Mine.lp_f] at hmw
  rw [← Mine.wp_sn] at hS
  clear Y G ho hd hcd hD TE TW D B T
  wrow_args hpre hlay hrd hwl hlo
  rename s₁.heap.IsList _ _ => hL
  rename IntsAre _ _ => hI
  refine Mine.at_top07 MG EX (fun _ _ h => by cases h) (fun _ _ hA _ => Mine.zip_sound MG hA) N (fun _ _ => rfl) Fl (by kernel_rfl) Mine.lp_eq (hsl ▸ Mine.law_ok) hmw Fw (by kernel_rfl) Mine.wp_eq (hsw ▸ Mine.word_ok) hS hL hI (by omega) hg (raisesW_false (by wrow_none_raised)) ?_
  wrow_post
