import PyProof.Rows.All
import Wide.All
import OpenK.AllK
import Wide.FinOn
import PySem.Challenge.RW_uf020038_06
open PySem PySem.W PyProof.Rows PySem.Spec PySem.SeqAt PySem.Calls
set_option Elab.async false
set_option maxRecDepth 100000
set_option maxHeartbeats 4000000
set_option linter.all false
set_option bootstrap.genMatcherCode false
set_option genSizeOf false
set_option genSizeOfSpec false
section
namespace Mine

/-! ## abstract values and objects -/
inductive AV where
  | none
  | bool (b : Bool)
  | int (i : Int)
  | str (s : Str)
  | ref (a : Addr)
  deriving DecidableEq, Inhabited

inductive AObj where
  | list (xs : List AV)
  | tuple (xs : List AV)
  | dict (ep : Nat) (es : List (Str × AV))
  | inst (c : String) (es : List (String × AV))
  | range (lo hi : Int)
  | vals (d : Addr)
  | itms (d : Addr)
  | exc (c : String)
  | script (ns : List Int)

/-- the script: the callers' own, never stored into -/
noncomputable def AObj.isS : AObj → Bool
  | .script _ => true
  | _ => false
noncomputable def AObj.isX : AObj → Bool
  | .script _ => true
  | .exc _ => true
  | _ => false

abbrev AHeap := Addr → Option AObj
noncomputable def up (H : AHeap) (a : Addr) (o : AObj) : AHeap := fun b => if b = a then some o else H b
abbrev VV := List (Option AV)

inductive VR : AV → Value → Prop
  | none : VR .none .none
  | bool (b : Bool) : VR (.bool b) (.bool b)
  | int (i : Int) (t : Tok) : VR (.int i) (.int i t)
  | str (s : Str) (t : Tok) (h : PyData.strOk s = true) : VR (.str s) (.str s t)
  | ref (a : Addr) : VR (.ref a) (.ref a)
inductive VRs : List AV → List Value → Prop
  | nil : VRs [] []
  | cons {a v as vs} : VR a v → VRs as vs → VRs (a :: as) (v :: vs)
inductive OVR : Option AV → Option Value → Prop
  | none : OVR Option.none Option.none
  | some {a v} : VR a v → OVR (Option.some a) (Option.some v)
/-- a dict's pairs -/
inductive DRs : List (Str × AV) → List (Str × Value) → Prop
  | nil : DRs [] []
  | cons {k a v as vs} : PyData.strOk k = true → VR a v → DRs as vs → DRs ((k, a) :: as) ((k, v) :: vs)

/-! ## the abstract program -/
/-- for-targets -/
inductive Tg where
  | var (i : Nat)
  | tup (is : List Nat)

inductive X where
  | lit (v : AV)
  | var (i : Nat)
  | bin (op : Operator) (a b : X)
  | neg (a : X)
  | not (a : X)
  | ao (isAnd : Bool) (xs : List X)
  | cmp (op : CmpOp) (a b : X)
  | sub (a i : X)
  | slice (a : X) (lo hi st : Option X)
  | call (f : String) (xs : List X)
  | meth (a : X) (m : String) (xs : List X)
  | prim (f : String) (xs : List X)
  | isinst (a : X) (c : String)
  | list (xs : List X)
  | dict (ks vs : List X)
  | comp (e : X) (k : Nat) (tup : Bool) (it : X) (c : Option X)

/-- assignment targets -/
inductive T where
  | var (i : Nat)
  | tup (is : List Nat)
  | sub (a i : X)

inductive S where
  | assign (t : T) (e : X)
  | expr (e : X)
  | ret (e : X)
  | ite (c : X) (a b : List S)
  | while (c : X) (body : List S)
  | for (t : Tg) (it : X) (body : List S)
  | pass

structure Fn where
  npar : Nat
  slots : List String
  body : List S

/-- the abstract program: all defs by their qualified names; the names of the plain ones; constants; exception classes with what stands above them (themselves first); classes; (class, method), (class, attribute) -/
structure Pg where
  fns : List (String × Fn)
  gfns : List String
  consts : List (String × AV)
  excs : List (String × List String)
  classes : List String
  meths : List (String × String)
  attrs : List (String × String)
  prims : List String

/-! ## concrete resources -/
inductive Res where
  | ns (m : Str → Option Value)
  | cell (v : Option Value)
  | obj (o : Obj)
abbrev RR := Addr → Option Res
noncomputable def rup (R : RR) (a : Addr) (r : Res) : RR := fun b => if b = a then some r else R b

noncomputable def ResAt (h : Heap) (b : Addr) : Res → Prop
  | .ns m => h.Ns b m
  | .cell v => ∃ o, h.get? b = some o ∧ o.data = .cell v
  | .obj o => h.get? b = some o

/-- everything that is fixed for one row -/
structure Cx where
  prog : Program
  w : World
  K : Frag
  base : Heap
  P : Pg
  fa : String → Addr
  ca : String → Addr

noncomputable def attrsAre (es : List (String × AV)) (ents : List DictEntry) : Prop :=
  match es, ents with
  | [], [] => True
  | (n, a) :: r, e :: q => (∃ t, e.key = .str (Str.ofString n) t) ∧ VR a e.val ∧ attrsAre r q
  | _, _ => False

noncomputable def RgOk (a b : Int) : Prop := -(2 ^ 62) < a ∧ a < 2 ^ 62 ∧ -(2 ^ 62) < b ∧ b < 2 ^ 62
noncomputable def ORep (c : Cx) (h : Heap) (D : Addr → Addr) (a : Addr) : AObj → Prop
  | .list xs => ∃ vs n, h.get? a = some (listOf (vs : List Value).toArray n) ∧ VRs xs vs
  | .tuple xs => ∃ vs n, h.get? a = some { cls := .type "tuple", data := .seq (vs : List Value).toArray n } ∧ VRs xs vs
  | .dict ep es => ∃ kvs, h.DictAt (strKind c.prog c.w) a kvs ep ∧ DRs es kvs
  | .inst cl es => h.get? a = some (instObj (c.ca cl) (D a)) ∧ ∃ ents n, h.get? (D a) = some (dictOf ents n) ∧ attrsAre es ents ∧ (es.map (·.1)).Nodup
  | .range lo hi => RgOk lo hi ∧ ∃ t u v, IsRange h a lo hi 1 t u v
  | .vals d => h.get? a = some { cls := .type "dict_values", data := .fields #[.ref d] }
  | .itms d => h.get? a = some { cls := .type "dict_items", data := .fields #[.ref d] }
  | .exc cl => ∃ o, h.get? a = some o ∧ o.cls = .ref (c.ca cl) ∧ ∃ vs, o.data = .fields vs
  | .script ns => ∃ vs n, h.get? a = some (listOf (vs : List Value).toArray n) ∧ VRs (ns.map AV.int) vs

noncomputable def Abv (c : Cx) (a : Addr) (o : AObj) : Prop := (o.isS = false → c.base.get? a = none) ∧ (o.isX = false → c.base.objs.size ≤ a)
structure HR (c : Cx) (R : RR) (D : Addr → Addr) (H : AHeap) (h : Heap) : Prop where
  rep : ∀ a o, H a = some o → ORep c h D a o
  above : ∀ a o, H a = some o → Abv c a o ∧ R a = none
  dict : ∀ a cl es, H a = some (.inst cl es) → c.base.objs.size ≤ D a ∧ R (D a) = none ∧ H (D a) = none
  inj : ∀ a b cl es cl' es', H a = some (.inst cl es) → H b = some (.inst cl' es') → D a = D b → a = b

structure St (c : Cx) (R : RR) (H : AHeap) (h : Heap) : Prop where
  stays : c.base.StaysIn h
  size : c.base.objs.size ≤ h.objs.size
  res : ∀ b r, R b = some r → c.base.objs.size ≤ b ∧ ResAt h b r
  rep : ∃ D, HR c R D H h

/-- the same state but for heap and tokens -/
noncomputable def Sm (s s' : Shared) : Prop := ∃ h tk, s' = { s with heap := h, toks := tk }

/-- frames of the callers are there -/
structure FEnv (R : RR) (e : Env) : Prop where
  kind : e.scope.kind = .function
  frame : e.frame = some e.locals
  gen : e.scope.isGenerator = false
  co : e.scope.isCoroutine = false
  blt : e.builtins = builtinsNs
  glob : e.globals = mainGlobals
  ns : ∃ m, R e.locals = some (.ns m)
noncomputable def Stk (R : RR) (stk : List Env) : Prop := ∀ e ∈ stk, FEnv R e

structure AOk (k n : Nat) (md : Bool) (A : Around) (stk : List Env) : Prop where
  frames : A.frames = some stk
  depth : A.depth + 110 + k + 8 * n < recursionLimit
  units : A.units + 100 + 10 * k + 60 * n < cLine
  hand : md = true → A.handled = none

structure ExcSt (c : Cx) (R : RR) (H : AHeap) (e : Addr) (cl : String) (fl : Value) (h : Heap) : Prop where
  nope : False

/-- a call of an own def meets Q or E -/
noncomputable def CallOK (c : Cx) (n : Nat) (md : Bool) (f : String) (args : List AV) (Q : AV → AHeap → Prop) (E : String → AHeap → Prop) (H : AHeap) : Prop :=
  ∀ (A : Around) (stk : List Env) (R : RR) (s : Shared) (vals : List Value) (Rs : Result → Shared → Prop),
    AOk 0 n md A stk → Stk R stk → St c R H s.heap → VRs args vals →
    (∀ av v s' H', VR av v → St c R H' s'.heap → Sm s s' → Q av H' → Rs (.ok (.ret v)) s') →
    (∀ e cl s' H', ExcSt c R H' e cl .none s'.heap → Sm s s' → E cl H' → Rs (.error (.ref e)) s') →
    codeAny (model c.prog c.w) A (.call (.ref (c.fa f)) ⟨vals, []⟩) Rs s


/-! ## data read from the abstract heap -/
mutual
inductive RD (H : AHeap) : AV → PyData → Prop
  | none : RD H .none .none
  | bool (b : Bool) : RD H (.bool b) (.bool b)
  | int (i : Int) : RD H (.int i) (.int i)
  | str (s : Str) : RD H (.str s) (.str s)
  | list {a xs ds} : H a = some (.list xs) → RDs H xs ds → RD H (.ref a) (.list ds)
  | tuple {a xs ds} : H a = some (.tuple xs) → RDs H xs ds → RD H (.ref a) (.tuple ds)
  | dict {a ep es ds} : H a = some (.dict ep es) → RDs H (es.map (·.2)) ds → RD H (.ref a) (.dict ((es.map fun e => PyData.str e.1).zip ds))
inductive RDs (H : AHeap) : List AV → List PyData → Prop
  | nil : RDs H [] []
  | cons {a d as ds} : RD H a d → RDs H as ds → RDs H (a :: as) (d :: ds)
end

mutual
noncomputable def flatD : PyData → Bool
  | .none | .bool _ | .int _ | .str _ => true
  | .list xs | .tuple xs => flatDs xs
  | .dict _ => false
noncomputable def flatDs : List PyData → Bool
  | [] => true
  | x :: xs => flatD x && flatDs xs
end
noncomputable def okD (d : PyData) : Prop := flatD d = true ∧ d.depth ≤ 64

/-! ## the operations -/
noncomputable def pyIdx (n : Nat) (i : Int) : Option Nat :=
  if 0 ≤ i then (if i < n then some i.toNat else none) else if -(n : Int) ≤ i then some (i + n).toNat else none

noncomputable def lookS (es : List (Str × AV)) (k : Str) : Option AV := (es.find? fun e => e.1 = k).map (·.2)
/-- the pairs behind d[k] = v -/
noncomputable def putS (es : List (Str × AV)) (k : Str) (v : AV) : List (Str × AV) :=
  if (lookS es k).isSome then es.map (fun e => if e.1 = k then (e.1, v) else e) else es ++ [(k, v)]
noncomputable def lookA (es : List (String × AV)) (k : String) : Option AV := (es.find? fun e => e.1 = k).map (·.2)
noncomputable def putA (es : List (String × AV)) (k : String) (v : AV) : List (String × AV) :=
  if (lookA es k).isSome then es.map (fun e => if e.1 = k then (e.1, v) else e) else es ++ [(k, v)]

noncomputable def wtruth (v : AV) (H : AHeap) (Q : Bool → Prop) : Prop :=
  match v with
  | .none => Q false
  | .bool b => Q b
  | .int i => Q (i != 0)
  | .str s => s.length < 2 ^ 62 ∧ Q (s.length != 0)
  | .ref a => match H a with
    | some (.list xs) => xs.length < 2 ^ 62 ∧ Q (!xs.isEmpty)
    | some (.tuple xs) => xs.length < 2 ^ 62 ∧ Q (!xs.isEmpty)
    | _ => False

noncomputable def wii (a b : AV) (P : Int → Int → Prop) : Prop := match a, b with
  | .int x, .int y => P x y
  | _, _ => False
noncomputable def wbin (op : Operator) (a b : AV) (Q : AV → AHeap → Prop) (H : AHeap) : Prop :=
  match op with
  | .Add => (match a, b with
    | .int x, .int y => Q (.int (x + y)) H
    | .str x, .str y => x.length + y.length ≤ sizeLine ∧ Q (.str (x ++ y)) H
    | .ref x, .ref y => (match H x, H y with
      | some (.list xs), some (.list ys) => xs.length + ys.length ≤ sizeLine ∧ ∀ z, H z = none → Q (.ref z) (up H z (.list (xs ++ ys)))
      | _, _ => False)
    | _, _ => False)
  | .Sub => wii a b fun x y => Q (.int (x - y)) H
  | .Mult => wii a b fun x y => IntMulOk x y ∧ Q (.int (x * y)) H
  | .FloorDiv => wii a b fun x y => y ≠ 0 ∧ Q (.int (x.fdiv y)) H
  | .Mod => wii a b fun x y => y ≠ 0 ∧ Q (.int (x.fmod y)) H
  | _ => False

noncomputable def weq (ne : Bool) (a b : AV) (Q : AV → AHeap → Prop) (H : AHeap) : Prop :=
  match a, b with
  | .int x, .int y => Q (.bool ((x == y) != ne)) H
  | .str x, .str y => Q (.bool ((x == y) != ne)) H
  | a, b => ∃ da db, RD H a da ∧ RD H b db ∧ okD da ∧ okD db ∧ Q (.bool ((PyData.eqv da db) != ne)) H

/-- x in c -/
noncomputable def win (no : Bool) (x cc : AV) (Q : AV → AHeap → Prop) (H : AHeap) : Prop :=
  match cc with
  | .ref a => match H a with
    | some (.list ys) => ∃ d ds, RD H x d ∧ RDs H ys ds ∧ okD d ∧ flatDs ds = true ∧ Q (.bool ((ds.any fun y => PyData.eqv y d) != no)) H
    | some (.dict _ es) => match x with
      | .str k => Q (.bool ((lookS es k).isSome != no)) H
      | _ => False
    | _ => False
  | _ => False

noncomputable def wcmp (op : CmpOp) (a b : AV) (Q : AV → AHeap → Prop) (H : AHeap) : Prop :=
  match op with
  | .Eq => weq false a b Q H
  | .NotEq => weq true a b Q H
  | .In => win false a b Q H
  | .NotIn => win true a b Q H
  | .Is => match b with
    | .none => Q (.bool (a == .none)) H
    | .bool c => Q (.bool (a == .bool c)) H
    | _ => False
  | .IsNot => match b with
    | .none => Q (.bool (a != .none)) H
    | .bool c => Q (.bool (a != .bool c)) H
    | _ => False
  | op => match a, b with
    | .int x, .int y => match op with
      | .Lt => Q (.bool (decide (x < y))) H
      | .LtE => Q (.bool (decide (x ≤ y))) H
      | .Gt => Q (.bool (decide (y < x))) H
      | .GtE => Q (.bool (decide (y ≤ x))) H
      | _ => False
    | _, _ => False

noncomputable def wsub (a i : AV) (Q : AV → AHeap → Prop) (H : AHeap) : Prop :=
  match a, i with
  | .ref a, .int i => match H a with
    | some (.list xs) => ∃ j v, pyIdx xs.length i = some j ∧ i < 2 ^ 63 ∧ -(2 ^ 63) ≤ i ∧ xs[j]? = some v ∧ Q v H
    | some (.script ns) => 0 ≤ i ∧ i < 2 ^ 63 ∧ ∃ n, ns[i.toNat]? = some n ∧ Q (.int n) H
    | _ => False
  | .ref a, .str k => match H a with
    | some (.dict _ es) => ∃ v, lookS es k = some v ∧ Q v H
    | _ => False
  | .str s, .int i => 0 ≤ i ∧ i < 2 ^ 63 ∧ ∃ ch, s.cps[i.toNat]? = some ch ∧ Q (.str ⟨#[ch]⟩) H
  | _, _ => False

noncomputable def pickL {α : Type} (xs : List α) (lo hi st : Option Int) : List α :=
  (sliceRange (sliceBounds lo hi st xs.length).1 (sliceBounds lo hi st xs.length).2.1 (sliceBounds lo hi st xs.length).2.2).filterMap (xs[·]?)
noncomputable def partI : Option AV → Option (Option Int)
  | none => some none
  | some (.int i) => some (some i)
  | _ => none
/-- x[lo:hi:st] of a list; x[l:], x[:u] of a str -/
noncomputable def wslice (a : AV) (lo hi st : Option AV) (Q : AV → AHeap → Prop) (H : AHeap) : Prop :=
  match a with
  | .str s => (match lo, hi, st with
    | some (.int l), none, none => 0 ≤ l ∧ l ≤ s.length ∧ s.length ≤ sizeLine ∧ Q (.str ⟨(s.cps.toList.drop l.toNat).toArray⟩) H
    | none, some (.int u), none => 0 ≤ u ∧ u ≤ s.length ∧ s.length ≤ sizeLine ∧ Q (.str ⟨(s.cps.toList.take u.toNat).toArray⟩) H
    | _, _, _ => False)
  | _ => False

noncomputable def vkind (H : AHeap) (v : AV) : Option String :=
  match v with
  | .none => some "NoneType"
  | .bool _ => some "bool"
  | .int _ => some "int"
  | .str _ => some "str"
  | .ref a => match H a with
    | some (.list _) => some "list"
    | some (.tuple _) => some "tuple"
    | some (.dict ..) => some "dict"
    | _ => none
noncomputable def isinstV (P : Pg) (H : AHeap) (v : AV) (ty : String) : Option Bool :=
  if ty = "int" ∨ ty = "bool" ∨ ty = "str" ∨ ty = "list" then (vkind H v).map fun k => k == ty || (k == "bool" && ty == "int")
  else none

noncomputable def wprim (f : String) (vs : List AV) (Q : AV → AHeap → Prop) (H : AHeap) : Prop :=
  if f = "len" then (match vs with
    | [.str s] => s.length < 2 ^ 62 ∧ Q (.int s.length) H
    | [.ref a] => (match H a with
      | some (.list xs) => xs.length < 2 ^ 62 ∧ Q (.int xs.length) H
      | some (.dict _ es) => es.length < 2 ^ 62 ∧ Q (.int es.length) H
      | some (.script ns) => ns.length < 2 ^ 62 ∧ Q (.int ns.length) H
      | _ => False)
    | _ => False)
  else if f = "list" then (match vs with
    | [.ref a] => (match H a with
      | some (.list xs) => xs.length ≤ sizeLine ∧ ∀ z, H z = none → Q (.ref z) (up H z (.list xs))
      | _ => False)
    | _ => False)
  else if f = "int" then (match vs with
    | [.bool b] => Q (.int (if b then 1 else 0)) H
    | _ => False)
  else if f = "range" then (match vs with
    | [.int b] => (-(2 ^ 62) < b ∧ b < 2 ^ 62) ∧ ∀ z, H z = none → Q (.ref z) (up H z (.range 0 b))
    | [.int a, .int b] => (-(2 ^ 62) < a ∧ a < 2 ^ 62 ∧ -(2 ^ 62) < b ∧ b < 2 ^ 62) ∧ ∀ z, H z = none → Q (.ref z) (up H z (.range a b))
    | _ => False)
  else False

noncomputable def lmeths : List String := ["append"]
noncomputable def wmList (p : Addr) (m : String) (vs : List AV) (Q : AV → AHeap → Prop) (H : AHeap) : Prop :=
  match m, vs with
  | "append", [v] => (match H p with
    | some (.list xs) => xs.length ≤ sizeLine ∧ Q .none (up H p (.list (xs ++ [v])))
    | _ => False)
  | _, _ => False

/-! ## loops -/
noncomputable def itemsOf (H : AHeap) : AV → Option (List AV)
  | .ref a => match H a with
    | some (.list xs) => some xs
    | some (.range lo hi) => some ((List.range (hi - lo).toNat).map fun (k : Nat) => AV.int (lo + k))
    | _ => none
  | .str s => some (s.cps.toList.map fun ch => AV.str ⟨#[ch]⟩)
  | _ => none
noncomputable def sameIt (H H' : AHeap) : AV → Prop
  | .ref a => H' a = H a
  | _ => True

noncomputable def WFor (QN : VV → AHeap → Prop) (stp : AV → (VV → AHeap → Prop) → VV → AHeap → Prop) (v : AV) (V : VV) (H : AHeap) : Prop :=
  ∃ xs, itemsOf H v = some xs ∧ ∃ I : Nat → VV → AHeap → Prop, I 0 V H ∧
    ∀ k V' H', I k V' H' → sameIt H H' v ∧ (k = xs.length → QN V' H') ∧ ∀ x, xs[k]? = some x → stp x (I (k + 1)) V' H'
noncomputable def WWhile (QN : VV → AHeap → Prop) (tst : (Bool → AHeap → Prop) → VV → AHeap → Prop) (bd : (VV → AHeap → Prop) → VV → AHeap → Prop) (V : VV) (H : AHeap) : Prop :=
  ∃ I : Nat → VV → AHeap → Prop, (∃ n, I n V H) ∧ ∀ n V' H', I n V' H' → tst (fun b H'' => if b then bd (fun V₂ H₂ => ∃ m, m < n ∧ I m V₂ H₂) V' H'' else QN V' H'') V' H'
noncomputable def WComp (Q : AV → AHeap → Prop) (stp : AV → (Option AV → AHeap → Prop) → AHeap → Prop) (v : AV) (H : AHeap) : Prop :=
  ∃ xs, itemsOf H v = some xs ∧ xs.length ≤ sizeLine ∧ ∃ I : Nat → List AV → AHeap → Prop, I 0 [] H ∧
    ∀ k acc H', I k acc H' → sameIt H H' v ∧ (k = xs.length → ∀ a, H' a = none → Q (.ref a) (up H' a (.list acc))) ∧
      ∀ x, xs[k]? = some x → stp x (fun r H'' => I (k + 1) (acc ++ r.toList) H'') H'

noncomputable def wunpack (k : Nat) (x : AV) (H : AHeap) (Q : List AV → Prop) : Prop :=
  match x with
  | .ref a => match H a with
    | some (.tuple xs) => xs.length = k ∧ Q xs
    | some (.list xs) => xs.length = k ∧ Q xs
    | _ => False
  | _ => False

noncomputable def setAll (V : VV) : List Nat → List AV → VV
  | i :: is, x :: xs => setAll (V.set i (some x)) is xs
  | _, _ => V
noncomputable def wtg (t : Tg) (x : AV) (V : VV) (H : AHeap) (Q : VV → Prop) : Prop :=
  match t with
  | .var i => i < V.length ∧ Q (V.set i (some x))
  | .tup is => wunpack is.length x H fun xs => Q (setAll V is xs)

/-! ## weakest preconditions -/
structure Gx where
  c : Cx
  n : Nat
  md : Bool

mutual
noncomputable def wpX (g : Gx) : X → VV → (AV → AHeap → Prop) → (String → AHeap → Prop) → AHeap → Prop
  | .lit v, _, Q, _, H => Q v H
  | .var i, V, Q, _, H => match V[i]? with
    | some (some v) => Q v H
    | _ => False
  | .bin op a b, V, Q, E, H => wpX g a V (fun x H => wpX g b V (fun y H => wbin op x y Q H) E H) E H
  | .neg a, V, Q, E, H => wpX g a V (fun x H => match x with | .int i => Q (.int (-i)) H | _ => False) E H
  | .not a, V, Q, E, H => wpX g a V (fun x H => wtruth x H fun b => Q (.bool (!b)) H) E H
  | .ao isAnd xs, V, Q, E, H => wpAO g isAnd xs V Q E H
  | .cmp op a b, V, Q, E, H => wpX g a V (fun x H => wpX g b V (fun y H => wcmp op x y Q H) E H) E H
  | .sub a i, V, Q, E, H => wpX g a V (fun x H => wpX g i V (fun y H => wsub x y Q H) E H) E H
  | .slice a lo hi st, V, Q, E, H => wpX g a V (fun x H => wpO g lo V (fun l H => wpO g hi V (fun u H => wpO g st V (fun t H => wslice x l u t Q H) E H) E H) E H) E H
  | .call f xs, V, Q, E, H => wpXs g xs V (fun vs H => CallOK g.c g.n g.md f vs Q E H) E H
  | .meth a m xs, V, Q, E, H => wpX g a V (fun x H => match x with
      | .ref p => (match H p with
        | some (.list _) => lmeths.contains m = true ∧ wpXs g xs V (fun vs H => wmList p m vs Q H) E H
        | _ => False)
      | _ => False) E H
  | .prim f xs, V, Q, E, H => wpXs g xs V (fun vs H => wprim f vs Q H) E H
  | .isinst a ty, V, Q, E, H => wpX g a V (fun x H => match isinstV g.c.P H x ty with | some b => Q (.bool b) H | none => False) E H
  | .list xs, V, Q, E, H => wpXs g xs V (fun vs H => ∀ a, H a = none → Q (.ref a) (up H a (.list vs))) E H
  | .dict ks vs, V, Q, E, H => match ks, vs with
    | [], [] => ∀ a, H a = none → Q (.ref a) (up H a (.dict 0 []))
    | [k], [v] => wpX g k V (fun k H => wpX g v V (fun v H => match k with | .str k => ∀ a ep, H a = none → Q (.ref a) (up H a (.dict ep [(k, v)])) | _ => False) E H) E H
    | _, _ => False
  | .comp e k tup it c, V, Q, E, H => g.md = true ∧ wpX g it V (fun v H => WComp Q (fun x nx H =>
      if tup then wunpack k x H fun xs => wpC g c (V ++ xs.map some) (fun b H => if b then wpX g e (V ++ xs.map some) (fun y H => nx (some y) H) (fun _ _ => False) H else nx none H) (fun _ _ => False) H
      else wpC g c (V ++ [some x]) (fun b H => if b then wpX g e (V ++ [some x]) (fun y H => nx (some y) H) (fun _ _ => False) H else nx none H) (fun _ _ => False) H) v H) E H
noncomputable def wpXs (g : Gx) : List X → VV → (List AV → AHeap → Prop) → (String → AHeap → Prop) → AHeap → Prop
  | [], _, Q, _, H => Q [] H
  | x :: r, V, Q, E, H => wpX g x V (fun v H => wpXs g r V (fun vs H => Q (v :: vs) H) E H) E H
noncomputable def wpAO (g : Gx) (isAnd : Bool) : List X → VV → (AV → AHeap → Prop) → (String → AHeap → Prop) → AHeap → Prop
  | [], _, _, _, _ => False
  | x :: r, V, Q, E, H => wpX g x V (fun v H => match r with
      | [] => Q v H
      | _ :: _ => wtruth v H fun b => if b = isAnd then wpAO g isAnd r V Q E H else Q v H) E H
noncomputable def wpO (g : Gx) : Option X → VV → (Option AV → AHeap → Prop) → (String → AHeap → Prop) → AHeap → Prop
  | none, _, Q, _, H => Q none H
  | some x, V, Q, E, H => wpX g x V (fun v H => Q (some v) H) E H
noncomputable def wpC (g : Gx) : Option X → VV → (Bool → AHeap → Prop) → (String → AHeap → Prop) → AHeap → Prop
  | none, _, Q, _, H => Q true H
  | some x, V, Q, E, H => wpX g x V (fun v H => wtruth v H fun b => Q b H) E H
end

noncomputable def wpT (g : Gx) (t : T) (x : AV) (V : VV) (Q : VV → AHeap → Prop) (E : String → AHeap → Prop) (H : AHeap) : Prop :=
  match t with
  | .var i => i < V.length ∧ Q (V.set i (some x)) H
  | .tup is => wunpack is.length x H fun xs => Q (setAll V is xs) H
  | .sub a i => wpX g a V (fun o H => wpX g i V (fun j H => match o, j with
      | .ref p, .str k => (match H p with
        | some (.dict _ es) => es.length ≤ sizeLine ∧ ∀ ep, Q V (up H p (.dict ep (putS es k x)))
        | _ => False)
      | _, _ => False) E H) E H
noncomputable def excSub (P : Pg) (cl c : String) : Bool := ((P.excs.lookup cl).map (·.contains c)).getD false

mutual
noncomputable def wpS (g : Gx) : S → (VV → AHeap → Prop) → (AV → AHeap → Prop) → (String → VV → AHeap → Prop) → VV → AHeap → Prop
  | .assign t e, QN, _, E, V, H => wpX g e V (fun x H => wpT g t x V QN (fun cl H => E cl V H) H) (fun cl H => E cl V H) H
  | .expr e, QN, _, E, V, H => wpX g e V (fun x H => (∀ a, x ≠ .ref a) ∧ QN V H) (fun cl H => E cl V H) H
  | .ret e, _, QR, E, V, H => wpX g e V QR (fun cl H => E cl V H) H
  | .ite c a b, QN, QR, E, V, H => wpX g c V (fun x H => wtruth x H fun t => if t then wpSs g a QN QR E V H else wpSs g b QN QR E V H) (fun cl H => E cl V H) H
  | .while c body, QN, QR, E, V, H => g.md = true ∧ WWhile QN (fun q V H => wpX g c V (fun x H => wtruth x H fun t => q t H) (fun cl H => E cl V H) H)
      (fun q V H => wpSs g body q QR E V H) V H
  | .for t it body, QN, QR, E, V, H => g.md = true ∧ wpX g it V (fun v H => WFor QN (fun x nx V H => wtg t x V H fun V => wpSs g body nx QR E V H) v V H) (fun cl H => E cl V H) H
  | .pass, QN, _, _, V, H => QN V H
noncomputable def wpSs (g : Gx) : List S → (VV → AHeap → Prop) → (AV → AHeap → Prop) → (String → VV → AHeap → Prop) → VV → AHeap → Prop
  | [], QN, _, _, V, H => QN V H
  | s :: r, QN, QR, E, V, H => wpS g s (fun V H => wpSs g r QN QR E V H) QR E V H
end
section
variable {g : Gx} {V : VV} {E : String → AHeap → Prop} {H : AHeap}
theorem x_e0 {v} {Q : AV → AHeap → Prop} : wpX g (.lit v) V Q E H = (Q v H) := rfl
theorem x_e1 {i} {Q : AV → AHeap → Prop} : wpX g (.var i) V Q E H = (match V[i]? with
    | some (some v) => Q v H
    | _ => False) := rfl
theorem x_e2 {op} {a} {b} {Q : AV → AHeap → Prop} : wpX g (.bin op a b) V Q E H = (wpX g a V (fun x H => wpX g b V (fun y H => wbin op x y Q H) E H) E H) := rfl
theorem x_e3 {a} {Q : AV → AHeap → Prop} : wpX g (.neg a) V Q E H = (wpX g a V (fun x H => match x with | .int i => Q (.int (-i)) H | _ => False) E H) := rfl
theorem x_e4 {a} {Q : AV → AHeap → Prop} : wpX g (.not a) V Q E H = (wpX g a V (fun x H => wtruth x H fun b => Q (.bool (!b)) H) E H) := rfl
theorem x_e5 {isAnd} {xs} {Q : AV → AHeap → Prop} : wpX g (.ao isAnd xs) V Q E H = (wpAO g isAnd xs V Q E H) := rfl
theorem x_e6 {op} {a} {b} {Q : AV → AHeap → Prop} : wpX g (.cmp op a b) V Q E H = (wpX g a V (fun x H => wpX g b V (fun y H => wcmp op x y Q H) E H) E H) := rfl
theorem x_e7 {a} {i} {Q : AV → AHeap → Prop} : wpX g (.sub a i) V Q E H = (wpX g a V (fun x H => wpX g i V (fun y H => wsub x y Q H) E H) E H) := rfl
theorem x_e8 {a} {lo} {hi} {st} {Q : AV → AHeap → Prop} : wpX g (.slice a lo hi st) V Q E H = (wpX g a V (fun x H => wpO g lo V (fun l H => wpO g hi V (fun u H => wpO g st V (fun t H => wslice x l u t Q H) E H) E H) E H) E H) := rfl
theorem x_e9 {f} {xs} {Q : AV → AHeap → Prop} : wpX g (.call f xs) V Q E H = (wpXs g xs V (fun vs H => CallOK g.c g.n g.md f vs Q E H) E H) := rfl
theorem x_e10 {a} {m} {xs} {Q : AV → AHeap → Prop} : wpX g (.meth a m xs) V Q E H = (wpX g a V (fun x H => match x with
      | .ref p => (match H p with
        | some (.list _) => lmeths.contains m = true ∧ wpXs g xs V (fun vs H => wmList p m vs Q H) E H
        | _ => False)
      | _ => False) E H) := rfl
theorem x_e11 {f} {xs} {Q : AV → AHeap → Prop} : wpX g (.prim f xs) V Q E H = (wpXs g xs V (fun vs H => wprim f vs Q H) E H) := rfl
theorem x_e12 {a} {ty} {Q : AV → AHeap → Prop} : wpX g (.isinst a ty) V Q E H = (wpX g a V (fun x H => match isinstV g.c.P H x ty with | some b => Q (.bool b) H | none => False) E H) := rfl
theorem x_e13 {xs} {Q : AV → AHeap → Prop} : wpX g (.list xs) V Q E H = (wpXs g xs V (fun vs H => ∀ a, H a = none → Q (.ref a) (up H a (.list vs))) E H) := rfl
theorem x_d0 {Q : AV → AHeap → Prop} : wpX g (.dict [] []) V Q E H = (∀ a, H a = none → Q (.ref a) (up H a (.dict 0 []))) := rfl
theorem x_d1 {k v : X} {Q : AV → AHeap → Prop} : wpX g (.dict [k] [v]) V Q E H = (wpX g k V (fun k H => wpX g v V (fun v H => match k with | .str k => ∀ a ep, H a = none → Q (.ref a) (up H a (.dict ep [(k, v)])) | _ => False) E H) E H) := rfl
theorem x_e15 {e} {k} {tup} {it} {c} {Q : AV → AHeap → Prop} : wpX g (.comp e k tup it c) V Q E H = (g.md = true ∧ wpX g it V (fun v H => WComp Q (fun x nx H =>
      if tup then wunpack k x H fun xs => wpC g c (V ++ xs.map some) (fun b H => if b then wpX g e (V ++ xs.map some) (fun y H => nx (some y) H) (fun _ _ => False) H else nx none H) (fun _ _ => False) H
      else wpC g c (V ++ [some x]) (fun b H => if b then wpX g e (V ++ [some x]) (fun y H => nx (some y) H) (fun _ _ => False) H else nx none H) (fun _ _ => False) H) v H) E H) := rfl
theorem xs_e0 {Q : List AV → AHeap → Prop} : wpXs g ([]) V Q E H = (Q [] H) := rfl
theorem xs_e1 {x} {r} {Q : List AV → AHeap → Prop} : wpXs g (x :: r) V Q E H = (wpX g x V (fun v H => wpXs g r V (fun vs H => Q (v :: vs) H) E H) E H) := rfl
theorem ao_e0 {isAnd : Bool} {Q : AV → AHeap → Prop} : wpAO g isAnd ([]) V Q E H = (False) := rfl
theorem ao_e1 {x} {r} {isAnd : Bool} {Q : AV → AHeap → Prop} : wpAO g isAnd (x :: r) V Q E H = (wpX g x V (fun v H => match r with
      | [] => Q v H
      | _ :: _ => wtruth v H fun b => if b = isAnd then wpAO g isAnd r V Q E H else Q v H) E H) := rfl
theorem xo_e0 {Q : Option AV → AHeap → Prop} : wpO g (none) V Q E H = (Q none H) := rfl
theorem xo_e1 {x} {Q : Option AV → AHeap → Prop} : wpO g (some x) V Q E H = (wpX g x V (fun v H => Q (some v) H) E H) := rfl
theorem xc_e0 {Q : Bool → AHeap → Prop} : wpC g (none) V Q E H = (Q true H) := rfl
theorem xc_e1 {x} {Q : Bool → AHeap → Prop} : wpC g (some x) V Q E H = (wpX g x V (fun v H => wtruth v H fun b => Q b H) E H) := rfl
end
section
variable {g : Gx} {QN : VV → AHeap → Prop} {QR : AV → AHeap → Prop} {E : String → VV → AHeap → Prop} {V : VV} {H : AHeap}
theorem st_e0 {t} {e} : wpS g (.assign t e) QN QR E V H = (wpX g e V (fun x H => wpT g t x V QN (fun cl H => E cl V H) H) (fun cl H => E cl V H) H) := rfl
theorem st_e1 {e} : wpS g (.expr e) QN QR E V H = (wpX g e V (fun x H => (∀ a, x ≠ .ref a) ∧ QN V H) (fun cl H => E cl V H) H) := rfl
theorem st_e2 {e} : wpS g (.ret e) QN QR E V H = (wpX g e V QR (fun cl H => E cl V H) H) := rfl
theorem st_e3 {c} {a} {b} : wpS g (.ite c a b) QN QR E V H = (wpX g c V (fun x H => wtruth x H fun t => if t then wpSs g a QN QR E V H else wpSs g b QN QR E V H) (fun cl H => E cl V H) H) := rfl
theorem st_e4 {c} {body} : wpS g (.while c body) QN QR E V H = (g.md = true ∧ WWhile QN (fun q V H => wpX g c V (fun x H => wtruth x H fun t => q t H) (fun cl H => E cl V H) H)
      (fun q V H => wpSs g body q QR E V H) V H) := rfl
theorem st_e5 {t} {it} {body} : wpS g (.for t it body) QN QR E V H = (g.md = true ∧ wpX g it V (fun v H => WFor QN (fun x nx V H => wtg t x V H fun V => wpSs g body nx QR E V H) v V H) (fun cl H => E cl V H) H) := rfl
theorem st_e6 : wpS g (.pass) QN QR E V H = (QN V H) := rfl
theorem ss_e0 : wpSs g ([]) QN QR E V H = (QN V H) := rfl
theorem ss_e1 {s} {r} : wpSs g (s :: r) QN QR E V H = (wpS g s (fun V H => wpSs g r QN QR E V H) QR E V H) := rfl
end

end Mine

namespace Mine

theorem lts {h : Heap} {a : Addr} {o : Obj} (e : h.get? a = some o) : @LT.lt Nat _ a h.objs.size := Heap.lt_size e
theorem leN {a b : Nat} (h : a ≤ b) : a ≤ b := h
theorem up_same {H : AHeap} {a : Addr} {o : AObj} : up H a o a = some o := by simp [up]
theorem up_other {H : AHeap} {a b : Addr} {o : AObj} (h : b ≠ a) : up H a o b = H b := by simp [up, h]
theorem rup_same {R : RR} {a : Addr} {r : Res} : rup R a r a = some r := by simp [rup]
theorem rup_other {R : RR} {a b : Addr} {r : Res} (h : b ≠ a) : rup R a r b = R b := by simp [rup, h]

theorem get_none {h : Heap} {a : Addr} (e : h.objs.size ≤ a) : h.get? a = none := by
  cases q : h.get? a with
  | none => rfl
  | some o => have := lts q; have := leN e; omega
theorem abv {c : Cx} {a : Addr} {o : AObj} (h : c.base.objs.size ≤ a) : Abv c a o := ⟨fun _ => get_none h, fun _ => h⟩

theorem VRs.length {as vs} (h : VRs as vs) : as.length = vs.length := by
  induction h with
  | nil => rfl
  | cons _ _ ih => simp [ih]
theorem VRs.get {as vs} (h : VRs as vs) : ∀ {i : Nat} {a : AV}, as[i]? = some a → ∃ v, vs[i]? = some v ∧ VR a v := by
  induction h with
  | nil => intro i a e; simp at e
  | cons ha _ ih =>
    intro i a e
    cases i with
    | zero => simp at e; subst e; exact ⟨_, by simp, ha⟩
    | succ i => simp at e; obtain ⟨v, h1, h2⟩ := ih e; exact ⟨v, by simpa using h1, h2⟩
theorem VRs.append {as vs bs us} (h : VRs as vs) (k : VRs bs us) : VRs (as ++ bs) (vs ++ us) := by
  induction h with
  | nil => exact k
  | cons ha _ ih => exact .cons ha ih
theorem VRs.one {a v} (h : VR a v) : VRs [a] [v] := .cons h .nil
theorem VRs.drop {as vs} (h : VRs as vs) (n : Nat) : VRs (as.drop n) (vs.drop n) := by
  induction h generalizing n with
  | nil => simp; exact .nil
  | cons ha hr ih => cases n with
    | zero => exact .cons ha hr
    | succ n => exact ih n
theorem VRs.take {as vs} (h : VRs as vs) (n : Nat) : VRs (as.take n) (vs.take n) := by
  induction h generalizing n with
  | nil => simp; exact .nil
  | cons ha hr ih => cases n with
    | zero => exact .nil
    | succ n => exact .cons ha (ih n)
theorem VRs.set {as vs} (h : VRs as vs) {a v} (hv : VR a v) (n : Nat) : VRs (as.set n a) (vs.set n v) := by
  induction h generalizing n with
  | nil => exact .nil
  | cons ha hr ih => cases n with
    | zero => exact .cons hv hr
    | succ n => exact .cons ha (ih n)

theorem ORep.there {c : Cx} {h : Heap} {D : Addr → Addr} {a : Addr} {o : AObj} (r : ORep c h D a o) : ∃ ob, h.get? a = some ob := by
  cases o with
  | list => obtain ⟨_, _, e, _⟩ := r; exact ⟨_, e⟩
  | tuple => obtain ⟨_, _, e, _⟩ := r; exact ⟨_, e⟩
  | dict => obtain ⟨_, ⟨_, _, e, _⟩, _⟩ := r; exact ⟨_, e⟩
  | inst => exact ⟨_, r.1⟩
  | range => obtain ⟨_, _, _, _, e⟩ := r; exact ⟨_, e⟩
  | vals => exact ⟨_, r⟩
  | itms => exact ⟨_, r⟩
  | exc => obtain ⟨_, e, _⟩ := r; exact ⟨_, e⟩
  | script => obtain ⟨_, _, e, _⟩ := r; exact ⟨_, e⟩

theorem ORep.agree {c : Cx} {h h' : Heap} {D D' : Addr → Addr} {a : Addr} {o : AObj} (r : ORep c h D a o) (e : ∀ ob, h.get? a = some ob → h'.get? a = some ob)
    (e2 : ∀ cl es, o = .inst cl es → D' a = D a ∧ ∀ ob, h.get? (D a) = some ob → h'.get? (D a) = some ob) : ORep c h' D' a o := by
  cases o with
  | list => obtain ⟨vs, n, q, x⟩ := r; exact ⟨vs, n, e _ q, x⟩
  | tuple => obtain ⟨vs, n, q, x⟩ := r; exact ⟨vs, n, e _ q, x⟩
  | dict => obtain ⟨kvs, ⟨o, es, q, x⟩, y⟩ := r; exact ⟨kvs, ⟨o, es, e _ q, x⟩, y⟩
  | inst cl es =>
    obtain ⟨q, ents, n, q2, x⟩ := r
    obtain ⟨d1, d2⟩ := e2 cl es rfl
    exact ⟨by rw [d1]; exact e _ q, ents, n, by rw [d1]; exact d2 _ q2, x⟩
  | range => obtain ⟨z, t, u, v, q⟩ := r; exact ⟨z, t, u, v, e _ q⟩
  | vals => exact e _ r
  | itms => exact e _ r
  | exc => obtain ⟨o, q, x⟩ := r; exact ⟨o, e _ q, x⟩
  | script => obtain ⟨vs, n, q, x⟩ := r; exact ⟨vs, n, e _ q, x⟩

theorem ResAt.agree {h h' : Heap} {b : Addr} {r : Res} (x : ResAt h b r) (e : ∀ ob, h.get? b = some ob → h'.get? b = some ob) : ResAt h' b r := by
  cases r with
  | ns m => obtain ⟨o, es, ep, q, y⟩ := x; exact ⟨o, es, ep, e _ q, y⟩
  | cell v => obtain ⟨o, q, y⟩ := x; exact ⟨o, e _ q, y⟩
  | obj o => exact e _ x
theorem ResAt.there {h : Heap} {b : Addr} {r : Res} (x : ResAt h b r) : ∃ ob, h.get? b = some ob := by
  cases r with
  | ns m => obtain ⟨o, es, ep, q, y⟩ := x; exact ⟨o, q⟩
  | cell v => obtain ⟨o, q, y⟩ := x; exact ⟨o, q⟩
  | obj o => exact ⟨_, x⟩

section
variable {c : Cx} {R R' : RR} {H : AHeap} {h h' : Heap}

theorem St.weaken (S : St c R' H h) (k : ∀ b r, R b = some r → R' b = some r) : St c R H h := by
  obtain ⟨s1, s2, s3, D, s4⟩ := S
  have nn : ∀ a, R' a = none → R a = none := fun a e => by
    cases q : R a with
    | none => rfl
    | some r => rw [k a r q] at e; cases e
  exact ⟨s1, s2, fun b r e => s3 b r (k b r e), D, ⟨s4.rep, fun a o e => ⟨(s4.above a o e).1, nn _ (s4.above a o e).2⟩,
    fun a cl es e => ⟨(s4.dict a cl es e).1, nn _ (s4.dict a cl es e).2.1, (s4.dict a cl es e).2.2⟩, s4.inj⟩⟩

theorem St.keeps (S : St c R H h) (k : ∀ b o, h.get? b = some o → h'.get? b = some o) (hs : h.objs.size ≤ h'.objs.size) : St c R H h' := by
  obtain ⟨s1, s2, s3, D, s4⟩ := S
  exact ⟨fun b o e => k b o (s1 b o e), Nat.le_trans s2 hs, fun b r e => ⟨(s3 b r e).1, (s3 b r e).2.agree fun _ => k _ _⟩, D,
    ⟨fun a o e => (s4.rep a o e).agree (fun _ => k _ _) fun _ _ _ => ⟨rfl, fun _ => k _ _⟩, s4.above, s4.dict, s4.inj⟩⟩
theorem St.push (S : St c R H h) (o : Obj) : St c R H (h.push o) := S.keeps (fun _ _ e => Heap.get?_push_of_some o e) (by rw [Heap.size_push]; omega)

theorem St.freshH (S : St c R H h) : H h.objs.size = none := by
  cases q : H h.objs.size with
  | none => rfl
  | some o =>
    obtain ⟨D, s4⟩ := S.rep
    obtain ⟨ob, e⟩ := (s4.rep _ _ q).there
    exact absurd (Heap.lt_size e) (Nat.lt_irrefl _)
theorem St.freshR (S : St c R H h) : R h.objs.size = none := by
  cases q : R h.objs.size with
  | none => rfl
  | some o =>
    obtain ⟨ob, e⟩ := (S.res _ _ q).2.there
    exact absurd (Heap.lt_size e) (Nat.lt_irrefl _)

/-- an address that nobody holds: at or past the heap's end -/
theorem St.freeH (S : St c R H h) {x : Addr} (hx : h.objs.size ≤ x) : H x = none := by
  cases q : H x with
  | none => rfl
  | some o =>
    obtain ⟨D, s4⟩ := S.rep
    obtain ⟨ob, e⟩ := (s4.rep _ _ q).there
    have := lts e; have := leN hx; omega
theorem St.freeR (S : St c R H h) {x : Addr} (hx : h.objs.size ≤ x) : R x = none := by
  cases q : R x with
  | none => rfl
  | some o =>
    obtain ⟨ob, e⟩ := (S.res _ _ q).2.there
    have := lts e; have := leN hx; omega

/-- a heap that has grown bears one more object at a new place -/
theorem St.newObj (S : St c R H h) {x : Addr} {o : AObj} (hx : h.objs.size ≤ x) (k : ∀ b ob, h.get? b = some ob → h'.get? b = some ob) (hs : h.objs.size ≤ h'.objs.size)
    (hni : ∀ cl es, o ≠ .inst cl es) (ho : ∀ D, ORep c h' D x o) : H x = none ∧ St c R (up H x o) h' := by
  refine ⟨S.freeH hx, ?_⟩
  have hRx := S.freeR hx
  have hb := S.size
  have S' := S.keeps k hs
  obtain ⟨s1, s2, s3, D, s4⟩ := S'
  have hD : ∀ a cl es, H a = some (.inst cl es) → D a ≠ x := fun a cl es e q => by
    obtain ⟨D0, s40⟩ := S.rep
    obtain ⟨q1, ents, n, q2, _⟩ := s4.rep a _ e
    obtain ⟨p1, ents', n', p2, _⟩ := s40.rep a _ e
    have := k _ _ p1
    rw [q1] at this
    have hd : D a = D0 a := by injection this with this; injection this with _ z; exact Option.some.inj z
    have hlt := lts p2; have hx' := leN hx
    rw [← hd, q] at hlt; omega
  refine ⟨s1, s2, s3, D, ⟨fun a ao e => ?_, fun a ao e => ?_, fun a cl es e => ?_, fun a b cl es cl' es' e e' => ?_⟩⟩
  · by_cases q : a = x
    · subst q; rw [up_same] at e; cases e; exact ho D
    · rw [up_other q] at e; exact s4.rep a ao e
  · by_cases q : a = x
    · subst q; exact ⟨abv (by have := leN hx; omega), hRx⟩
    · rw [up_other q] at e; exact s4.above a ao e
  · by_cases q : a = x
    · subst q; rw [up_same] at e; cases e; exact absurd rfl (hni cl es)
    · rw [up_other q] at e
      obtain ⟨y1, y2, y3⟩ := s4.dict a cl es e
      exact ⟨y1, y2, by rw [up_other (hD a cl es e)]; exact y3⟩
  · by_cases q : a = x
    · subst q; rw [up_same] at e; cases e; exact absurd rfl (hni cl es)
    · by_cases q' : b = x
      · subst q'; rw [up_same] at e'; cases e'; exact absurd rfl (hni cl' es')
      · rw [up_other q] at e; rw [up_other q'] at e'; exact s4.inj a b cl es cl' es' e e'

theorem St.newRes (S : St c R H h) {x : Addr} {r : Res} (hx : h.objs.size ≤ x) (k : ∀ b ob, h.get? b = some ob → h'.get? b = some ob) (hs : h.objs.size ≤ h'.objs.size)
    (hr : ResAt h' x r) : R x = none ∧ H x = none ∧ St c (rup R x r) H h' := by
  refine ⟨S.freeR hx, S.freeH hx, ?_⟩
  have hHx := S.freeH hx
  have hb := S.size
  obtain ⟨D0, s40⟩ := S.rep
  have S' := S.keeps k hs
  obtain ⟨s1, s2, s3, D, s4⟩ := S'
  have hD : ∀ a cl es, H a = some (.inst cl es) → D a ≠ x := fun a cl es e q => by
    obtain ⟨q1, ents, n, q2, _⟩ := s4.rep a _ e
    obtain ⟨p1, ents', n', p2, _⟩ := s40.rep a _ e
    have := k _ _ p1
    rw [q1] at this
    have hd : D a = D0 a := by injection this with this; injection this with _ z; exact Option.some.inj z
    have hlt := lts p2; have hx' := leN hx
    rw [← hd, q] at hlt; omega
  refine ⟨s1, s2, fun b rr e => ?_, D, ⟨s4.rep, fun a ao e => ?_, fun a cl es e => ?_, s4.inj⟩⟩
  · by_cases q : b = x
    · subst q; rw [rup_same] at e; cases e; exact ⟨by omega, hr⟩
    · rw [rup_other q] at e; exact s3 b rr e
  · obtain ⟨y1, y2⟩ := s4.above a ao e
    exact ⟨y1, by rw [rup_other (fun q => by rw [q, hHx] at e; cases e)]; exact y2⟩
  · obtain ⟨y1, y2, y3⟩ := s4.dict a cl es e
    exact ⟨y1, by rw [rup_other (hD a cl es e)]; exact y2, y3⟩

/-- a held object turned -/
theorem St.setRes (S : St c R H h) {x : Addr} {r r' : Res} (hx : R x = some r) (hs : Heap.SameBut x h h') (hr : ResAt h' x r') : St c (rup R x r') H h' := by
  obtain ⟨s1, s2, s3, D, s4⟩ := S
  have bx : c.base.get? x = none := by
    cases q : c.base.get? x with
    | none => rfl
    | some o => have := lts q; have := leN (s3 x r hx).1; omega
  refine ⟨fun b o e => ?_, by rw [hs.1]; exact s2, fun b rr e => ?_, D, ⟨fun a ao e => ?_, fun a ao e => ?_, fun a cl es e => ?_, s4.inj⟩⟩
  · rw [hs.2 b (fun q => by rw [q, bx] at e; cases e)]; exact s1 b o e
  · by_cases q : b = x
    · subst q; rw [rup_same] at e; cases e; exact ⟨(s3 b r hx).1, hr⟩
    · rw [rup_other q] at e; exact ⟨(s3 b rr e).1, (s3 b rr e).2.agree fun ob z => by rw [hs.2 b q]; exact z⟩
  · refine (s4.rep a ao e).agree (fun ob z => ?_) fun cl es eo => ⟨rfl, fun ob z => ?_⟩
    · rw [hs.2 a (fun q => by have := (s4.above a ao e).2; rw [q, hx] at this; cases this)]; exact z
    · subst eo; rw [hs.2 _ (fun q => by have := (s4.dict a cl es e).2.1; rw [q, hx] at this; cases this)]; exact z
  · obtain ⟨y1, y2⟩ := s4.above a ao e
    exact ⟨y1, by rw [rup_other (fun q => by rw [q, hx] at y2; cases y2)]; exact y2⟩
  · obtain ⟨y1, y2, y3⟩ := s4.dict a cl es e
    exact ⟨y1, by rw [rup_other (fun q => by rw [q, hx] at y2; cases y2)]; exact y2, y3⟩

theorem St.setObj (S : St c R H h) {x : Addr} {o o' : AObj} (hx : H x = some o) (hni' : ∀ cl es, o' ≠ .inst cl es) (hs : Heap.SameBut x h h')
    (ho : ∀ D, ORep c h' D x o') (hne : o.isX = false := by rfl) : St c R (up H x o') h' := by
  obtain ⟨s1, s2, s3, D, s4⟩ := S
  have bx : c.base.get? x = none := get_none ((s4.above x _ hx).1.2 hne)
  refine ⟨fun b o e => ?_, by rw [hs.1]; exact s2, fun b rr e => ?_, D, ⟨fun a ao e => ?_, fun a ao e => ?_, fun a cl es e => ?_, fun a b cl es cl' es' e e' => ?_⟩⟩
  · rw [hs.2 b (fun q => by rw [q, bx] at e; cases e)]; exact s1 b o e
  · exact ⟨(s3 b rr e).1, (s3 b rr e).2.agree fun ob z => by rw [hs.2 b (fun q => by have := (s4.above x _ hx).2; rw [q, this] at e; cases e)]; exact z⟩
  · by_cases q : a = x
    · subst q; rw [up_same] at e; cases e; exact ho D
    · rw [up_other q] at e
      refine (s4.rep a ao e).agree (fun ob z => by rw [hs.2 a q]; exact z) fun cl es eo => ⟨rfl, fun ob z => ?_⟩
      subst eo; rw [hs.2 _ (fun q => by have := (s4.dict a cl es e).2.2; rw [q, hx] at this; cases this)]; exact z
  · by_cases q : a = x
    · subst q; exact ⟨abv ((s4.above a _ hx).1.2 hne), (s4.above a _ hx).2⟩
    · rw [up_other q] at e; exact s4.above a ao e
  · by_cases q : a = x
    · subst q; rw [up_same] at e; cases e; exact absurd rfl (hni' cl es)
    · rw [up_other q] at e
      obtain ⟨y1, y2, y3⟩ := s4.dict a cl es e
      exact ⟨y1, y2, by rw [up_other (fun q => by rw [q, hx] at y3; cases y3)]; exact y3⟩
  · by_cases q : a = x
    · subst q; rw [up_same] at e; cases e; exact absurd rfl (hni' cl es)
    · by_cases q' : b = x
      · subst q'; rw [up_same] at e'; cases e'; exact absurd rfl (hni' cl' es')
      · rw [up_other q] at e; rw [up_other q'] at e'; exact s4.inj a b cl es cl' es' e e'

end

theorem Sm.refl (s : Shared) : Sm s s := ⟨s.heap, s.toks, rfl⟩
theorem Sm.mk' (s : Shared) (h : Heap) (tk : Nat) : Sm s { s with heap := h, toks := tk } := ⟨h, tk, rfl⟩
theorem Sm.trans {s s' s'' : Shared} (x : Sm s s') (y : Sm s' s'') : Sm s s'' := by
  obtain ⟨h, t, rfl⟩ := x
  obtain ⟨h', t', rfl⟩ := y
  exact ⟨h', t', rfl⟩

end Mine

namespace Mine

/-- what the row's ground gives -/
structure Cx.Ok (c : Cx) (mg mb : Str → Option Value) : Prop where
  kin : c.K.In c.base
  g : c.base.Ns mainGlobals mg
  b : c.base.Ns builtinsNs mb
  nolimit : c.base.NoLimit
  builtins : ∀ x : Str, x ≠ "__name__" → mb x = bootBuiltins x
  seer : c.base.NoSeer
  tree : c.prog.given.tree = none
  top : ∃ p loose, TopRead p loose mg mb c.base

/-- where code runs: the frames around it -/
structure Ev (g : Gx) (A : Around) (R : RR) (e : Env) (l : List Env) : Prop where
  aok : AOk 4 g.n g.md A (e :: l)
  stk : Stk R (e :: l)

noncomputable def TQ (g : Gx) (R : RR) (s₀ : Shared) (Q : AV → AHeap → Prop) (v : Value) (s' : Shared) : Prop := ∃ av H', VR av v ∧ St g.c R H' s'.heap ∧ Sm s₀ s' ∧ Q av H'
noncomputable def TB (g : Gx) (R : RR) (s₀ : Shared) (Q : Bool → AHeap → Prop) (b : Bool) (s' : Shared) : Prop := ∃ H', St g.c R H' s'.heap ∧ Sm s₀ s' ∧ Q b H'
noncomputable def TE (g : Gx) (R : RR) (s₀ : Shared) (E : String → AHeap → Prop) (e : Value) (s' : Shared) : Prop :=
  ∃ a cl H', e = .ref a ∧ ExcSt g.c R H' a cl .none s'.heap ∧ Sm s₀ s' ∧ E cl H'

theorem Sm.step {s₀ s : Shared} (x : Sm s₀ s) (h : Heap) (tk : Nat) : Sm s₀ { s with heap := h, toks := tk } := x.trans ⟨h, tk, rfl⟩
theorem Sm.toks {s₀ s : Shared} (x : Sm s₀ s) (tk : Nat) : Sm s₀ { s with toks := tk } := x.trans ⟨s.heap, tk, rfl⟩
theorem Sm.heap {s₀ s : Shared} (x : Sm s₀ s) (h : Heap) : Sm s₀ { s with heap := h } := x.trans ⟨h, s.toks, rfl⟩

section
variable {g : Gx} {A : Around} {R : RR} {s₀ s : Shared} {H : AHeap} {E : Value → Shared → Prop} {Q : AV → AHeap → Prop}

theorem TQ.pure {a : AV} {v : Value} (hv : VR a v) (S : St g.c R H s.heap) (m : Sm s₀ s) (q : Q a H) : TQ g R s₀ Q v s := ⟨a, H, hv, S, m, q⟩
theorem TQ.toks {a : AV} {v : Value} {tk : Nat} (hv : VR a v) (S : St g.c R H s.heap) (m : Sm s₀ s) (q : Q a H) : TQ g R s₀ Q v { s with toks := tk } := ⟨a, H, hv, S, m.toks tk, q⟩

theorem isList_of {a : Addr} {xs : List AV} (S : St g.c R H s.heap) (e : H a = some (.list xs)) : ∃ vs n, s.heap.get? a = some (listOf (vs : List Value).toArray n) ∧ VRs xs vs ∧ s.heap.IsList a vs.toArray := by
  obtain ⟨D, r⟩ := S.rep
  obtain ⟨vs, n, h1, h2⟩ := r.rep a _ e
  exact ⟨vs, n, h1, h2, _, h1, rfl, n, rfl⟩
theorem isTup_of {a : Addr} {xs : List AV} (S : St g.c R H s.heap) (e : H a = some (.tuple xs)) : ∃ vs n, s.heap.get? a = some { cls := .type "tuple", data := .seq (vs : List Value).toArray n } ∧ VRs xs vs ∧ IsTup s.heap a vs.toArray := by
  obtain ⟨D, r⟩ := S.rep
  obtain ⟨vs, n, h1, h2⟩ := r.rep a _ e
  exact ⟨vs, n, h1, h2, _, h1, rfl, n, rfl⟩
theorem isDict_of {a : Addr} {ep : Nat} {es : List (Str × AV)} (S : St g.c R H s.heap) (e : H a = some (.dict ep es)) : ∃ kvs, s.heap.DictAt (strKind g.c.prog g.c.w) a kvs ep ∧ DRs es kvs := by
  obtain ⟨D, r⟩ := S.rep
  exact r.rep a _ e
theorem above_of {a : Addr} {o : AObj} (S : St g.c R H s.heap) (e : H a = some o) (hne : o.isX = false := by rfl) : g.c.base.objs.size ≤ a := by
  obtain ⟨D, r⟩ := S.rep
  exact (r.above a o e).1.2 hne

theorem DRs.keys {es kvs} (h : DRs es kvs) : kvs.map (·.1) = es.map (·.1) := by
  induction h with
  | nil => rfl
  | cons _ _ _ ih => simp [ih]
theorem DRs.length {es kvs} (h : DRs es kvs) : kvs.length = es.length := by
  induction h with
  | nil => rfl
  | cons _ _ _ ih => simp [ih]
theorem DRs.look {es kvs} (h : DRs es kvs) (k : Str) : OVR (lookS es k) (valueAt kvs k) := by
  induction h with
  | nil => exact .none
  | cons hk hv _ ih =>
    rename_i k' a v as vs _
    simp only [lookS, valueAt, List.find?_cons] at ih ⊢
    by_cases q : k' = k
    · simp [q]; exact .some hv
    · simp [q]; exact ih
theorem DRs.vals {es kvs} (h : DRs es kvs) : VRs (es.map (·.2)) (kvs.map (·.2)) := by
  induction h with
  | nil => exact .nil
  | cons _ hv _ ih => exact .cons hv ih

theorem OVR.isSome {a v} (h : OVR a v) : v.isSome = a.isSome := by cases h <;> rfl

/-- a new list at the heap's end -/
theorem newListT {xs : List AV} {vs : List Value} {n : Nat} {h' : Heap} {x : Addr} {tk : Nat} (S : St g.c R H s.heap) (m : Sm s₀ s) (hv : VRs xs vs) (hx : s.heap.objs.size ≤ x)
    (k : ∀ b ob, s.heap.get? b = some ob → h'.get? b = some ob) (hs : s.heap.objs.size ≤ h'.objs.size) (ho : h'.get? x = some (listOf vs.toArray n))
    (q : ∀ z, H z = none → Q (.ref z) (up H z (.list xs))) : TQ g R s₀ Q (.ref x) { s with heap := h', toks := tk } := by
  obtain ⟨e, S'⟩ := S.newObj (o := .list xs) hx k hs (by intro _ _ z; cases z) (fun D => ⟨vs, n, ho, hv⟩)
  exact ⟨.ref x, _, .ref x, S', m.step _ _, q x e⟩

theorem s_truth {v : Value} {a : AV} {Qb : Bool → AHeap → Prop} (hv : VR a v) (S : St g.c R H s.heap) (m : Sm s₀ s) (q : wtruth a H (fun b => Qb b H)) :
    wpAny (model g.c.prog g.c.w) A (truthy v) (TB g R s₀ Qb) E s := by
  cases hv with
  | none => exact truthy_none ⟨H, S, m, q⟩
  | bool b => exact wpAny_truthy_bool ⟨H, S, m, q⟩
  | int i t => exact truthy_int ⟨H, S, m, q⟩
  | str x t hx =>
    refine P.truthy_str (by have := q.1; omega) ⟨H, S, m.toks _, ?_⟩
    have : ((x.length : Int) != 0) = (x.length != 0) := by
      cases x.length with
      | zero => rfl
      | succ n => simp; omega
    rw [this]; exact q.2
  | ref p =>
    unfold wtruth at q
    dsimp only at q
    split at q
    · rename_i xs e
      obtain ⟨vs, n, h1, h2, h3⟩ := isList_of S e
      have hl := h2.length
      refine wpAny_truthy_list h3 (by simp only [List.size_toArray]; have := q.1; omega) ⟨H, S, m.toks _, ?_⟩
      have : (vs.toArray.isEmpty) = xs.isEmpty := by cases h2 <;> rfl
      rw [this]; exact q.2
    · rename_i xs e
      obtain ⟨vs, n, h1, h2, h3⟩ := isTup_of S e
      have hl := h2.length
      refine truthy_tuple h3 (by simp only [List.size_toArray]; have := q.1; omega) ⟨H, S, m.toks _, ?_⟩
      have : (vs.toArray.isEmpty) = xs.isEmpty := by cases h2 <;> rfl
      rw [this]; exact q.2
    · exact q.elim

theorem strOk_append {x y : Str} (hx : PyData.strOk x = true) (hy : PyData.strOk y = true) : PyData.strOk (x ++ y) = true := by
  show (x.cps ++ y.cps).all _ = true
  rw [Array.all_append]
  exact Bool.and_eq_true_iff.mpr ⟨hx, hy⟩
theorem strOk_mem {x : Str} (hx : PyData.strOk x = true) {ch : Nat} (hc : ch ∈ x.cps) : ch < 0x110000 := by
  have := (Array.all_eq_true_iff_forall_mem.mp hx) ch hc
  simpa using this
theorem strOk_of {l : List Nat} (h : ∀ ch ∈ l, ch < 0x110000) : PyData.strOk ⟨l.toArray⟩ = true := by
  show l.toArray.all _ = true
  rw [Array.all_eq_true_iff_forall_mem]
  intro ch hc
  simpa using h ch (by simpa using hc)

theorem s_bin {op : Operator} {a b : AV} {u v : Value} {e₀ : Env} {l₀ : List Env} {mg mb : Str → Option Value} (C : g.c.Ok mg mb) (V : Ev g A R e₀ l₀) (hu : VR a u) (hv : VR b v) (S : St g.c R H s.heap) (m : Sm s₀ s) (q : wbin op a b Q H) :
    wpAny (model g.c.prog g.c.w) A (binaryOp op u v) (TQ g R s₀ Q) E s := by
  have F0 := V.stk e₀ (List.mem_cons_self ..)
  unfold wbin at q
  split at q
  · split at q
    · cases hu; cases hv; exact add_int (TQ.toks (.int _ _) S m q)
    · cases hu with
      | str x t hx => cases hv with
        | str y u hy =>
          refine P.add_str ?_
          have e1 : ∀ z : Str, z.length = 0 → z = Str.empty := fun z hz => by
            obtain ⟨⟨l⟩⟩ := z
            cases l with
            | nil => rfl
            | cons => simp [Str.length] at hz
          split
          · rename_i hz
            have hz' := e1 _ (by simpa using hz)
            rw [hz'] at q
            refine TQ.pure (.str _ u hy) S m ?_
            have e2 : ∀ y : Str, Str.empty ++ y = y := fun y => by show Str.append _ _ = _; simp [Str.append, Str.empty]
            rw [e2] at q; exact q.2
          · split
            · rename_i _ hz
              have hz' := e1 _ (by simpa using hz)
              rw [hz'] at q
              refine TQ.pure (.str _ t hx) S m ?_
              have e2 : ∀ x : Str, x ++ Str.empty = x := fun x => by show Str.append _ _ = _; simp [Str.append, Str.empty]
              rw [e2] at q; exact q.2
            · refine ⟨?_, TQ.toks (.str _ _ (strOk_append hx hy)) S m q.2⟩
              rw [Str.length_append]; exact q.1
    · cases hu; cases hv
      split at q
      · rename_i xs ys e1 e2
        obtain ⟨vs, n, h1, h2, h3⟩ := isList_of S e1
        obtain ⟨ws, n', k1, k2, k3⟩ := isList_of S e2
        refine P.add_list (n := n) (n2 := n') h1 k1 ?_ (by have := h2.length; have := k2.length; have := q.1; simp only [List.size_toArray]; omega)
        have hvw := h2.append k2
        refine newListT (n := 0) (vs := vs ++ ws) S m hvw (Nat.le_refl _) (fun _ _ e => Heap.get?_push_of_some _ e) (by rw [Heap.size_push]; omega) ?_ q.2
        rw [Heap.get?_push_size _ rfl]; simp
      · exact q.elim
    · exact q.elim
  · unfold wii at q
    split at q
    · cases hu; cases hv; exact sub_int (TQ.toks (.int _ _) S m q)
    · exact q.elim
  · unfold wii at q
    split at q
    · cases hu; cases hv; exact mul_int (TQ.toks (.int _ _) S m q.2) q.1
    · exact q.elim
  · unfold wii at q
    split at q
    · cases hu; cases hv
      refine floordiv_int q.1 (TQ.toks (.int _ _) S m q.2) (.inr (PySem.PylongRoom.of (C.nolimit.keeps S.stays) ?_ (PySem.SeerAt.of (env := e₀) (l := l₀) (C.seer.keeps S.stays) C.tree V.aok.frames F0.gen F0.co F0.blt F0.glob)))
      have := V.aok.depth
      have e : Builtin.pylongFrames ≤ 100 := by decide
      omega
    · exact q.elim
  · unfold wii at q
    split at q
    · cases hu; cases hv; exact mod_int' q.1 (TQ.toks (.int _ _) S m q.2)
    · exact q.elim
  · exact q.elim

theorem RDs.len {H : AHeap} : ∀ {as : List AV} {ds : List PyData}, RDs H as ds → as.length = ds.length
  | _, _, .nil => rfl
  | _, _, .cons _ r => by simp [RDs.len r]
theorem pairs_keys {prog : Program} {w : World} {h : Heap} : ∀ {es : List DictEntry} {kvs : List (Str × Value)}, Pairs (strKind prog w) es kvs → ∃ as, ReadsAll h (es.map (·.key)) (kvs.map fun e => PyData.str e.1) as
  | _, _, .nil => ⟨[], .nil⟩
  | _, _, .cons hk _ r => by
    obtain ⟨as, ih⟩ := pairs_keys (h := h) r
    obtain ⟨t, e⟩ := Value.isStrOf_shape hk
    refine ⟨[] ++ as, ?_⟩
    simp only [List.map_cons]
    rw [e]
    exact .cons (.str _ _) ih
theorem pairs_vals {prog : Program} {w : World} : ∀ {es : List DictEntry} {kvs : List (Str × Value)}, Pairs (strKind prog w) es kvs → es.map (·.val) = kvs.map (·.2)
  | _, _, .nil => rfl
  | _, _, .cons _ hv r => by simp [hv, pairs_vals r]

mutual
theorem reads_of (S : St g.c R H s.heap) : ∀ {a : AV} {d : PyData} {v : Value}, RD H a d → VR a v → (∃ as, Reads s.heap v d as) ∧ (flatD d = true → PyData.canLay0 d = true)
  | _, _, _, .none, .none => ⟨⟨[], .none⟩, fun _ => by simp only [PyData.canLay0]⟩
  | _, _, _, .bool b, .bool _ => ⟨⟨[], .bool b⟩, fun _ => by simp only [PyData.canLay0]⟩
  | _, _, _, .int i, .int _ t => ⟨⟨[], .int i t⟩, fun _ => by simp only [PyData.canLay0]⟩
  | _, _, _, .str x, .str _ t h => ⟨⟨[], .str x t⟩, fun _ => by simpa only [PyData.canLay0] using h⟩
  | _, _, _, .list e r, .ref _ => by
    obtain ⟨vs, n, h1, h2, h3⟩ := isList_of S e
    obtain ⟨⟨as, ih⟩, cl⟩ := readsAll_of S r h2
    exact ⟨⟨_, .list h1 rfl rfl (by simpa using ih)⟩, fun f => by simp only [PyData.canLay0]; exact cl (by simpa only [flatD] using f)⟩
  | _, _, _, .tuple e r, .ref _ => by
    obtain ⟨vs, n, h1, h2, h3⟩ := isTup_of S e
    obtain ⟨⟨as, ih⟩, cl⟩ := readsAll_of S r h2
    exact ⟨⟨_, .tuple h1 rfl rfl (by simpa using ih)⟩, fun f => by simp only [PyData.canLay0]; exact cl (by simpa only [flatD] using f)⟩
  | _, _, _, .dict (es := es) (ds := ds) e r, .ref _ => by
    obtain ⟨kvs, ⟨o, ents, ho, hx, hd, hk, hp, hn⟩, hr⟩ := isDict_of S e
    obtain ⟨⟨as, ih⟩, cl⟩ := readsAll_of S r hr.vals
    obtain ⟨bs, ik⟩ := pairs_keys (h := s.heap) hp
    rw [← pairs_vals hp] at ih
    have hl : (List.map (fun e => PyData.str e.1) kvs).length = ds.length := by
      rw [List.length_map, hr.length, ← RDs.len r, List.length_map]
    have hke : List.map (fun e => PyData.str e.1) kvs = List.map (fun e : Str × AV => PyData.str e.1) es := by
      have := congrArg (List.map PyData.str) hr.keys
      simpa [List.map_map, Function.comp_def] using this
    rw [hke] at hl ik
    refine ⟨⟨_, .dict (as := bs) (bs := as) ho hx.1 hd ?_ ?_⟩, fun f => by simp [flatD] at f⟩
    · rw [List.map_fst_zip (by omega)]; exact ik
    · rw [List.map_snd_zip (by omega)]; exact ih
theorem readsAll_of (S : St g.c R H s.heap) : ∀ {as : List AV} {ds : List PyData} {vs : List Value}, RDs H as ds → VRs as vs → (∃ bs, ReadsAll s.heap vs ds bs) ∧ (flatDs ds = true → PyData.canLayAll0 ds = true)
  | _, _, _, .nil, .nil => ⟨⟨[], .nil⟩, fun _ => by simp only [PyData.canLayAll0]⟩
  | _, _, _, .cons r rs, .cons v vs => by
    obtain ⟨⟨a1, h1⟩, c1⟩ := reads_of S r v
    obtain ⟨⟨a2, h2⟩, c2⟩ := readsAll_of S rs vs
    refine ⟨⟨_, .cons h1 h2⟩, fun f => ?_⟩
    simp only [flatDs, Bool.and_eq_true] at f
    simp only [PyData.canLayAll0, c1 f.1, c2 f.2, Bool.and_self]
end
theorem shaped_of {d : PyData} (h : okD d) (c : flatD d = true → PyData.canLay0 d = true) : shaped d = true := by
  unfold shaped
  rw [c h.1]
  simpa using h.2

theorem hds_of {mg mb : Str → Option Value} {p : Addr} {o : AObj} (C : g.c.Ok mg mb) (S : St g.c R H s.heap) (e : H p = some o) (hne : o.isX = false := by rfl) : (p == sysModules) = false := by
  have h1 := leN (above_of S e hne)
  obtain ⟨mc, hc, _⟩ := C.nolimit
  have h2 := hc.lt
  have h3 : @LT.lt Nat _ sysModules cStatics := by decide
  have h4 : @LT.lt Nat _ cStatics g.c.base.objs.size := h2
  have : @LT.lt Nat _ sysModules p := by omega
  exact beq_eq_false_iff_ne.mpr (Nat.ne_of_gt this)

theorem s_eq {ne : Bool} {a b : AV} {u v : Value} {e₀ : Env} {l₀ : List Env} {mg mb : Str → Option Value} (C : g.c.Ok mg mb) (V : Ev g A R e₀ l₀) (hu : VR a u) (hv : VR b v) (S : St g.c R H s.heap) (m : Sm s₀ s) (q : weq ne a b Q H) :
    wpAny (model g.c.prog g.c.w) A (compareOp (if ne then .NotEq else .Eq) u v) (TQ g R s₀ Q) E s := by
  have un : A.units + 64 < cLine := by have := V.aok.units; omega
  have gen : ∀ da db, RD H a da → RD H b db → okD da → okD db → Q (.bool ((PyData.eqv da db) != ne)) H → wpAny (model g.c.prog g.c.w) A (compareOp (if ne then .NotEq else .Eq) u v) (TQ g R s₀ Q) E s := by
    intro da db ra rb sa sb qq
    obtain ⟨⟨as, ra'⟩, ca⟩ := reads_of S ra hu
    obtain ⟨⟨bs, rb'⟩, cb⟩ := reads_of S rb hv
    replace sa := shaped_of sa ca
    replace sb := shaped_of sb cb
    cases ne with
    | true =>
      refine ne_dataH ra' rb' sa sb un (TQ.pure (.bool _) S m ?_)
      simpa using qq
    | false =>
      refine eq_dataH ra' rb' sa sb un (TQ.pure (.bool _) S m ?_)
      simpa using qq
  unfold weq at q
  split at q
  · cases hu; cases hv
    cases ne with
    | false => exact eq_int (TQ.pure (.bool _) S m (by simpa using q))
    | true => exact ne_int (TQ.pure (.bool _) S m (by rw [show ∀ x y : Int, (x != y) = ((x == y) != true) from fun x y => by cases h : x == y <;> simp [bne, h]]; exact q))
  · rename_i x y
    refine gen (.str x) (.str y) (.str x) (.str y) ⟨rfl, Nat.zero_le _⟩ ⟨rfl, Nat.zero_le _⟩ ?_
    have : PyData.eqv (.str x) (.str y) = (x == y) := by simp [PyData.eqv]
    rw [this]; exact q
  · obtain ⟨da, db, ra, rb, sa, sb, qq⟩ := q
    exact gen da db ra rb sa sb qq

theorem s_in {no : Bool} {a b : AV} {u v : Value} {e₀ : Env} {l₀ : List Env} {mg mb : Str → Option Value} (C : g.c.Ok mg mb) (V : Ev g A R e₀ l₀) (hu : VR a u) (hv : VR b v) (S : St g.c R H s.heap) (m : Sm s₀ s) (q : win no a b Q H) :
    wpAny (model g.c.prog g.c.w) A (compareOp (if no then .NotIn else .In) u v) (TQ g R s₀ Q) E s := by
  have un : A.units + 1 + 64 < cLine := by have := V.aok.units; omega
  unfold win at q
  split at q
  · cases hv
    rename_i p
    split at q
    · rename_i ys e
      obtain ⟨d, ds, r1, r2, q1, q2, qq⟩ := q
      obtain ⟨⟨as, r1'⟩, c1⟩ := reads_of S r1 hu
      obtain ⟨⟨bs, r2'⟩, c2⟩ := reads_of S (.list e r2) (.ref p)
      have dd : d.depth ≤ 64 := q1.2
      replace q1 := shaped_of q1 c1
      replace q2 : PyData.canLayAll0 ds = true := by
        have := c2 (by simpa only [flatD] using q2)
        simpa only [PyData.canLay0] using this
      cases no with
      | true => exact notIn_list_reads r2' r1' q2 (canLay_of_shaped q1) (by omega) (TQ.pure (.bool _) S m (by simpa using qq))
      | false => exact in_list_reads r2' r1' q2 (canLay_of_shaped q1) (by omega) (TQ.pure (.bool _) S m (by simpa using qq))
    · rename_i ep es e
      split at q
      · cases hu
        rename_i k t hk
        obtain ⟨kvs, hd, hr⟩ := isDict_of S e
        have hds : (p == sysModules) = false := by
          have h1 := leN (above_of S e)
          obtain ⟨mc, hc, _⟩ := C.nolimit
          have h2 := hc.lt
          have h3 : @LT.lt Nat _ sysModules cStatics := by decide
          have h4 : @LT.lt Nat _ cStatics g.c.base.objs.size := h2
          have : @LT.lt Nat _ sysModules p := by omega
          exact beq_eq_false_iff_ne.mpr (Nat.ne_of_gt this)
        have ho := (hr.look k).isSome
        cases no with
        | true =>
          refine wpAny_notIn_of (strKind_is _ _ k t) hds hd.dictOf.mapOf (TQ.toks (.bool _) S m ?_)
          rw [ho]; simpa using q
        | false =>
          refine wpAny_in_of (strKind_is _ _ k t) hds hd.dictOf.mapOf (TQ.toks (.bool _) S m ?_)
          rw [ho]; simpa using q
      · exact q.elim
    · exact q.elim
  · exact q.elim
end
end Mine

namespace Mine
section
variable {g : Gx} {A : Around} {R : RR} {s₀ s : Shared} {H : AHeap} {E : Value → Shared → Prop} {Q : AV → AHeap → Prop}

theorem isSame_bool {a : AV} {u : Value} (hu : VR a u) (c : Bool) : isSame u (.bool c) = pure (a == .bool c) := by
  cases hu <;> first | rfl | (rename_i b; cases c <;> cases b <;> rfl)
theorem isSame_none' {a : AV} {u : Value} (hu : VR a u) : isSame u .none = pure (a == .none) := by
  cases hu <;> rfl

theorem s_cmp {op : CmpOp} {a b : AV} {u v : Value} {e₀ : Env} {l₀ : List Env} {mg mb : Str → Option Value} (C : g.c.Ok mg mb) (V : Ev g A R e₀ l₀) (hu : VR a u) (hv : VR b v) (S : St g.c R H s.heap) (m : Sm s₀ s)
    (q : wcmp op a b Q H) : wpAny (model g.c.prog g.c.w) A (compareOp op u v) (TQ g R s₀ Q) E s := by
  unfold wcmp at q
  split at q
  · exact s_eq (ne := false) C V hu hv S m q
  · exact s_eq (ne := true) C V hu hv S m q
  · exact s_in (no := false) C V hu hv S m q
  · exact s_in (no := true) C V hu hv S m q
  · show wpAny _ _ (do return Value.bool (← isSame u v) : Sem Value) _ _ _
    split at q
    · cases hv; rw [isSame_none' hu]; exact wpAny_bind (wpAny_pure (wpAny_pure (TQ.pure (.bool _) S m q)))
    · cases hv; rw [isSame_bool hu]; exact wpAny_bind (wpAny_pure (wpAny_pure (TQ.pure (.bool _) S m q)))
    · exact q.elim
  · show wpAny _ _ (do return Value.bool (!(← isSame u v)) : Sem Value) _ _ _
    split at q
    · cases hv; rw [isSame_none' hu]; exact wpAny_bind (wpAny_pure (wpAny_pure (TQ.pure (.bool _) S m q)))
    · cases hv; rw [isSame_bool hu]; exact wpAny_bind (wpAny_pure (wpAny_pure (TQ.pure (.bool _) S m q)))
    · exact q.elim
  · split at q
    · cases hu; cases hv
      split at q
      · exact lt_int (TQ.pure (.bool _) S m q)
      · exact le_int (TQ.pure (.bool _) S m q)
      · exact gt_int (TQ.pure (.bool _) S m q)
      · exact ge_int (TQ.pure (.bool _) S m q)
      · exact q.elim
    · exact q.elim

theorem pyIdx_lt {n : Nat} {i : Int} {j : Nat} (h : pyIdx n i = some j) : j < n ∧ (0 ≤ i → j = i.toNat) ∧ (i < 0 → j = (i + n).toNat ∧ -(n : Int) ≤ i) := by
  unfold pyIdx at h
  split at h
  · split at h
    · cases h; omega
    · cases h
  · split at h
    · cases h; omega
    · cases h

/-- o[i] where the slice is no Slice -/
theorem s_sub {value slice : PySem.Expr} {a i : AV} {u v : Value} {mg mb : Str → Option Value} (_C : g.c.Ok mg mb) (hu : VR a u) (hv : VR i v) (S : St g.c R H s.heap) (m : Sm s₀ s) (q : wsub a i Q H)
    (hs : ∀ o j, subscripted slice false o j = operate [o, j] (getItem o j)) : wpAny (model g.c.prog g.c.w) A (subscriptTail value slice u v) (TQ g R s₀ Q) E s := by
  unfold wsub at q
  split at q
  · rename_i i
    cases hu; cases hv
    split at q
    · rename_i xs e
      obtain ⟨j, x, h1, h2, h3, h4, qq⟩ := q
      obtain ⟨vs, n, k1, k2, k3⟩ := isList_of S e
      obtain ⟨y, y1, y2⟩ := k2.get h4
      obtain ⟨p1, p2, p3⟩ := pyIdx_lt h1
      rw [k2.length] at p3
      refine tail_any k3.typeIs slot_list_getitem.lookup ?_ (hs _ _)
      by_cases hz : 0 ≤ i
      · exact wpAny_getItem_list k3 hz h2 (by rw [← p2 hz]; simpa using y1) (TQ.pure y2 S m qq)
      · obtain ⟨p4, p5⟩ := p3 (by omega)
        exact wpAny_getItem_list_neg k3 (by omega) (by simpa using p5) h3 (by simp only [List.size_toArray]; rw [← p4]; simpa using y1) (TQ.pure y2 S m qq)
    · rename_i ns e
      obtain ⟨h1, h2, nn, h3, qq⟩ := q
      obtain ⟨D, r⟩ := S.rep
      obtain ⟨vs, n, k1, k2⟩ := r.rep _ _ e
      obtain ⟨y, y1, y2⟩ := k2.get (i := i.toNat) (a := .int nn) (by rw [List.getElem?_map, h3]; rfl)
      have k3 : s.heap.IsList _ vs.toArray := ⟨_, k1, rfl, _, rfl⟩
      refine tail_any k3.typeIs slot_list_getitem.lookup ?_ (hs _ _)
      exact wpAny_getItem_list k3 h1 h2 (by simpa using y1) (TQ.pure y2 S m qq)
    · exact q.elim
  · cases hu
    cases hv
    rename_i k t hk
    split at q
    · rename_i ep es e
      obtain ⟨x, hx, qq⟩ := q
      obtain ⟨kvs, hd, hr⟩ := isDict_of S e
      have ho := hr.look k
      rw [hx] at ho
      generalize hval : valueAt kvs k = y at ho
      cases ho with
      | some hv =>
        refine tail_any hd.dictOf.typeIs slot_dict_getitem.lookup ?_ (hs _ _)
        exact wpAny_getItem_of (strKind_is _ _ k t) hd.dictOf.mapOf hval (TQ.toks hv S m qq)
    · exact q.elim
  · rename_i x i
    cases hu with
    | str _ t hx => cases hv with
      | int _ u =>
        obtain ⟨h1, h2, ch, h3, qq⟩ := q
        refine tail_any (typeIs_str s _ t) slot_str_getitem.lookup ?_ (hs _ _)
        have hlt : i.toNat < x.cps.size := (Array.getElem?_eq_some_iff.mp h3).1
        refine getItem_str (by simp; omega) (c := ch) ?_ (TQ.toks (.str _ _ ?_) S m qq)
        · have : seqIndex? i x.length = some i.toNat := by
            unfold seqIndex?
            have : ¬ i < 0 := by omega
            have h' : 0 ≤ i ∧ i < (x.length : Int) := ⟨h1, by show i < ((x.cps.size : Nat) : Int); omega⟩
            simp only [this, if_false]
            rw [if_pos (by simpa using h')]
          rw [this]; exact h3
        · have hm := Array.mem_of_getElem? h3
          exact strOk_of (l := [ch]) (by intro c hc; simp at hc; subst hc; exact strOk_mem hx hm)
  · exact q.elim

theorem s_slice {value : PySem.Expr} {lo hi st : Option PySem.Expr} {p : Pos} {a : AV} {l u t : Option AV} {o vl vu vt : Value} (hu : VR a o)
    (hl : (l = none ∧ vl = .none) ∨ ∃ x, l = some x ∧ VR x vl) (hh : (u = none ∧ vu = .none) ∨ ∃ x, u = some x ∧ VR x vu) (ht : (t = none ∧ vt = .none) ∨ ∃ x, t = some x ∧ VR x vt)
    (S : St g.c R H s.heap) (m : Sm s₀ s) (q : wslice a l u t Q H) :
    wpAny (model g.c.prog g.c.w) A (subscriptTail value (.Slice lo hi st p) o (.ref s.heap.objs.size)) (TQ g R s₀ Q) E { s with heap := s.heap.push { cls := .type "slice", data := .fields #[vl, vu, vt] } } := by
  have part : ∀ {x : Option AV} {v : Value} {k : Option Int}, ((x = none ∧ v = .none) ∨ ∃ y, x = some y ∧ VR y v) → partI x = some k → IsPart v k := by
    rintro x v k (⟨rfl, rfl⟩ | ⟨y, rfl, hv⟩) e
    · cases e; exact .none
    · cases hv <;> simp only [partI] at e <;> cases e
      exact .int _ _
  have hs : ∀ o j, ∃ ops, subscripted (.Slice lo hi st p) false o j = operate ops (getItem o j) := by
    intro o j
    cases st with
    | none => exact ⟨_, rfl⟩
    | some _ => exact ⟨_, rfl⟩
  unfold wslice at q
  split at q
  · rename_i x
    cases hu with
    | str _ tk hx =>
      obtain ⟨ops, hop⟩ := hs (.str x tk) (.ref s.heap.objs.size)
      have sz : ∀ a b : Nat, a ≤ b → b ≤ x.length → x.length ≤ sizeLine → ∀ (l u : Option (Int × Tok)), (l.map (·.1) = some (a : Int) ∨ (l = none ∧ a = 0)) → (u.map (·.1) = some (b : Int) ∨ (u = none ∧ b = x.length)) →
          Q (.str ⟨((x.cps.toList.drop a).take (b - a)).toArray⟩) H → ∀ s' : Shared, s'.heap.IsSlice s.heap.objs.size l u none → St g.c R H s'.heap → Sm s₀ s' → wpAny (model g.c.prog g.c.w) A (getItem (.str x tk) (.ref s.heap.objs.size)) (TQ g R s₀ Q) E s' := by
        intro a b hab hb hz l u hl hu qq s' hsl S' m'
        refine wpAny_getItem_str_slice hsl rfl ?_
        have e : (slicePicked x l u none).filterMap (x.cps[·]?) = (x.cps.toList.drop a).take (b - a) := by
          rw [← StrLaws.sliced_plain x hab hb]
          unfold slicePicked
          congr 1
          show Builtin.Str.strSliceIndices _ _ 1 x.length = _
          rcases hl with hl | ⟨rfl, rfl⟩ <;> rcases hu with hu | ⟨rfl, rfl⟩
          · rw [hl, hu]
          · rw [hl]; exact StrLaws.sliceIdx_none_hi _ _
          · rw [hu]; exact StrLaws.sliceIdx_none_lo _ _
          · exact (StrLaws.sliceIdx_none_lo _ _).trans (StrLaws.sliceIdx_none_hi _ _)
        have el : (slicePicked x l u none).length = b - a := by
          unfold slicePicked
          show (Builtin.Str.strSliceIndices _ _ 1 x.length).length = _
          have e0 : Builtin.Str.strSliceIndices (l.map (·.1)) (u.map (·.1)) 1 x.length = (List.range (b - a)).map (fun k => a + k) := by
            rw [← StrLaws.strSliceIndices_plain hab hb]
            rcases hl with hl | ⟨rfl, rfl⟩ <;> rcases hu with hu | ⟨rfl, rfl⟩
            · rw [hl, hu]
            · rw [hl]; exact StrLaws.sliceIdx_none_hi _ _
            · rw [hu]; exact StrLaws.sliceIdx_none_lo _ _
            · exact (StrLaws.sliceIdx_none_lo _ _).trans (StrLaws.sliceIdx_none_hi _ _)
          rw [e0]; simp
        unfold sliceMade
        split
        · rename_i hc
          refine TQ.pure (.str _ tk hx) S' m' ?_
          have hc' : b - a = x.length := by
            have := (Bool.and_eq_true_iff.mp hc).2
            rw [el] at this
            simpa using this
          have ha : a = 0 := by omega
          have hbx : b = x.length := by omega
          subst ha hbx
          have : (⟨((x.cps.toList.drop 0).take (x.length - 0)).toArray⟩ : Str) = x := by
            have : x.cps.toList.take x.length = x.cps.toList := List.take_of_length_le (by simp [Str.length])
            simp [this]
          rw [this] at qq; exact qq
        · rw [e]
          refine ⟨?_, TQ.toks (.str _ _ ?_) S' m' qq⟩
          · simp [Str.length] at *; omega
          · exact strOk_of fun ch hc => strOk_mem hx (by have := List.mem_of_mem_drop (List.mem_of_mem_take hc); simpa using this)
      have isl : ∀ {x : Option AV} {v : Value}, ((x = none ∧ v = .none) ∨ ∃ y, x = some y ∧ VR y v) → x = none → v = .none := by
        rintro x v (⟨_, h⟩ | ⟨y, e, _⟩) h2
        · exact h
        · rw [h2] at e; cases e
      refine tail_any (typeIs_str _ _ tk) slot_str_getitem.lookup ?_ hop
      split at q
      · rename_i li
        obtain ⟨h1, h2, h3, qq⟩ := q
        have h4 := isl hh rfl
        have h5 := isl ht rfl
        subst h4 h5
        rcases hl with ⟨z, _⟩ | ⟨y, z, hv⟩
        · cases z
        · cases z
          cases hv with
          | int _ t1 =>
            refine sz li.toNat x.length (by omega) (Nat.le_refl _) h3 (some (li, t1)) none (.inl (by simp; omega)) (.inr ⟨rfl, rfl⟩) ?_ _ ⟨_, Heap.get?_push_size _ rfl, rfl, rfl⟩ (S.push _) (m.heap _)
            have : (x.cps.toList.drop li.toNat).take (x.length - li.toNat) = x.cps.toList.drop li.toNat := List.take_of_length_le (by simp [Str.length])
            rw [this]; exact qq
      · rename_i ui
        obtain ⟨h1, h2, h3, qq⟩ := q
        have h4 := isl hl rfl
        have h5 := isl ht rfl
        subst h4 h5
        rcases hh with ⟨z, _⟩ | ⟨y, z, hv⟩
        · cases z
        · cases z
          cases hv with
          | int _ t1 =>
            refine sz 0 ui.toNat (Nat.zero_le _) (by omega) h3 none (some (ui, t1)) (.inr ⟨rfl, rfl⟩) (.inl (by simp; omega)) ?_ _ ⟨_, Heap.get?_push_size _ rfl, rfl, rfl⟩ (S.push _) (m.heap _)
            simpa using qq
      · exact q.elim
  · exact q.elim
end
end Mine

namespace Mine
section
variable {g : Gx} {A : Around} {R : RR} {s₀ s : Shared} {H : AHeap} {E : Value → Shared → Prop} {Q : AV → AHeap → Prop}

theorem s_isT {a : AV} {u : Value} {k ty : String} {b : Bool} (hu : VR a u) (S : St g.c R H s.heap) (m : Sm s₀ s) (hk : vkind H a = some k) (hty : ty = "int" ∨ ty = "bool" ∨ ty = "str" ∨ ty = "list")
    (hb : (k == ty || (k == "bool" && ty == "int")) = b) (q : Q (.bool b) H) : wpAny (model g.c.prog g.c.w) A (call (.builtin "isinstance") [u, .type ty]) (TQ g R s₀ Q) E s := by
  subst hb
  cases hu with
  | none =>
    cases hk
    rcases hty with rfl | rfl | rfl | rfl
    · exact IsiPair.NoneType_int (TQ.toks (.bool _) S m q)
    · exact IsiPair.NoneType_bool (TQ.toks (.bool _) S m q)
    · exact IsiPair.NoneType_str (TQ.toks (.bool _) S m q)
    · exact IsiPair.NoneType_list (TQ.toks (.bool _) S m q)
  | bool b =>
    cases hk
    rcases hty with rfl | rfl | rfl | rfl
    · exact IsiPair.bool_int (TQ.pure (.bool _) S m q)
    · exact IsiPair.bool_bool (TQ.pure (.bool _) S m q)
    · exact IsiPair.bool_str (TQ.toks (.bool _) S m q)
    · exact IsiPair.bool_list (TQ.toks (.bool _) S m q)
  | int i t =>
    cases hk
    rcases hty with rfl | rfl | rfl | rfl
    · exact IsiPair.int_int (TQ.pure (.bool _) S m q)
    · exact IsiPair.int_bool (TQ.toks (.bool _) S m q)
    · exact IsiPair.int_str (TQ.toks (.bool _) S m q)
    · exact IsiPair.int_list (TQ.toks (.bool _) S m q)
  | str x t hx =>
    cases hk
    rcases hty with rfl | rfl | rfl | rfl
    · exact IsiPair.str_int (TQ.toks (.bool _) S m q)
    · exact IsiPair.str_bool (TQ.toks (.bool _) S m q)
    · exact IsiPair.str_str (TQ.pure (.bool _) S m q)
    · exact IsiPair.str_list (TQ.toks (.bool _) S m q)
  | ref p =>
    unfold vkind at hk
    dsimp only at hk
    split at hk
    · rename_i xs e
      cases hk
      obtain ⟨vs, n, h1, h2, h3⟩ := isList_of S e
      rcases hty with rfl | rfl | rfl | rfl
      · exact IsiPair.list_int h1 rfl (TQ.toks (.bool _) S m q)
      · exact IsiPair.list_bool h1 rfl (TQ.toks (.bool _) S m q)
      · exact IsiPair.list_str h1 rfl (TQ.toks (.bool _) S m q)
      · exact IsiPair.list_list h1 rfl (TQ.pure (.bool _) S m q)
    · rename_i xs e
      cases hk
      obtain ⟨vs, n, h1, h2, h3⟩ := isTup_of S e
      rcases hty with rfl | rfl | rfl | rfl
      · exact IsiPair.tuple_int h1 rfl (TQ.toks (.bool _) S m q)
      · exact IsiPair.tuple_bool h1 rfl (TQ.toks (.bool _) S m q)
      · exact IsiPair.tuple_str h1 rfl (TQ.toks (.bool _) S m q)
      · exact IsiPair.tuple_list h1 rfl (TQ.toks (.bool _) S m q)
    · rename_i ep es e
      cases hk
      obtain ⟨kvs, ⟨o, ents, h1, h2, h3⟩, hr⟩ := isDict_of S e
      rcases hty with rfl | rfl | rfl | rfl
      · exact IsiPair.dict_int h1 h2.1 (TQ.toks (.bool _) S m q)
      · exact IsiPair.dict_bool h1 h2.1 (TQ.toks (.bool _) S m q)
      · exact IsiPair.dict_str h1 h2.1 (TQ.toks (.bool _) S m q)
      · exact IsiPair.dict_list h1 h2.1 (TQ.toks (.bool _) S m q)
    · cases hk

noncomputable def primVal : String → Value
  | "len" => .builtin "len"
  | "list" => .type "list"
  | "int" => .type "int"
  | "range" => .type "range"
  | "isinstance" => .builtin "isinstance"
  | "bool" => .type "bool"
  | "str" => .type "str"
  | "ValueError" => .type "ValueError"
  | _ => .builtin "?"
theorem primVal_is (f : String) : (∃ i, primVal f = .builtin i) ∨ ∃ i, primVal f = .type i := by
  unfold primVal
  split <;> simp

theorem s_prim {f : String} {as : List AV} {vs : List Value} {mg mb : Str → Option Value} (C : g.c.Ok mg mb) (hv : VRs as vs) (S : St g.c R H s.heap) (m : Sm s₀ s) (q : wprim f as Q H) :
    wpAny (model g.c.prog g.c.w) A (call (primVal f) vs) (TQ g R s₀ Q) E s := by
  unfold wprim at q
  split at q
  · rename_i hf; subst hf
    split at q
    · cases hv with | cons h1 h2 => cases h1; cases h2; exact len_str (by have := q.1; omega) (TQ.toks (.int _ _) S m q.2)
    · cases hv with | cons h1 h2 =>
      cases h1; cases h2
      split at q
      · rename_i xs e
        obtain ⟨vs, n, k1, k2, k3⟩ := isList_of S e
        have hl := k2.length
        refine call_len_list k3 (by simp only [List.size_toArray]; have := q.1; omega) (TQ.toks (.int _ _) S m ?_)
        simp only [List.size_toArray]; rw [← hl]; exact q.2
      · rename_i ep es e
        obtain ⟨kvs, hd, hr⟩ := isDict_of S e
        have hl := hr.length
        refine call_len_dict (hds_of C S e) hd.dictOf (by have := q.1; omega) (TQ.toks (.int _ _) S m ?_)
        rw [hl]; exact q.2
      · rename_i ns e
        obtain ⟨D, r⟩ := S.rep
        obtain ⟨vs, n, k1, k2⟩ := r.rep _ _ e
        have hl := k2.length
        rw [List.length_map] at hl
        refine call_len_list (items := vs.toArray) ⟨_, k1, rfl, _, rfl⟩ (by simp only [List.size_toArray]; have := q.1; omega) (TQ.toks (.int _ _) S m ?_)
        simp only [List.size_toArray]; rw [← hl]; exact q.2
      · exact q.elim
    · exact q.elim
  · split at q
    · rename_i hf; subst hf
      split at q
      · cases hv with | cons h1 h2 =>
        cases h1; cases h2
        split at q
        · rename_i xs e
          obtain ⟨vs, n, k1, k2, k3⟩ := isList_of S e
          have hl := k2.length
          refine call_list_seq (hsz := by simp only [List.size_toArray]; rw [← hl]; exact q.1) _ (.inl rfl) k1 rfl rfl fun h' c' hk hD => ?_
          exact newListT (s := s) S m k2 (Nat.le_refl _) hk (by have := lts hD; omega) hD q.2
        · exact q.elim
      · exact q.elim
    · split at q
      · rename_i hf; subst hf
        split at q
        · cases hv with | cons h1 h2 => cases h1; cases h2; exact call_int_bool (TQ.toks (.int _ _) S m q)
        · exact q.elim
      · split at q
        · rename_i hf; subst hf
          split at q
          · cases hv with | cons h1 h2 =>
            cases h1; cases h2
            refine call_range_1 ?_
            obtain ⟨e, S'⟩ := S.newObj (o := .range 0 _) (Nat.le_refl _) (fun _ _ z => Heap.get?_push_of_some _ z) (by rw [Heap.size_push]; omega) (by intro _ _ z; cases z) (fun D => ⟨⟨by decide, by decide, q.1.1, q.1.2⟩, _, _, _, Heap.get?_push_size _ rfl⟩)
            exact ⟨_, _, .ref _, S', m.step _ _, q.2 _ e⟩
          · cases hv with | cons h1 h2 =>
            cases h2 with | cons h3 h4 =>
            cases h1; cases h3; cases h4
            refine call_range_2 ?_
            obtain ⟨e, S'⟩ := S.newObj (o := .range _ _) (Nat.le_refl _) (fun _ _ z => Heap.get?_push_of_some _ z) (by rw [Heap.size_push]; omega) (by intro _ _ z; cases z) (fun D => ⟨q.1, _, _, _, Heap.get?_push_size _ rfl⟩)
            exact ⟨_, _, .ref _, S', m.step _ _, q.2 _ e⟩
          · exact q.elim
        · exact q.elim

theorem s_append {p : Addr} {v : AV} {u : Value} {xs : List AV} (hv : VR v u) (S : St g.c R H s.heap) (m : Sm s₀ s) (e : H p = some (.list xs)) (hz : xs.length ≤ sizeLine) (q : Q .none (up H p (.list (xs ++ [v])))) :
    wpAny (model g.c.prog g.c.w) A (call (.builtin "list.append") [.ref p, u]) (TQ g R s₀ Q) E s := by
  obtain ⟨vs, n, k1, k2, k3⟩ := isList_of S e
  refine append_at k1 (fun h' hs ho => ?_) (by simp only [List.size_toArray]; rw [← k2.length]; exact hz)
  refine ⟨.none, _, .none, S.setObj (o' := .list (xs ++ [v])) e (by intro _ _ z; cases z) hs (fun D => ⟨vs ++ [u], n + 1, ?_, k2.append (.one hv)⟩), m.heap _, q⟩
  rw [ho]; simp
end
end Mine

namespace Mine

/-! ## the text's trees against the abstract program's -/
noncomputable def kindOk (sc : Scope) (id : Str) : Bool := match sc.names.lookup id with
  | some .local => true
  | some .cell => true
  | some .free => true
  | _ => false
noncomputable def isGlob (sc : Scope) (id : Str) : Bool := sc.names.lookup id == some .globalImplicit
noncomputable def plainName (id : Str) : Bool := !(id == ("__debug__" : Str)) && !(id == ("__classdict__" : Str))
noncomputable def baseOk : PySem.Expr → Bool
  | .Call (.Name _ _) [] [] _ => false
  | _ => true
noncomputable def noSlice : PySem.Expr → Bool
  | .Slice .. => false
  | _ => true
noncomputable def nameIs (sc : Scope) (n : String) : PySem.Expr → Bool
  | .Name id _ => id == Str.ofString n && isGlob sc id && plainName id
  | _ => false
noncomputable def notSet : PySem.Expr → Bool
  | .Set .. => false
  | _ => true
noncomputable def isLC : PySem.Expr → Bool
  | .ListComp .. => true
  | _ => false
noncomputable def litOk (v : AV) (cc : Const) : Bool := match v, cc with
  | .none, .none => true
  | .bool a, .bool b => a == b
  | .int a, .int b => a == b
  | .str a, .str b => a == b && PyData.strOk a
  | _, _ => false
noncomputable def isComp : X → Bool
  | .comp .. => true
  | _ => false
noncomputable def hideN (nm : List Str) (ts : List Str) : List Str := nm.map fun x => if ts.contains x then ⟨#[]⟩ else x
noncomputable def namesOfE : List PySem.Expr → Option (List Str)
  | [] => some []
  | .Name id _ :: r => (namesOfE r).map (id :: ·)
  | _ => none
/-- a comprehension's own scope: its targets and .0 local, the rest free or global -/
noncomputable def compScOk (sc csc : Scope) (nm ts : List Str) : Bool :=
  csc.kind == .function && ts.all (fun t => csc.names.lookup t == some .local && t.length != 0 && plainName t) && decide ts.Nodup && !nm.contains (Str.ofString ".0") &&
  csc.names.all (fun p => p.2 != .cell && (p.2 != .local || (csc.names.lookup p.1 == some .local && (ts.contains p.1 || p.1 == Str.ofString ".0"))) && (p.2 != .free || (sc.names.lookup p.1 == some .cell && nm.contains p.1 && csc.names.lookup p.1 == some .free)) && p.1.length != 0)

abbrev EB := PySem.Expr → Bool
noncomputable def mLit (v : AV) (e : PySem.Expr) : Bool := match e with
  | .Constant cc _ _ => litOk v cc
  | _ => false
noncomputable def mVar (sc : Scope) (nm : List Str) (i : Nat) (e : PySem.Expr) : Bool := match e with
  | .Name id _ => nm[i]? == some id && kindOk sc id && plainName id
  | _ => false
noncomputable def mBin (op : Operator) (a b : EB) (e : PySem.Expr) : Bool := match e with
  | .BinOp l op' r _ => op == op' && a l && b r
  | _ => false
noncomputable def mNeg (a : EB) (e : PySem.Expr) : Bool := match e with
  | .UnaryOp .USub x _ => a x
  | _ => false
noncomputable def mNot (a : EB) (e : PySem.Expr) : Bool := match e with
  | .UnaryOp .Not x _ => a x
  | _ => false
noncomputable def mAo (isAnd : Bool) (xs : List PySem.Expr → Bool) (e : PySem.Expr) : Bool := match e with
  | .BoolOp op vs _ => (op == (if isAnd then PySem.BoolOp.And else PySem.BoolOp.Or)) && xs vs
  | _ => false
noncomputable def mCmp (op : CmpOp) (a b : EB) (e : PySem.Expr) : Bool := match e with
  | .Compare l [op'] [r] _ => op == op' && !behindInMarks op' r && a l && b r
  | _ => false
noncomputable def mSub (a i : EB) (e : PySem.Expr) : Bool := match e with
  | .Subscript v sl _ => noSlice sl && a v && i sl
  | _ => false
noncomputable def mSlice (a : EB) (lo hi st : Option PySem.Expr → Bool) (e : PySem.Expr) : Bool := match e with
  | .Subscript v (.Slice l u t _) _ => a v && lo l && hi u && st t
  | _ => false
/-- a call by a name that the tables know -/
noncomputable def mCall (sc : Scope) (ok : Bool) (f : String) (xs : List PySem.Expr → Bool) (e : PySem.Expr) : Bool := match e with
  | .Call fe args [] _ => nameIs sc f fe && ok && xs args
  | _ => false
noncomputable def mMeth (m : String) (a : EB) (xs : List PySem.Expr → Bool) (e : PySem.Expr) : Bool := match e with
  | .Call (.Attribute o name apos) args [] pos => name == Str.ofString m && (apos.endLine == pos.line) && baseOk o && decide (args.length < 29) && a o && xs args
  | _ => false
noncomputable def mIsi (P : Pg) (sc : Scope) (a : EB) (ty : String) (e : PySem.Expr) : Bool := match e with
  | .Call fe [x, t] [] _ => nameIs sc "isinstance" fe && P.prims.contains "isinstance" && P.prims.contains ty && nameIs sc ty t && a x
  | _ => false
noncomputable def mList (xs : List PySem.Expr → Bool) (e : PySem.Expr) : Bool := match e with
  | .List es _ => xs es && decide (es.length < 1000)
  | _ => false
noncomputable def mDict (ks vs : List X) (mk : List (Option PySem.Expr) → Bool) (mv : List PySem.Expr → Bool) (e : PySem.Expr) : Bool := match e with
  | .Dict ks' vs' _ => (ks.isEmpty && vs.isEmpty && ks'.isEmpty && vs'.isEmpty) || (decide (ks.length = 1) && decide (vs.length = 1) && mk ks' && mv vs')
  | _ => false
noncomputable def mComp (top tup : Bool) (k : Nat) (sc : Scope) (nm : List Str) (it : EB) (x : Scope → List Str → EB) (c : Scope → List Str → List PySem.Expr → Bool) (e : PySem.Expr) : Bool := top && !tup && decide (k = 1) && (match e with
  | .ListComp elt [⟨.Name t _, iter, ifs, ia⟩] csc _ => ia == 0 && notSet iter && it iter && compScOk sc csc nm [t] && x csc (hideN nm [t] ++ [t]) elt && c csc (hideN nm [t] ++ [t]) ifs
  | _ => false)

mutual
noncomputable def mtX (P : Pg) (top : Bool) (sc : Scope) (nm : List Str) : X → PySem.Expr → Bool
  | .lit v, e => mLit v e
  | .var i, e => mVar sc nm i e
  | .bin op a b, e => mBin op (mtX P top sc nm a) (mtX P top sc nm b) e
  | .neg a, e => mNeg (mtX P top sc nm a) e
  | .not a, e => mNot (mtX P top sc nm a) e
  | .ao isAnd xs, e => mAo isAnd (mtXs P top sc nm xs) e
  | .cmp op a b, e => mCmp op (mtX P top sc nm a) (mtX P top sc nm b) e
  | .sub a i, e => mSub (mtX P top sc nm a) (mtX P top sc nm i) e
  | .slice a lo hi st, e => mSlice (mtX P top sc nm a) (mtO P top sc nm lo) (mtO P top sc nm hi) (mtO P top sc nm st) e
  | .call f xs, e => mCall sc (P.gfns.contains f) f (mtXs P top sc nm xs) e
  | .meth a m xs, e => mMeth m (mtX P top sc nm a) (mtXs P top sc nm xs) e
  | .prim f xs, e => mCall sc (P.prims.contains f) f (mtXs P top sc nm xs) e
  | .isinst a ty, e => mIsi P sc (mtX P top sc nm a) ty e
  | .list xs, e => mList (mtXs P top sc nm xs) e
  | .dict ks vs, e => mDict ks vs (mtOs P top sc nm ks) (mtXs P top sc nm vs) e
  | .comp x k tup it c, e => mComp top tup k sc nm (mtX P top sc nm it) (fun csc nm' => mtX P false csc nm' x) (fun csc nm' => mtC P csc nm' c) e
noncomputable def mtXs (P : Pg) (top : Bool) (sc : Scope) (nm : List Str) : List X → List PySem.Expr → Bool
  | [], es => es.isEmpty
  | x :: r, es => (match es with
    | e :: q => mtX P top sc nm x e && mtXs P top sc nm r q
    | [] => false)
noncomputable def mtO (P : Pg) (top : Bool) (sc : Scope) (nm : List Str) : Option X → Option PySem.Expr → Bool
  | none, e => e.isNone
  | some x, e => (match e with
    | some e => mtX P top sc nm x e
    | none => false)
noncomputable def mtOs (P : Pg) (top : Bool) (sc : Scope) (nm : List Str) : List X → List (Option PySem.Expr) → Bool
  | [], es => es.isEmpty
  | x :: r, es => (match es with
    | some e :: q => mtX P top sc nm x e && mtOs P top sc nm r q
    | _ => false)
noncomputable def mtC (P : Pg) (sc : Scope) (nm : List Str) : Option X → List PySem.Expr → Bool
  | none, es => es.isEmpty
  | some x, es => (match es with
    | [e] => mtX P false sc nm x e
    | _ => false)
end

/-! ## frames -/
noncomputable def locKind (sc : Scope) (id : Str) : Bool := match sc.names.lookup id with
  | some .local => true
  | some .cell => true
  | _ => false
/-- a name's value as known -/
inductive OVW : Option AV → Option Value → Prop
  | none {x} : OVW Option.none x
  | some {a v} : VR a v → OVW (Option.some a) (Option.some v)
structure Frm (R : RR) (env : Env) (sc : Scope) (nm : List Str) (V : VV) : Prop where
  kind : env.scope.kind = .function
  glob : env.globals = mainGlobals
  blt : env.builtins = builtinsNs
  sco : ∀ id, isGlob sc id = true → env.kindOf id = some .globalImplicit
  kok : ∀ id, kindOk sc id = true → env.kindOf id = some .local ∨ env.kindOf id = some .cell ∨ env.kindOf id = some .free
  lok : ∀ id, locKind sc id = true → env.kindOf id = some .local ∨ env.kindOf id = some .cell
  lco : ∀ id, sc.names.lookup id = some .local → env.kindOf id = some .local
  cco : ∀ id, sc.names.lookup id = some .cell → env.kindOf id = some .cell
  len : V.length = nm.length
  inj : ∀ n n' a, env.cells.lookup n = some a → env.cells.lookup n' = some a → n = n'
  ns : ∃ m, R env.locals = some (.ns m) ∧ ∀ (i : Nat) n, nm[i]? = some n → env.kindOf n = some .local → ∃ v, V[i]? = some v ∧ OVW v (m n)
  cell : ∀ (i : Nat) n, nm[i]? = some n → (env.kindOf n = some .cell ∨ env.kindOf n = some .free) → ∃ a x v, env.cells.lookup n = some a ∧ R a = some (.cell x) ∧ V[i]? = some v ∧ OVW v x

noncomputable def veM : List Value := [.type "ValueError", .type "Exception", .type "BaseException", .type "object"]
/-- what the program's own tables say, held against the written part of the heap -/
structure PgOk (c : Cx) : Prop where
  fn : ∀ f, c.P.gfns.contains f = true → nsIn c.K mainGlobals (Str.ofString f) = some (some (.ref (c.fa f))) ∧ keepIn c.K (.ref (c.fa f)) = true
  prim : ∀ f, c.P.prims.contains f = true → nsIn c.K mainGlobals (Str.ofString f) = some none ∧ (Str.ofString f == Str.ofString "__name__") = false ∧ bootBuiltins (Str.ofString f) = some (primVal f)

end Mine

namespace Mine
/-! ## statements -/
noncomputable def notComp : PySem.Expr → Bool
  | .ListComp .. => false
  | .SetComp .. => false
  | .DictComp .. => false
  | .Set .. => false
  | _ => true
noncomputable def tgtOk (sc : Scope) (nm : List Str) (i : Nat) : PySem.Expr → Bool
  | .Name id _ => nm[i]? == some id && locKind sc id
  | _ => false
noncomputable def mtT (P : Pg) (sc : Scope) (nm : List Str) : T → PySem.Expr → Bool
  | .var i, e => tgtOk sc nm i e
  | .sub a i, e => (match e with
    | .Subscript v sl _ => noSlice sl && mtX P true sc nm a v && mtX P true sc nm i sl
    | _ => false)
  | _, _ => false
mutual
noncomputable def mtS (P : Pg) (sc : Scope) (nm : List Str) : S → Stmt → Bool
  | .assign t e, st => (match st with
    | .Assign [tg] v _ => (notComp v || (isLC v && isComp e)) && mtT P sc nm t tg && mtX P true sc nm e v
    | _ => false)
  | .expr e, st => (match st with
    | .Expr v _ => notComp v && mtX P true sc nm e v
    | _ => false)
  | .ret e, st => (match st with
    | .Return (some v) _ => mtX P true sc nm e v
    | _ => false)
  | .ite c a b, st => (match st with
    | .If t x y _ => mtX P true sc nm c t && mtSs P sc nm a x && mtSs P sc nm b y
    | _ => false)
  | .while c b, st => (match st with
    | .While t x [] _ => mtX P true sc nm c t && mtSs P sc nm b x
    | _ => false)
  | .for t it b, st => (match t with
    | .var i => (match st with
      | .For tg iter x [] _ => notSet iter && tgtOk sc nm i tg && mtX P true sc nm it iter && mtSs P sc nm b x
      | _ => false)
    | .tup _ => false)
  | .pass, st => (match st with
    | .Pass _ => true
    | _ => false)
noncomputable def mtSs (P : Pg) (sc : Scope) (nm : List Str) : List S → List Stmt → Bool
  | [], es => es.isEmpty
  | x :: r, es => (match es with
    | e :: q => mtS P sc nm x e && mtSs P sc nm r q
    | [] => false)
end
theorem mxs_e0 {P : Pg} {top : Bool} {sc : Scope} {nm : List Str} {es} : mtXs P top sc nm ([]) es = (es.isEmpty) := rfl
theorem mxs_e1 {P : Pg} {top : Bool} {sc : Scope} {nm : List Str} {x} {r} {es} : mtXs P top sc nm (x :: r) es = ((match es with
    | e :: q => mtX P top sc nm x e && mtXs P top sc nm r q
    | [] => false)) := rfl
theorem mo_e0 {P : Pg} {top : Bool} {sc : Scope} {nm : List Str} {e} : mtO P top sc nm (none) e = (e.isNone) := rfl
theorem mo_e1 {P : Pg} {top : Bool} {sc : Scope} {nm : List Str} {x} {e} : mtO P top sc nm (some x) e = ((match e with
    | some e => mtX P top sc nm x e
    | none => false)) := rfl
theorem mos_e0 {P : Pg} {top : Bool} {sc : Scope} {nm : List Str} {es} : mtOs P top sc nm ([]) es = (es.isEmpty) := rfl
theorem mos_e1 {P : Pg} {top : Bool} {sc : Scope} {nm : List Str} {x} {r} {es} : mtOs P top sc nm (x :: r) es = ((match es with
    | some e :: q => mtX P top sc nm x e && mtOs P top sc nm r q
    | _ => false)) := rfl
theorem mc_e0 {P : Pg} {sc : Scope} {nm : List Str} {es} : mtC P sc nm (none) es = (es.isEmpty) := rfl
theorem mc_e1 {P : Pg} {sc : Scope} {nm : List Str} {x} {es} : mtC P sc nm (some x) es = ((match es with
    | [e] => mtX P false sc nm x e
    | _ => false)) := rfl
theorem ms_e0 {P : Pg} {sc : Scope} {nm : List Str} {t} {e} {st} : mtS P sc nm (.assign t e) st = ((match st with
    | .Assign [tg] v _ => (notComp v || (isLC v && isComp e)) && mtT P sc nm t tg && mtX P true sc nm e v
    | _ => false)) := rfl
theorem ms_e1 {P : Pg} {sc : Scope} {nm : List Str} {e} {st} : mtS P sc nm (.expr e) st = ((match st with
    | .Expr v _ => notComp v && mtX P true sc nm e v
    | _ => false)) := rfl
theorem ms_e2 {P : Pg} {sc : Scope} {nm : List Str} {e} {st} : mtS P sc nm (.ret e) st = ((match st with
    | .Return (some v) _ => mtX P true sc nm e v
    | _ => false)) := rfl
theorem ms_e3 {P : Pg} {sc : Scope} {nm : List Str} {c} {a} {b} {st} : mtS P sc nm (.ite c a b) st = ((match st with
    | .If t x y _ => mtX P true sc nm c t && mtSs P sc nm a x && mtSs P sc nm b y
    | _ => false)) := rfl
theorem ms_e4 {P : Pg} {sc : Scope} {nm : List Str} {c} {b} {st} : mtS P sc nm (.while c b) st = ((match st with
    | .While t x [] _ => mtX P true sc nm c t && mtSs P sc nm b x
    | _ => false)) := rfl
theorem ms_fa {P : Pg} {sc : Scope} {nm : List Str} {i} {it} {b} {st} : mtS P sc nm (.for (.var i) it b) st = ((match st with
      | .For tg iter x [] _ => notSet iter && tgtOk sc nm i tg && mtX P true sc nm it iter && mtSs P sc nm b x
      | _ => false)) := rfl
theorem ms_fb {P : Pg} {sc : Scope} {nm : List Str} {is} {it} {b} {st} : mtS P sc nm (.for (.tup is) it b) st = (false) := rfl
theorem ms_e6 {P : Pg} {sc : Scope} {nm : List Str} {st} : mtS P sc nm (.pass) st = ((match st with
    | .Pass _ => true
    | _ => false)) := rfl
theorem mss_e0 {P : Pg} {sc : Scope} {nm : List Str} {es} : mtSs P sc nm ([]) es = (es.isEmpty) := rfl
theorem mss_e1 {P : Pg} {sc : Scope} {nm : List Str} {x} {r} {es} : mtSs P sc nm (x :: r) es = ((match es with
    | e :: q => mtS P sc nm x e && mtSs P sc nm r q
    | [] => false)) := rfl
end Mine

namespace Mine

noncomputable def HX (g : Gx) (A : Around) (R : RR) (V : VV) (s₀ : Shared) (x : X) (t : Sem Value) : Prop :=
  ∀ (H : AHeap) (s : Shared) (Q : AV → AHeap → Prop) (E : String → AHeap → Prop), St g.c R H s.heap → Sm s₀ s → wpX g x V Q E H → wpAny (model g.c.prog g.c.w) A t (TQ g R s₀ Q) (TE g R s₀ E) s
noncomputable def TT (g : Gx) (R : RR) (s₀ : Shared) (Q : AV → Bool → AHeap → Prop) (b : Bool) (s' : Shared) : Prop := ∃ v H', St g.c R H' s'.heap ∧ Sm s₀ s' ∧ Q v b H' ∧ ∀ P : Bool → Prop, wtruth v H' P → P b
noncomputable def HT (g : Gx) (A : Around) (R : RR) (V : VV) (s₀ : Shared) (x : X) (t : Sem Bool) : Prop :=
  ∀ (H : AHeap) (s : Shared) (Q : AV → Bool → AHeap → Prop) (E : String → AHeap → Prop), St g.c R H s.heap → Sm s₀ s → wpX g x V (fun v H => wtruth v H fun b => Q v b H) E H →
    wpAny (model g.c.prog g.c.w) A t (TT g R s₀ Q) (TE g R s₀ E) s
noncomputable def TQs (g : Gx) (R : RR) (s₀ : Shared) (Q : List AV → AHeap → Prop) (vs : List Value) (s' : Shared) : Prop := ∃ as H', VRs as vs ∧ St g.c R H' s'.heap ∧ Sm s₀ s' ∧ Q as H'
noncomputable def HXs (g : Gx) (A : Around) (R : RR) (V : VV) (s₀ : Shared) (xs : List X) (t : Sem (List Value)) : Prop :=
  ∀ (H : AHeap) (s : Shared) (Q : List AV → AHeap → Prop) (E : String → AHeap → Prop), St g.c R H s.heap → Sm s₀ s → wpXs g xs V Q E H → wpAny (model g.c.prog g.c.w) A t (TQs g R s₀ Q) (TE g R s₀ E) s

theorem wtruth_self {v : AV} {H : AHeap} {P : Bool → Prop} (h : wtruth v H P) : ∃ b, P b ∧ (∀ P' : Bool → Prop, wtruth v H P' → P' b) ∧ ∀ P' : Bool → Prop, P' b → wtruth v H P' := by
  cases v with
  | none => exact ⟨_, h, fun _ x => x, fun _ x => x⟩
  | bool b => exact ⟨_, h, fun _ x => x, fun _ x => x⟩
  | int i => exact ⟨_, h, fun _ x => x, fun _ x => x⟩
  | str s => exact ⟨_, h.2, fun _ x => x.2, fun _ x => ⟨h.1, x⟩⟩
  | ref a =>
    unfold wtruth at h ⊢
    dsimp only at h ⊢
    split at h
    · exact ⟨_, h.2, fun P' x => x.2, fun P' x => ⟨h.1, x⟩⟩
    · exact ⟨_, h.2, fun P' x => x.2, fun P' x => ⟨h.1, x⟩⟩
    · exact h.elim

section
variable {g : Gx} {A : Around} {R : RR} {V : VV} {s₀ : Shared} {env : Env} {mg mb : Str → Option Value} {e₀ : Env} {l₀ : List Env}

/-- a value's truth asked -/
theorem s_truthT {H : AHeap} {s : Shared} {v : Value} {a : AV} {Q : AV → Bool → AHeap → Prop} {E : Value → Shared → Prop} (hv : VR a v) (S : St g.c R H s.heap) (m : Sm s₀ s) (q : wtruth a H (fun b => Q a b H)) :
    wpAny (model g.c.prog g.c.w) A (truthy v) (TT g R s₀ Q) E s := by
  obtain ⟨b, qb, hb, hb'⟩ := wtruth_self q
  refine wpAny_mono (s_truth (A := A) (E := E) (Qb := fun b' H' => H' = H ∧ b' = b) hv S m (hb' _ ⟨rfl, rfl⟩)) (fun b' s' h => ?_) fun _ _ x => x
  obtain ⟨H', S', m', e1, e2⟩ := h
  subst e1 e2
  exact ⟨a, H', S', m', qb, hb⟩

theorem HT.plain {x : X} {e : PySem.Expr} {whole : Sem Value} (h : HX g A R V s₀ x whole) (he : isTrue e env whole = (do let v ← whole; standAt e.pos; holding [v] (truthy v))) :
    HT g A R V s₀ x (isTrue e env whole) := fun H s Q E S m q => by
  refine isTrue_plain (wpAny_mono (h H s _ E S m q) (fun v s' z => ?_) fun _ _ z => z) he
  obtain ⟨a, H', hv, S', m', q'⟩ := z
  exact s_truthT hv S' m' q'

theorem hx_lit {v : AV} {cc : Const} {k : Nat} {p : Pos} (hc : litOk v cc = true) : HX g A R V s₀ (.lit v) (eval (.Constant cc k p) env) := fun H s Q E S m q => by
  unfold litOk at hc
  split at hc
  · exact wpAny_Constant_none (TQ.pure .none S m q)
  · rw [beq_iff_eq.mp hc] at q; exact wpAny_Constant_bool (TQ.pure (.bool _) S m q)
  · rw [beq_iff_eq.mp hc] at q; exact wpAny_Constant_int (TQ.toks (.int _ _) S m q)
  · obtain ⟨h1, h2⟩ := Bool.and_eq_true_iff.mp hc
    rw [beq_iff_eq.mp h1] at q h2
    exact wpAny_Constant_str (TQ.toks (.str _ _ h2) S m q)
  · cases hc

theorem hx_var {sc : Scope} {nm : List Str} {i : Nat} {id : Str} {p : Pos} (fr : Frm R env sc nm V) (h1 : nm[i]? = some id) (h2 : kindOk sc id = true) (h3 : plainName id = true) :
    HX g A R V s₀ (.var i) (eval (.Name id p) env) := fun H s Q E S m q => by
  unfold plainName at h3
  simp only [Bool.and_eq_true, Bool.not_eq_true'] at h3
  simp only [x_e0, x_e1, x_e2, x_e3, x_e4, x_e5, x_e6, x_e7, x_e8, x_e9, x_e10, x_e11, x_e12, x_e13, x_d0, x_d1, x_e15] at q
  rcases fr.kok id h2 with k | k | k
  · obtain ⟨mm, r1, r2⟩ := fr.ns
    obtain ⟨v, e, ov⟩ := r2 i id h1 k
    rw [e] at q
    generalize hw : mm id = w at ov
    cases ov with
    | none => exact q.elim
    | some hv => exact wpAny_Name (wpAny_loadName_local fr.kind k (S.res _ _ r1).2 hw (TQ.pure hv S m q)) h3.1
  · obtain ⟨a, x, v, e1, e2, e3, ov⟩ := fr.cell i id h1 (.inl k)
    rw [e3] at q
    cases ov with
    | none => exact q.elim
    | some hv => exact wpAny_Name (wpAny_loadName_cell fr.kind k e1 (S.res _ _ e2).2 (TQ.pure hv S m q)) h3.1
  · obtain ⟨a, x, v, e1, e2, e3, ov⟩ := fr.cell i id h1 (.inr k)
    rw [e3] at q
    cases ov with
    | none => exact q.elim
    | some hv => exact wpAny_Name (wpAny_loadName_free fr.kind k e1 (S.res _ _ e2).2 (TQ.pure hv S m q) h3.2) h3.1

/-- a global name of the text's, or a built-in one -/
theorem glob_K {sc : Scope} {nm : List Str} {n : String} {e : PySem.Expr} {v : Value} {H : AHeap} {s : Shared} {Q : Value → Shared → Prop} {E : Value → Shared → Prop} (C : g.c.Ok mg mb) (fr : Frm R env sc nm V) (S : St g.c R H s.heap)
    (hn : nameIs sc n e = true) (hk : nsIn g.c.K mainGlobals (Str.ofString n) = some (some v)) (q : Q v s) : wpAny (model g.c.prog g.c.w) A (eval e env) Q E s := by
  unfold nameIs at hn
  split at hn
  · rename_i id p
    simp only [Bool.and_eq_true, beq_iff_eq] at hn
    obtain ⟨⟨h1, h2⟩, h3⟩ := hn
    unfold plainName at h3
    simp only [Bool.and_eq_true, Bool.not_eq_true'] at h3
    subst h1
    refine Name_function_global fr.kind (fr.sco _ h2) (loadGlobal_global (mg := mg) ?_ (mg_of C.kin C.g hk) q) h3.1
    rw [fr.glob]; exact C.g.keeps S.stays
  · cases hn
theorem glob_B {sc : Scope} {nm : List Str} {n : String} {e : PySem.Expr} {v : Value} {H : AHeap} {s : Shared} {Q : Value → Shared → Prop} {E : Value → Shared → Prop} (C : g.c.Ok mg mb) (fr : Frm R env sc nm V) (S : St g.c R H s.heap)
    (hn : nameIs sc n e = true) (hk : nsIn g.c.K mainGlobals (Str.ofString n) = some none) (hne : (Str.ofString n == Str.ofString "__name__") = false) (hb : bootBuiltins (Str.ofString n) = some v) (q : Q v s) :
    wpAny (model g.c.prog g.c.w) A (eval e env) Q E s := by
  unfold nameIs at hn
  split at hn
  · rename_i id p
    simp only [Bool.and_eq_true, beq_iff_eq] at hn
    obtain ⟨⟨h1, h2⟩, h3⟩ := hn
    unfold plainName at h3
    simp only [Bool.and_eq_true, Bool.not_eq_true'] at h3
    subst h1
    have hne' : Str.ofString n ≠ "__name__" := fun z => by rw [z] at hne; simp at hne
    refine Name_function_global fr.kind (fr.sco _ h2) (loadGlobal_builtin (mg := mg) (mb := mb) ?_ (mg_none_of C.kin C.g hk) ?_ ((C.builtins _ hne').trans hb) q) h3.1
    · rw [fr.glob]; exact C.g.keeps S.stays
    · rw [fr.blt]; exact C.b.keeps S.stays
  · cases hn

theorem hx_bin {op : Operator} {a b : X} {l r : PySem.Expr} {p : Pos} (C : g.c.Ok mg mb) (ev : Ev g A R e₀ l₀) (ha : HX g A R V s₀ a (eval l env)) (hb : HX g A R V s₀ b (eval r env)) : HX g A R V s₀ (.bin op a b) (eval (.BinOp l op r p) env) :=
  fun H s Q E S m q => by
  simp only [x_e0, x_e1, x_e2, x_e3, x_e4, x_e5, x_e6, x_e7, x_e8, x_e9, x_e10, x_e11, x_e12, x_e13, x_d0, x_d1, x_e15] at q
  refine wpAny_BinOp (wpAny_mono (ha H s _ E S m q) (fun u s₁ z => ?_) fun _ _ z => z)
  obtain ⟨au, H₁, hu, S₁, m₁, q₁⟩ := z
  refine wpAny_mono (hb H₁ s₁ _ E S₁ m₁ q₁) (fun v s₂ z => ?_) fun _ _ z => z
  obtain ⟨av, H₂, hv, S₂, m₂, q₂⟩ := z
  exact s_bin C ev hu hv S₂ m₂ q₂

theorem hx_neg {a : X} {l : PySem.Expr} {p : Pos} (ha : HX g A R V s₀ a (eval l env)) : HX g A R V s₀ (.neg a) (eval (.UnaryOp .USub l p) env) := fun H s Q E S m q => by
  simp only [x_e0, x_e1, x_e2, x_e3, x_e4, x_e5, x_e6, x_e7, x_e8, x_e9, x_e10, x_e11, x_e12, x_e13, x_d0, x_d1, x_e15] at q
  refine wpAny_UnaryOp (wpAny_mono (ha H s _ E S m q) (fun u s₁ z => ?_) fun _ _ z => z)
  obtain ⟨au, H₁, hu, S₁, m₁, q₁⟩ := z
  split at q₁
  · cases hu; exact neg_int (TQ.toks (.int _ _) S₁ m₁ q₁)
  · exact q₁.elim

theorem hx_not {a : X} {l : PySem.Expr} {p : Pos} (ha : HX g A R V s₀ a (eval l env)) : HX g A R V s₀ (.not a) (eval (.UnaryOp .Not l p) env) := fun H s Q E S m q => by
  simp only [x_e0, x_e1, x_e2, x_e3, x_e4, x_e5, x_e6, x_e7, x_e8, x_e9, x_e10, x_e11, x_e12, x_e13, x_d0, x_d1, x_e15] at q
  refine wpAny_UnaryOp (wpAny_mono (ha H s _ E S m q) (fun u s₁ z => ?_) fun _ _ z => z)
  obtain ⟨au, H₁, hu, S₁, m₁, q₁⟩ := z
  refine not_of (wpAny_mono (s_truth hu S₁ m₁ (Qb := fun b H => Q (.bool (!b)) H) q₁) (fun b s₂ z => ?_) fun _ _ z => z)
  obtain ⟨H₂, S₂, m₂, q₂⟩ := z
  exact TQ.pure (.bool _) S₂ m₂ q₂
theorem ht_not {a : X} {l : PySem.Expr} {p : Pos} {whole : Sem Value} (ha : HT g A R V s₀ a (isTrue l env (eval l env))) : HT g A R V s₀ (.not a) (isTrue (.UnaryOp .Not l p) env whole) := fun H s Q E S m q => by
  simp only [x_e0, x_e1, x_e2, x_e3, x_e4, x_e5, x_e6, x_e7, x_e8, x_e9, x_e10, x_e11, x_e12, x_e13, x_d0, x_d1, x_e15] at q
  refine isTrue_not (wpAny_mono (ha H s (fun _ b H => Q (.bool (!b)) (!b) H) E S m q) (fun b s₁ z => ?_) fun _ _ z => z)
  obtain ⟨v, H₁, S₁, m₁, q₁, _⟩ := z
  exact ⟨.bool (!b), H₁, S₁, m₁, q₁, fun P z => z⟩

theorem hx_cmp {op : CmpOp} {a b : X} {l r : PySem.Expr} {p : Pos} (C : g.c.Ok mg mb) (ev : Ev g A R e₀ l₀) (hm : behindInMarks op r = false) (ha : HX g A R V s₀ a (eval l env)) (hb : HX g A R V s₀ b (eval r env)) :
    HX g A R V s₀ (.cmp op a b) (eval (.Compare l [op] [r] p) env) := fun H s Q E S m q => by
  simp only [x_e0, x_e1, x_e2, x_e3, x_e4, x_e5, x_e6, x_e7, x_e8, x_e9, x_e10, x_e11, x_e12, x_e13, x_d0, x_d1, x_e15] at q
  refine wpAny_Compare1 (wpAny_mono (ha H s _ E S m q) (fun u s₁ z => ?_) fun _ _ z => z) hm
  obtain ⟨au, H₁, hu, S₁, m₁, q₁⟩ := z
  refine wpAny_mono (hb H₁ s₁ _ E S₁ m₁ q₁) (fun v s₂ z => ?_) fun _ _ z => z
  obtain ⟨av, H₂, hv, S₂, m₂, q₂⟩ := z
  exact s_cmp C ev hu hv S₂ m₂ q₂
theorem ht_cmp {op : CmpOp} {a b : X} {l r : PySem.Expr} {p : Pos} {whole : Sem Value} (C : g.c.Ok mg mb) (ev : Ev g A R e₀ l₀) (hm : behindInMarks op r = false) (ha : HX g A R V s₀ a (eval l env)) (hb : HX g A R V s₀ b (eval r env)) :
    HT g A R V s₀ (.cmp op a b) (isTrue (.Compare l [op] [r] p) env whole) := fun H s Q E S m q => by
  simp only [x_e0, x_e1, x_e2, x_e3, x_e4, x_e5, x_e6, x_e7, x_e8, x_e9, x_e10, x_e11, x_e12, x_e13, x_d0, x_d1, x_e15] at q
  refine wpAny_isTrue_Compare1 (wpAny_mono (ha H s _ E S m q) (fun u s₁ z => ?_) fun _ _ z => z) hm
  obtain ⟨au, H₁, hu, S₁, m₁, q₁⟩ := z
  refine wpAny_mono (hb H₁ s₁ _ E S₁ m₁ q₁) (fun v s₂ z => ?_) fun _ _ z => z
  obtain ⟨av, H₂, hv, S₂, m₂, q₂⟩ := z
  refine wpAny_mono (s_cmp C ev hu hv S₂ m₂ q₂) (fun c s₃ z => ?_) fun _ _ z => z
  obtain ⟨ac, H₃, hc, S₃, m₃, q₃⟩ := z
  exact s_truthT hc S₃ m₃ q₃

/-- lists of trees that are each an expression's -/
inductive Each (P : X → PySem.Expr → Prop) : List X → List PySem.Expr → Prop
  | nil : Each P [] []
  | cons {x e xs es} : P x e → Each P xs es → Each P (x :: xs) (e :: es)

theorem hx_ao {isAnd : Bool} {p : Pos} : ∀ {xs : List X} {es : List PySem.Expr}, Each (fun x e => HX g A R V s₀ x (eval e env)) xs es → HX g A R V s₀ (.ao isAnd xs) (boolOp p (if isAnd then .And else .Or) (evalEach es env))
  | _, _, .nil => fun H s Q E S m q => by simp [x_e0, x_e1, x_e2, x_e3, x_e4, x_e5, x_e6, x_e7, x_e8, x_e9, x_e10, x_e11, x_e12, x_e13, x_d0, x_d1, x_e15, ao_e0, ao_e1] at q
  | [x], [e], .cons hx .nil => fun H s Q E S m q => by
    simp only [x_e0, x_e1, x_e2, x_e3, x_e4, x_e5, x_e6, x_e7, x_e8, x_e9, x_e10, x_e11, x_e12, x_e13, x_d0, x_d1, x_e15, ao_e0, ao_e1] at q
    show wpAny _ _ (eval e env) _ _ _
    exact hx H s Q E S m q
  | x :: y :: xs, e :: f :: es, .cons hx (.cons hy r) => fun H s Q E S m q => by
    have ih := hx_ao (isAnd := isAnd) (p := p) (.cons hy r)
    simp only [x_e0, x_e1, x_e2, x_e3, x_e4, x_e5, x_e6, x_e7, x_e8, x_e9, x_e10, x_e11, x_e12, x_e13, x_d0, x_d1, x_e15] at q ih
    simp only [ao_e0, ao_e1] at q
    show wpAny _ _ (do
      let v ← eval e env
      standAt p
      let t ← holding [v] (truthy v)
      match (if isAnd then PySem.BoolOp.And else PySem.BoolOp.Or), t with
      | .And, false | .Or, true => pure v
      | _, _ => boolOp p (if isAnd then .And else .Or) (evalEach (f :: es) env)) _ _ _
    refine wpAny_bind (wpAny_mono (hx H s _ E S m q) (fun v s₁ z => ?_) fun _ _ z => z)
    obtain ⟨av, H₁, hv, S₁, m₁, q₁⟩ := z
    refine wpAny_bind (wpAny_standAt (wpAny_bind (wpAny_holding (wpAny_mono (s_truth (Qb := fun b H => if b = isAnd then wpAO g isAnd (y :: xs) V Q E H else Q av H) hv S₁ m₁ q₁) (fun t s₂ z => ?_) fun _ _ z => z))))
    obtain ⟨H₂, S₂, m₂, q₂⟩ := z
    have ih' := ih H₂ s₂ Q E S₂ m₂
    simp only [x_e0, x_e1, x_e2, x_e3, x_e4, x_e5, x_e6, x_e7, x_e8, x_e9, x_e10, x_e11, x_e12, x_e13, x_d0, x_d1, x_e15] at ih'
    cases isAnd <;> cases t <;> simp only [Bool.false_eq_true, if_false, if_true, reduceIte] at q₂ ih' ⊢
    · exact ih' q₂
    · exact wpAny_pure (TQ.pure hv S₂ m₂ q₂)
    · exact wpAny_pure (TQ.pure hv S₂ m₂ q₂)
    · exact ih' q₂

theorem ht_ao {isAnd : Bool} : ∀ {xs : List X} {es : List PySem.Expr}, Each (fun x e => HT g A R V s₀ x (isTrue e env (eval e env))) xs es → HT g A R V s₀ (.ao isAnd xs) (allTrue (if isAnd then .And else .Or) es env)
  | _, _, .nil => fun H s Q E S m q => by simp [x_e0, x_e1, x_e2, x_e3, x_e4, x_e5, x_e6, x_e7, x_e8, x_e9, x_e10, x_e11, x_e12, x_e13, x_d0, x_d1, x_e15, ao_e0, ao_e1] at q
  | [x], [e], .cons hx .nil => fun H s Q E S m q => by
    simp only [x_e0, x_e1, x_e2, x_e3, x_e4, x_e5, x_e6, x_e7, x_e8, x_e9, x_e10, x_e11, x_e12, x_e13, x_d0, x_d1, x_e15, ao_e0, ao_e1] at q
    rw [arm_allTrue_cons]
    refine wpAny_bind (wpAny_mono (hx H s Q E S m q) (fun t s₁ z => ?_) fun _ _ z => z)
    cases isAnd <;> cases t <;> exact wpAny_pure z
  | x :: y :: xs, e :: f :: es, .cons hx (.cons hy r) => fun H s Q E S m q => by
    have ih := ht_ao (isAnd := isAnd) (.cons hy r)
    simp only [x_e0, x_e1, x_e2, x_e3, x_e4, x_e5, x_e6, x_e7, x_e8, x_e9, x_e10, x_e11, x_e12, x_e13, x_d0, x_d1, x_e15] at q
    simp only [ao_e0, ao_e1] at q
    rw [arm_allTrue_cons]
    refine wpAny_bind (wpAny_mono (hx H s (fun v b H => if b = isAnd then wpAO g isAnd (y :: xs) V (fun v H => wtruth v H fun b => Q v b H) E H else wtruth v H fun b => Q v b H) E S m q) (fun t s₁ z => ?_) fun _ _ z => z)
    obtain ⟨v, H₁, S₁, m₁, q₁, hb⟩ := z
    have ih' := ih H₁ s₁ Q E S₁ m₁
    simp only [x_e0, x_e1, x_e2, x_e3, x_e4, x_e5, x_e6, x_e7, x_e8, x_e9, x_e10, x_e11, x_e12, x_e13, x_d0, x_d1, x_e15] at ih'
    cases isAnd <;> cases t <;> simp only [Bool.false_eq_true, if_false, if_true, reduceIte] at q₁ ih' ⊢
    · exact ih' q₁
    · exact wpAny_pure ⟨v, H₁, S₁, m₁, hb (fun b => Q v b H₁) q₁, hb⟩
    · exact wpAny_pure ⟨v, H₁, S₁, m₁, hb (fun b => Q v b H₁) q₁, hb⟩
    · exact ih' q₁
end
end Mine

namespace Mine

noncomputable def noStar : PySem.Expr → Bool
  | .Starred .. => false
  | _ => true
theorem mtX_noStar {P : Pg} {top : Bool} {sc : Scope} {nm : List Str} {x : X} {e : PySem.Expr} (h : mtX P top sc nm x e = true) : noStar e = true := by
  cases e <;> first | rfl | (exfalso; cases x <;> first | (cases h; done) | (rename_i a b t c d; replace h : mComp top t b sc nm _ _ _ _ = true := h; unfold mComp at h; simp at h; done))
theorem starEach_plain {e : PySem.Expr} {r : List PySem.Expr} {env : Env} (h : noStar e = true) : starEach (e :: r) env = (false, eval e env) :: starEach r env := by
  cases e <;> first | rfl | cases h
theorem backTo_cons {pos : Pos} {t : Sem Value} {r : List (Bool × Sem Value)} : backTo pos ((false, t) :: r) = (false, t) :: backTo pos r := rfl

section
variable {g : Gx} {A : Around} {R : RR} {V : VV} {s₀ : Shared} {env : Env} {mg mb : Str → Option Value} {e₀ : Env} {l₀ : List Env}

abbrev EachX (g : Gx) (A : Around) (R : RR) (V : VV) (s₀ : Shared) (env : Env) : List X → List PySem.Expr → Prop := Each (fun x e => HX g A R V s₀ x (eval e env) ∧ noStar e = true)

theorem hxs {pos : Pos} : ∀ {xs : List X} {es : List PySem.Expr}, EachX g A R V s₀ env xs es → HXs g A R V s₀ xs (spliced (backTo pos (starEach es env)))
  | _, _, .nil => fun H s Q E S m q => by
    simp only [xs_e0, xs_e1] at q
    exact spliced_nil ⟨[], H, .nil, S, m, q⟩
  | _, _, .cons hx r => fun H s Q E S m q => by
    simp only [xs_e0, xs_e1] at q
    rw [starEach_plain hx.2, backTo_cons]
    refine spliced_cons (wpAny_mono (hx.1 H s _ E S m q) (fun v s₁ z => ?_) fun _ _ z => z)
    obtain ⟨av, H₁, hv, S₁, m₁, q₁⟩ := z
    refine wpAny_mono (hxs r H₁ s₁ _ E S₁ m₁ q₁) (fun vs s₂ z => ?_) fun _ _ z => z
    obtain ⟨as, H₂, hvs, S₂, m₂, q₂⟩ := z
    exact ⟨av :: as, H₂, .cons hv hvs, S₂, m₂, q₂⟩

theorem each_plain {pos : Pos} : ∀ {xs : List X} {es : List PySem.Expr}, EachX g A R V s₀ env xs es → (backTo pos (starEach es env)).any (·.1) = false
  | _, _, .nil => rfl
  | _, _, .cons hx r => by
    rw [starEach_plain hx.2, backTo_cons, List.any_cons, each_plain r]; rfl

theorem args_of {pos : Pos} {f : Value} {xs : List X} {es : List PySem.Expr} {H : AHeap} {s : Shared} {Q' : List AV → AHeap → Prop} {E : String → AHeap → Prop} {Q : Args → Shared → Prop} (hx : EachX g A R V s₀ env xs es) (S : St g.c R H s.heap) (m : Sm s₀ s)
    (q : wpXs g xs V Q' E H) (k : ∀ as vs H' s', VRs as vs → St g.c R H' s'.heap → Sm s₀ s' → Q' as H' → Q ⟨vs, []⟩ s') :
    wpAny (model g.c.prog g.c.w) A (evalArgs f true (backTo pos (starEach es env)) []) Q (TE g R s₀ E) s := by
  have z := hxs (pos := pos) hx H s Q' E S m q
  cases hx with
  | nil =>
    simp only [xs_e0, xs_e1] at q
    exact evalArgs_nil3 (k [] [] H s .nil S m q)
  | cons hx r =>
    rw [starEach_plain hx.2, backTo_cons] at z ⊢
    refine evalArgs_plain (wpAny_mono z (fun vs s' z => ?_) fun _ _ z => z)
    obtain ⟨as, H', h1, h2, h3, h4⟩ := z
    exact k as vs H' s' h1 h2 h3 h4

/-- a call of the text's def or class -/
theorem cw_ref {pos : Pos} {f : Addr} {first : List Value} {xs : List X} {es : List PySem.Expr} {H : AHeap} {s : Shared} {Q' : List AV → AHeap → Prop} {E : String → AHeap → Prop} {Q : Value → Shared → Prop} (C : g.c.Ok mg mb) (hk : keepIn g.c.K (.ref f) = true)
    (hx : EachX g A R V s₀ env xs es) (S : St g.c R H s.heap) (m : Sm s₀ s) (q : wpXs g xs V Q' E H)
    (k : ∀ as vs H' s', VRs as vs → St g.c R H' s'.heap → Sm s₀ s' → Q' as H' → wpAny (model g.c.prog g.c.w) A (call (.ref f) (first ++ vs)) Q (TE g R s₀ E) s') :
    wpAny (model g.c.prog g.c.w) A (callWith pos (.ref f) first (backTo pos (starEach es env)) []) Q (TE g R s₀ E) s :=
  callWith_of (P := fun h => g.c.K.In h) (by rw [each_plain hx]; rfl) (keeps_K hk) (args_of hx S m q fun as vs H' s' h1 h2 h3 h4 => ⟨C.kin.keeps h2.stays, k as vs H' s' h1 h2 h3 h4⟩)
theorem cw_prim {pos : Pos} {f : Value} {first : List Value} {xs : List X} {es : List PySem.Expr} {H : AHeap} {s : Shared} {Q' : List AV → AHeap → Prop} {E : String → AHeap → Prop} {Q : Value → Shared → Prop} (hf : (∃ i, f = .builtin i) ∨ ∃ i, f = .type i)
    (hx : EachX g A R V s₀ env xs es) (S : St g.c R H s.heap) (m : Sm s₀ s) (q : wpXs g xs V Q' E H)
    (k : ∀ as vs H' s', VRs as vs → St g.c R H' s'.heap → Sm s₀ s' → Q' as H' → wpAny (model g.c.prog g.c.w) A (call f (first ++ vs)) Q (TE g R s₀ E) s') :
    wpAny (model g.c.prog g.c.w) A (callWith pos f first (backTo pos (starEach es env)) []) Q (TE g R s₀ E) s := by
  rcases hf with ⟨i, rfl⟩ | ⟨i, rfl⟩
  · exact Calls.callWith_builtin (each_plain hx) (args_of hx S m q k)
  · exact PyProof.Rows.callWith_type (each_plain hx) (args_of hx S m q k)

theorem nameIs_name {sc : Scope} {n : String} {e : PySem.Expr} (h : nameIs sc n e = true) : ∃ id p, e = .Name id p := by
  unfold nameIs at h
  split at h
  · exact ⟨_, _, rfl⟩
  · cases h

/-- a call met: its two ends -/
theorem callOK_at {f : String} {as : List AV} {vs : List Value} {H : AHeap} {s : Shared} {Q : AV → AHeap → Prop} {E : String → AHeap → Prop} (ev : Ev g A R e₀ l₀) (hv : VRs as vs) (S : St g.c R H s.heap) (m : Sm s₀ s)
    (q : CallOK g.c g.n g.md f as Q E H) : wpAny (model g.c.prog g.c.w) A (call (.ref (g.c.fa f)) vs) (TQ g R s₀ Q) (TE g R s₀ E) s := by
  refine wpAny_call (q A (e₀ :: l₀) R s vs _ ⟨ev.aok.frames, by have := ev.aok.depth; omega, by have := ev.aok.units; omega, ev.aok.hand⟩ ev.stk S hv ?_ ?_)
  · exact fun av v s' H' h1 h2 h3 h4 => ⟨av, H', h1, h2, m.trans h3, h4⟩
  · exact fun e cl s' H' h1 h2 h3 => ⟨e, cl, H', rfl, h1, m.trans h2, h3⟩

theorem hx_call {sc : Scope} {nm : List Str} {f : String} {fe : PySem.Expr} {args : List PySem.Expr} {xs : List X} {pos : Pos} (C : g.c.Ok mg mb) (PO : PgOk g.c) (ev : Ev g A R e₀ l₀) (fr : Frm R env sc nm V) (hn : nameIs sc f fe = true)
    (hg : g.c.P.gfns.contains f = true) (hx : EachX g A R V s₀ env xs args) : HX g A R V s₀ (.call f xs) (eval (.Call fe args [] pos) env) := fun H s Q E S m q => by
  simp only [x_e0, x_e1, x_e2, x_e3, x_e4, x_e5, x_e6, x_e7, x_e8, x_e9, x_e10, x_e11, x_e12, x_e13, x_d0, x_d1, x_e15] at q
  obtain ⟨h1, h2⟩ := PO.fn f hg
  obtain ⟨id, p, rfl⟩ := nameIs_name hn
  refine wpAny_Call_NameR (glob_K C fr S hn h1 ?_)
  refine cw_ref C h2 hx S m q fun as vs H' s' k1 k2 k3 k4 => ?_
  exact callOK_at ev k1 k2 k3 k4

theorem hx_prim {sc : Scope} {nm : List Str} {f : String} {fe : PySem.Expr} {args : List PySem.Expr} {xs : List X} {pos : Pos} (C : g.c.Ok mg mb) (PO : PgOk g.c) (fr : Frm R env sc nm V) (hn : nameIs sc f fe = true)
    (hg : g.c.P.prims.contains f = true) (hx : EachX g A R V s₀ env xs args) : HX g A R V s₀ (.prim f xs) (eval (.Call fe args [] pos) env) := fun H s Q E S m q => by
  simp only [x_e0, x_e1, x_e2, x_e3, x_e4, x_e5, x_e6, x_e7, x_e8, x_e9, x_e10, x_e11, x_e12, x_e13, x_d0, x_d1, x_e15] at q
  obtain ⟨h1, h2, h3⟩ := PO.prim f hg
  obtain ⟨id, p, rfl⟩ := nameIs_name hn
  refine wpAny_Call_NameR (glob_B C fr S hn h1 h2 h3 ?_)
  exact cw_prim (primVal_is f) hx S m q fun as vs H' s' k1 k2 k3 k4 => s_prim C k1 k2 k3 k4

theorem hx_isT {sc : Scope} {nm : List Str} {ty : String} {fe t x : PySem.Expr} {a : X} {pos : Pos} (C : g.c.Ok mg mb) (PO : PgOk g.c) (fr : Frm R env sc nm V) (hn : nameIs sc "isinstance" fe = true) (hg : g.c.P.prims.contains "isinstance" = true)
    (ht : g.c.P.prims.contains ty = true) (hn' : nameIs sc ty t = true) (hty : ty = "int" ∨ ty = "bool" ∨ ty = "str" ∨ ty = "list") (hx : HX g A R V s₀ a (eval x env)) (hs : noStar x = true) :
    HX g A R V s₀ (.isinst a ty) (eval (.Call fe [x, t] [] pos) env) := fun H s Q E S m q => by
  simp only [x_e0, x_e1, x_e2, x_e3, x_e4, x_e5, x_e6, x_e7, x_e8, x_e9, x_e10, x_e11, x_e12, x_e13, x_d0, x_d1, x_e15] at q
  obtain ⟨h1, h2, h3⟩ := PO.prim _ hg
  obtain ⟨k1, k2, k3⟩ := PO.prim _ ht
  obtain ⟨id, p, rfl⟩ := nameIs_name hn
  obtain ⟨id', p', rfl⟩ := nameIs_name hn'
  refine wpAny_Call_NameR (glob_B C fr S hn h1 h2 h3 ?_)
  refine Calls.callWith_builtin (by rw [starEach_plain hs, starEach_plain rfl]; rfl) ?_
  rw [starEach_plain hs, backTo_cons, starEach_plain rfl, backTo_cons]
  refine evalArgs_plain (spliced_cons (wpAny_mono (hx H s _ E S m q) (fun v s₁ z => ?_) fun _ _ z => z))
  obtain ⟨av, H₁, hv, S₁, m₁, q₁⟩ := z
  refine spliced_cons (glob_B C fr S₁ hn' k1 k2 k3 (spliced_nil ?_))
  have hp : primVal ty = .type ty := by rcases hty with rfl | rfl | rfl | rfl <;> rfl
  rw [hp]
  split at q₁
  · rename_i b hb
    unfold isinstV at hb
    rw [if_pos hty] at hb
    obtain ⟨k, e1, e2⟩ := Option.map_eq_some_iff.mp hb
    exact s_isT hv S₁ m₁ e1 hty e2 q₁
  · exact q₁.elim

theorem hx_sub {a i : X} {v sl : PySem.Expr} {pos : Pos} (C : g.c.Ok mg mb) (hns : noSlice sl = true) (ha : HX g A R V s₀ a (eval v env)) (hi : HX g A R V s₀ i (eval sl env)) : HX g A R V s₀ (.sub a i) (eval (.Subscript v sl pos) env) :=
  fun H s Q E S m q => by
  simp only [x_e0, x_e1, x_e2, x_e3, x_e4, x_e5, x_e6, x_e7, x_e8, x_e9, x_e10, x_e11, x_e12, x_e13, x_d0, x_d1, x_e15] at q
  refine Subscript_ (wpAny_mono (ha H s _ E S m q) (fun u s₁ z => ?_) fun _ _ z => z)
  obtain ⟨au, H₁, hu, S₁, m₁, q₁⟩ := z
  refine wpAny_mono (hi H₁ s₁ _ E S₁ m₁ q₁) (fun w s₂ z => ?_) fun _ _ z => z
  obtain ⟨aw, H₂, hw, S₂, m₂, q₂⟩ := z
  exact s_sub C hu hw S₂ m₂ q₂ (by intro o j; cases sl <;> first | rfl | cases hns)

noncomputable def HO (g : Gx) (A : Around) (R : RR) (V : VV) (s₀ : Shared) (env : Env) : Option X → Option PySem.Expr → Prop
  | none, none => True
  | some x, some e => HX g A R V s₀ x (eval e env)
  | _, _ => False
theorem ho_at {o : Option X} {oe : Option PySem.Expr} {H : AHeap} {s : Shared} {Q : Option AV → AHeap → Prop} {E : String → AHeap → Prop} (h : HO g A R V s₀ env o oe) (S : St g.c R H s.heap) (m : Sm s₀ s) (q : wpO g o V Q E H) :
    wpAny (model g.c.prog g.c.w) A (valueOrNone (evalOpt oe env)) (fun v s' => ∃ a H', ((a = none ∧ v = .none) ∨ ∃ x, a = some x ∧ VR x v) ∧ St g.c R H' s'.heap ∧ Sm s₀ s' ∧ Q a H') (TE g R s₀ E) s := by
  cases o with
  | none => cases oe with
    | none => simp only [xo_e0, xo_e1] at q; exact wpAny_pure ⟨none, H, .inl ⟨rfl, rfl⟩, S, m, q⟩
    | some => exact h.elim
  | some x => cases oe with
    | none => exact h.elim
    | some e =>
      simp only [xo_e0, xo_e1] at q
      refine wpAny_mono (h H s _ E S m q) (fun v s' z => ?_) fun _ _ z => z
      obtain ⟨a, H', hv, S', m', q'⟩ := z
      exact ⟨some a, H', .inr ⟨a, rfl, hv⟩, S', m', q'⟩

theorem hx_slice {a : X} {lo hi st : Option X} {v : PySem.Expr} {l u t : Option PySem.Expr} {p pos : Pos} (ha : HX g A R V s₀ a (eval v env)) (hl : HO g A R V s₀ env lo l) (hu : HO g A R V s₀ env hi u) (ht : HO g A R V s₀ env st t) :
    HX g A R V s₀ (.slice a lo hi st) (eval (.Subscript v (.Slice l u t p) pos) env) := fun H s Q E S m q => by
  simp only [x_e0, x_e1, x_e2, x_e3, x_e4, x_e5, x_e6, x_e7, x_e8, x_e9, x_e10, x_e11, x_e12, x_e13, x_d0, x_d1, x_e15] at q
  refine Subscript_ (wpAny_mono (ha H s _ E S m q) (fun o s₁ z => ?_) fun _ _ z => z)
  obtain ⟨ao, H₁, ho, S₁, m₁, q₁⟩ := z
  rw [arm_eval_Slice]
  refine wpAny_bind (wpAny_mono (ho_at hl S₁ m₁ q₁) (fun vl s₂ z => ?_) fun _ _ z => z)
  obtain ⟨al, H₂, hvl, S₂, m₂, q₂⟩ := z
  refine wpAny_bind (wpAny_holding (wpAny_mono (ho_at hu S₂ m₂ q₂) (fun vu s₃ z => ?_) fun _ _ z => z))
  obtain ⟨au, H₃, hvu, S₃, m₃, q₃⟩ := z
  refine wpAny_bind (wpAny_holding (wpAny_mono (ho_at ht S₃ m₃ q₃) (fun vt s₄ z => ?_) fun _ _ z => z))
  obtain ⟨at', H₄, hvt, S₄, m₄, q₄⟩ := z
  unfold newFields
  refine wpAny_newObj_type ?_ (by show (3:Nat) ≤ sizeLine + 2; exact Nat.le_of_ble_eq_true (by rfl))
  exact s_slice ho hvl hvu hvt S₄ m₄ q₄

theorem handed_of {a : AV} {v : Value} (h : VR a v) : handedIn v = true := by cases h <;> rfl

theorem ofString_inj {a b : String} (h : Str.ofString a = Str.ofString b) : a = b := by
  rw [Str.ofString_eq_toList, Str.ofString_eq_toList] at h
  have h1 := congrArg (fun x : Str => x.cps.toList) h
  simp only [List.toList_toArray] at h1
  have h2 := (List.map_inj_right (f := Char.toNat) fun x y e => Char.ext (UInt32.toNat_inj.mp e)).mp h1
  exact String.ext h2

theorem attr_base {v : PySem.Expr} {at' : Str} (hb : baseOk v = true) : attributeBase v at' env (eval v env) = eval v env := by
  unfold attributeBase
  split
  · cases hb
  · rfl

end
end Mine

namespace Mine

section
variable {g : Gx} {A : Around} {R : RR} {V : VV} {s₀ : Shared} {env : Env} {mg mb : Str → Option Value} {e₀ : Env} {l₀ : List Env}

theorem hxsL {pos : Pos} : ∀ {xs : List X} {es : List PySem.Expr}, EachX g A R V s₀ env xs es → ∀ (H : AHeap) (s : Shared) (Q : List AV → AHeap → Prop) (E : String → AHeap → Prop), St g.c R H s.heap → Sm s₀ s → wpXs g xs V Q E H →
    wpAny (model g.c.prog g.c.w) A (spliced (backTo pos (starEach es env))) (fun vs s' => vs.length = es.length ∧ TQs g R s₀ Q vs s') (TE g R s₀ E) s
  | _, _, .nil => fun H s Q E S m q => by
    simp only [xs_e0, xs_e1] at q
    exact spliced_nil ⟨rfl, [], H, .nil, S, m, q⟩
  | _, _, .cons hx r => fun H s Q E S m q => by
    simp only [xs_e0, xs_e1] at q
    rw [starEach_plain hx.2, backTo_cons]
    refine spliced_cons (wpAny_mono (hx.1 H s _ E S m q) (fun v s₁ z => ?_) fun _ _ z => z)
    obtain ⟨av, H₁, hv, S₁, m₁, q₁⟩ := z
    refine wpAny_mono (hxsL r H₁ s₁ _ E S₁ m₁ q₁) (fun vs s₂ z => ?_) fun _ _ z => z
    obtain ⟨hl, as, H₂, hvs, S₂, m₂, q₂⟩ := z
    exact ⟨by simp [hl], av :: as, H₂, .cons hv hvs, S₂, m₂, q₂⟩

theorem hx_list {xs : List X} {es : List PySem.Expr} {pos : Pos} (hx : EachX g A R V s₀ env xs es) (hl : es.length < 1000) : HX g A R V s₀ (.list xs) (eval (.List es pos) env) := fun H s Q E S m q => by
  simp only [x_e0, x_e1, x_e2, x_e3, x_e4, x_e5, x_e6, x_e7, x_e8, x_e9, x_e10, x_e11, x_e12, x_e13, x_d0, x_d1, x_e15] at q
  refine wpAny_List (wpAny_mono (hxsL hx H s _ E S m q) (fun vs s₁ z => ?_) fun _ _ z => z)
  obtain ⟨hn, as, H₁, hv, S₁, m₁, q₁⟩ := z
  refine ⟨by rw [hn]; unfold sizeLine; omega, ?_⟩
  obtain ⟨e, S'⟩ := S₁.newObj (o := .list as) (Nat.le_refl _) (fun _ _ z => Heap.get?_push_of_some _ z) (by rw [Heap.size_push]; omega) (by intro _ _ z; cases z) (fun D => ⟨vs, 0, Heap.get?_push_size _ rfl, hv⟩)
  exact ⟨_, _, .ref _, S', m₁.heap _, q₁ _ e⟩

theorem hx_dict0 {pos : Pos} : HX g A R V s₀ (.dict [] []) (eval (.Dict [] [] pos) env) := fun H s Q E S m q => by
  simp only [x_e0, x_e1, x_e2, x_e3, x_e4, x_e5, x_e6, x_e7, x_e8, x_e9, x_e10, x_e11, x_e12, x_e13, x_d0, x_d1, x_e15] at q
  refine wpAny_Dict_empty ?_
  obtain ⟨e, S'⟩ := S.newObj (o := .dict 0 []) (h' := s.heap.push { cls := .type "dict", data := .dict #[] }) (Nat.le_refl _) (fun _ _ z => Heap.get?_push_of_some _ z) (by rw [Heap.size_push]; omega) (by intro _ _ z; cases z) (fun D => ⟨[], ⟨_, #[], Heap.get?_push_size _ rfl, ⟨rfl, rfl, rfl⟩, rfl, fun _ h => by simp at h, .nil, List.nodup_nil⟩, .nil⟩)
  · exact ⟨_, _, .ref _, S', m.heap _, q _ e⟩

theorem each_all {pos : Pos} : ∀ {xs : List X} {es : List PySem.Expr}, EachX g A R V s₀ env xs es → (backTo pos (starEach es env)).all (fun x => !x.1) = true
  | _, _, .nil => rfl
  | _, _, .cons hx r => by
    rw [starEach_plain hx.2, backTo_cons, List.all_cons, each_all r]; rfl

theorem meth_call {M : Model} {E : Value → Shared → Prop} {s : Shared} {o : PySem.Expr} {name : Str} {apos pos : Pos} {args : List PySem.Expr} {Q : Value → Shared → Prop} (hb : baseOk o = true) (hall : (backTo pos (starEach args env)).all (fun x => !x.1) = true)
    (hlen : args.length < 29) (hline : (apos.endLine == pos.line) = true)
    (h : wpAny M A (eval o env) (fun ov s₁ => ∀ pl, wpAny M A (getMethod ov name pl) (fun fx s₂ => wpAny M A (callWith pos fx.1 fx.2 (backTo pos (starEach args env)) []) Q E s₂) E s₁) E s) :
    wpAny M A (eval (.Call (.Attribute o name apos) args [] pos) env) Q E s := by
  rw [arm_eval_Call, attr_base hb]
  refine wpAny_bind (wpAny_mono h (fun ov s₁ h₁ => ?_) fun _ _ e => e)
  refine wpAny_bind (wpAny_standAt ?_)
  have hform : methodCallForm (args.length + ([] : List Keyword).length) (backTo pos (starEach args env)) (backToKw pos (keywordEach [] env)) = true := by
    unfold methodCallForm
    rw [hall]
    simp only [Bool.true_and]
    show (true && decide (args.length + 0 + 0 < 30)) = true
    simp; omega
  have hpos : methodCallPos true o env apos pos = pure pos := by unfold methodCallPos; simp [hline]
  unfold methodCall
  rw [hform]
  refine wpAny_bind (wpAny_holding (wpAny_mono (h₁ _) (fun fx s₂ h₂ => ?_) fun _ _ e => e))
  exact wpAny_bind (wpAny_of_eq hpos h₂)

theorem hx_meth {a : X} {mt : String} {xs : List X} {o : PySem.Expr} {args : List PySem.Expr} {apos pos : Pos} (C : g.c.Ok mg mb) (PO : PgOk g.c) (ev : Ev g A R e₀ l₀) (hb : baseOk o = true) (hline : (apos.endLine == pos.line) = true) (hlen : args.length < 29)
    (ha : HX g A R V s₀ a (eval o env)) (hx : EachX g A R V s₀ env xs args) : HX g A R V s₀ (.meth a mt xs) (eval (.Call (.Attribute o (Str.ofString mt) apos) args [] pos) env) := fun H s Q E S m q => by
  simp only [x_e0, x_e1, x_e2, x_e3, x_e4, x_e5, x_e6, x_e7, x_e8, x_e9, x_e10, x_e11, x_e12, x_e13, x_d0, x_d1, x_e15] at q
  refine meth_call hb (each_all hx) hlen hline (wpAny_mono (ha H s _ E S m q) (fun ov s₁ z => ?_) fun _ _ z => z)
  obtain ⟨ao, H₁, ho, S₁, m₁, q₁⟩ := z
  intro pl
  split at q₁
  · rename_i p
    cases ho
    split at q₁
    · rename_i ys e
      obtain ⟨ws, n, k1, k2, k3⟩ := isList_of S₁ e
      obtain ⟨hmm, q₁⟩ := q₁
      simp only [lmeths, List.contains_cons, List.contains_nil, Bool.or_false, Bool.or_eq_true, beq_iff_eq] at hmm
      have un : A.units + 1 + 64 < cLine := by have := ev.aok.units; omega
      subst hmm
      refine getMethod_builtin ⟨_, k1, rfl⟩ PySem.F.plainAttrs_list PySem.F.slot_list_append PySem.F.type_list_append (fun a h => by cases h; exact ⟨_, k1, rfl⟩) ?_
      refine cw_prim (.inl ⟨_, rfl⟩) hx S₁ m₁ q₁ fun as vs H' s' k1 k2 k3 k4 => ?_
      unfold wmList at k4
      split at k4
      · cases k1 with | cons h1 h2 =>
        cases h2
        split at k4
        · rename_i e'; exact s_append h1 k2 k3 e' k4.1 k4.2
        · exact k4.elim
      · exact k4.elim
    · exact q₁.elim
  · exact q₁.elim

end
end Mine

namespace Mine

section
variable {g : Gx} {A : Around} {R : RR} {V : VV} {s₀ : Shared} {env : Env} {mg mb : Str → Option Value} {e₀ : Env} {l₀ : List Env}

theorem hx_isinst {sc : Scope} {nm : List Str} {ty : String} {fe t x : PySem.Expr} {a : X} {pos : Pos} (C : g.c.Ok mg mb) (PO : PgOk g.c) (fr : Frm R env sc nm V) (hn : nameIs sc "isinstance" fe = true) (hg : g.c.P.prims.contains "isinstance" = true)
    (ht : g.c.P.prims.contains ty = true) (hn' : nameIs sc ty t = true) (hx : HX g A R V s₀ a (eval x env)) (hs : noStar x = true) :
    HX g A R V s₀ (.isinst a ty) (eval (.Call fe [x, t] [] pos) env) := by
  by_cases hty : ty = "int" ∨ ty = "bool" ∨ ty = "str" ∨ ty = "list"
  · exact hx_isT C PO fr hn hg ht hn' hty hx hs
  intro H s Q E S m q
  simp only [x_e0, x_e1, x_e2, x_e3, x_e4, x_e5, x_e6, x_e7, x_e8, x_e9, x_e10, x_e11, x_e12, x_e13, x_d0, x_d1, x_e15] at q
  obtain ⟨h1, h2, h3⟩ := PO.prim _ hg
  obtain ⟨k1, k2, k3⟩ := PO.prim _ ht
  obtain ⟨id, p, rfl⟩ := nameIs_name hn
  obtain ⟨id', p', rfl⟩ := nameIs_name hn'
  refine wpAny_Call_NameR (glob_B C fr S hn h1 h2 h3 ?_)
  refine Calls.callWith_builtin (by rw [starEach_plain hs, starEach_plain rfl]; rfl) ?_
  rw [starEach_plain hs, backTo_cons, starEach_plain rfl, backTo_cons]
  refine evalArgs_plain (spliced_cons (wpAny_mono (hx H s _ E S m q) (fun v s₁ z => ?_) fun _ _ z => z))
  obtain ⟨av, H₁, hv, S₁, m₁, q₁⟩ := z
  refine spliced_cons (glob_B C fr S₁ hn' k1 k2 k3 (spliced_nil ?_))
  split at q₁
  · rename_i b hb
    unfold isinstV at hb
    rw [if_neg hty] at hb
    cases hb
  · exact q₁.elim

end
end Mine

namespace Mine

section
variable {c : Cx} {R : RR} {H : AHeap} {h h' : Heap}

noncomputable def FlOk (env : Env) (fl : Value) : Prop := fl = .ellipsis ∨ fl = .none ∨ fl = rawInt env.locals

theorem exc_note {M : Model} {A : Around} {E : Value → Shared → Prop} {s : Shared} {e : Addr} {cl : String} {fl : Value} {env : Env} {outer : List Env} {Q : Unit → Shared → Prop} (hfr : A.frames = some (env :: outer)) (hs : Stk R (env :: outer))
    (X : ExcSt c R H e cl fl s.heap) (hfl : FlOk env fl) (q : ∀ h', ExcSt c R H e cl (rawInt env.locals) h' → Q () { s with heap := h' }) : wpAny M A (noteFrame (.ref e) env) Q E s := X.nope.elim

theorem exc_flight {M : Model} {A : Around} {E : Value → Shared → Prop} {s : Shared} {e : Addr} {cl : String} {fl : Value} {f : Option Addr} {Q : Unit → Shared → Prop}
    (X : ExcSt c R H e cl fl s.heap) (hfl : fl ≠ .ellipsis) (q : ∀ h', ExcSt c R H e cl (f.elim .none fun f => rawInt f) h' → Q () { s with heap := h' }) : wpAny M A (setFlight (.ref e) f) Q E s := X.nope.elim

theorem exc_leave {M : Model} {A : Around} {E : Value → Shared → Prop} {s : Shared} {e : Addr} {cl : String} {fl : Value} {env : Env} {outer : List Env} {Q : Unit → Shared → Prop} (hfr : A.frames = some (env :: outer)) (hs : Stk R (env :: outer))
    (X : ExcSt c R H e cl fl s.heap) (hfl : FlOk env fl) (q : ∀ h', ExcSt c R H e cl .none h' → Q () { s with heap := h' }) : wpAny M A (leaving env (.ref e)) Q E s := X.nope.elim

end
end Mine

namespace Mine

noncomputable def rdrop (R : RR) (a : Addr) : RR := fun b => if b = a then none else R b
theorem rdrop_le {R : RR} {a : Addr} : ∀ b r, rdrop R a b = some r → R b = some r := fun b r e => by
  unfold rdrop at e; split at e
  · cases e
  · exact e
theorem rdrop_other {R : RR} {a b : Addr} (h : b ≠ a) : rdrop R a b = R b := by simp [rdrop, h]
theorem rdrop_same {R : RR} {a : Addr} : rdrop R a a = none := by simp [rdrop]

/-- an iterator's object at its k-th item -/
noncomputable def ItObj (H : AHeap) (v : AV) (k : Nat) (o : Obj) : Prop :=
  match v with
  | .ref a => (match H a with
    | some (.list _) => o.cls = .type "list_iterator" ∧ o.data = .fields #[.ref a, .int k 0]
    | some (.range lo hi) => o = { cls := .type "range_iterator", dict := none, data := .fields #[rawInt (lo + k), rawInt (((hi - lo).toNat : Int) - k), rawInt 1], slots := #[] }
    | _ => False)
  | .str s => ∃ t, (o.cls = .type "str_ascii_iterator" ∨ o.cls = .type "str_iterator") ∧ o.data = .fields #[.str s t, .int k 0]
  | _ => False
theorem ItObj.same {H H' : AHeap} {v : AV} {k : Nat} {o : Obj} (h : ItObj H v k o) (e : sameIt H H' v) : ItObj H' v k o := by
  cases v with
  | ref a => simp only [sameIt] at e; simp only [ItObj] at h ⊢; rw [e]; exact h
  | str s => exact h
  | _ => exact h

theorem rg_size {a b : Int} : Builtin.Range.rangeSize a b 1 = ((b - a).toNat : Int) := by
  unfold Builtin.Range.rangeSize
  simp only [Int.ediv_one, show (1 : Int) > 0 from by decide, if_true]
  split <;> omega
theorem rg_small {a b : Int} (h : RgOk a b) : Builtin.Range.small a b 1 = true := by
  unfold Builtin.Range.small Builtin.Range.rangeFitsLong
  rw [rg_size]
  obtain ⟨h1, h2, h3, h4⟩ := h
  simp only [show (1 : Int) > 0 from by decide, if_true, Bool.and_eq_true, Bool.or_eq_true, decide_eq_true_eq, beq_iff_eq]
  refine ⟨⟨⟨⟨⟨?_, ?_⟩, ⟨?_, ?_⟩⟩, ⟨?_, ?_⟩⟩, ⟨?_, ?_⟩⟩, .inr ⟨?_, ?_⟩⟩ <;> omega

section
variable {c : Cx} {R : RR} {H : AHeap} {A : Around} {E : Value → Shared → Prop} {s : Shared}

theorem it_push {o : Obj} {Q : Value → Shared → Prop} (hnf : o.isFreed = false) (S : St c R H s.heap) (q : ∀ s' a, R a = none → H a = none → St c (rup R a (.obj o)) H s'.heap → Sm s s' → Q (.ref a) s') : Q (.ref s.heap.objs.size) { s with heap := s.heap.push o } := by
  obtain ⟨h1, h2, h3⟩ := S.newRes (x := s.heap.objs.size) (r := .obj o) (h' := s.heap.push o) (Nat.le_refl _) (fun _ _ z => Heap.get?_push_of_some _ z) (by rw [Heap.size_push]; omega) (Heap.get?_push_size _ hnf)
  exact q _ _ h1 h2 h3 ⟨_, _, rfl⟩

theorem it_new {mg mb : Str → Option Value} {v : AV} {u : Value} {xs : List AV} {Q : Value → Shared → Prop} (C : c.Ok mg mb) (hv : VR v u) (S : St c R H s.heap) (hx : itemsOf H v = some xs)
    (q : ∀ s' a o, R a = none → H a = none → ItObj H v 0 o → St c (rup R a (.obj o)) H s'.heap → Sm s s' → Q (.ref a) s') : wpAny (model c.prog c.w) A (pyIter u) Q E s := by
  cases hv with
  | ref a =>
    simp only [itemsOf] at hx
    split at hx
    · rename_i ys e
      obtain ⟨vs, n, k1, k2, k3⟩ := isList_of (g := ⟨c, 0, true⟩) S e
      exact wpAny_pyIter_list k3 (it_push rfl S fun s' b h1 h2 h3 h4 => q s' b _ h1 h2 (by simp [ItObj, e]) h3 h4)
    · rename_i lo hi e
      obtain ⟨D, r⟩ := S.rep
      obtain ⟨rg, t, u, w, hr⟩ := r.rep _ _ e
      exact wpAny_pyIter_range hr (rg_small rg) (it_push rfl S fun s' b h1 h2 h3 h4 => q s' b _ h1 h2 (by simp [ItObj, e, rg_size]) h3 h4)
    · cases hx
  | str x t =>
    cases ha : x.cps.all (· < 128)
    · exact wpAny_pyIter_wide ha (it_push rfl S fun s' b h1 h2 h3 h4 => q s' b _ h1 h2 ⟨t, .inr rfl, rfl⟩ h3 h4)
    · exact wpAny_pyIter_ascii ha (it_push rfl S fun s' b h1 h2 h3 h4 => q s' b _ h1 h2 ⟨t, .inl rfl, rfl⟩ h3 h4)
  | none => cases hx
  | bool b => cases hx
  | int i t => cases hx

theorem str_one {x : Str} {i ch : Nat} (h : PyData.strOk x = true) (e : x.cps[i]? = some ch) : PyData.strOk ⟨#[ch]⟩ = true :=
  strOk_of (l := [ch]) (by intro c hc; simp at hc; subst hc; exact strOk_mem h (Array.mem_of_getElem? e))

theorem it_item {v : AV} {xs : List AV} {x : AV} {k : Nat} {a : Addr} {o : Obj} {Q : Option Value → Shared → Prop} (hx : itemsOf H v = some xs) (hk : xs[k]? = some x) (hi : ItObj H v k o) (hr : R a = some (.obj o)) (S : St c R H s.heap)
    (hsv : ∀ y, v = .str y → PyData.strOk y = true)
    (q : ∀ s' u o', VR x u → ItObj H v (k + 1) o' → St c (rup R a (.obj o')) H s'.heap → Sm s s' → Q (some u) s') : wpAny (model c.prog c.w) A (pyNext (.ref a)) Q E s := by
  have ho : s.heap.get? a = some o := (S.res _ _ hr).2
  cases v with
  | ref p =>
    simp only [itemsOf] at hx
    split at hx
    · rename_i ys e
      cases hx
      obtain ⟨vs, n, k1, k2, k3⟩ := isList_of (g := ⟨c, 0, true⟩) S e
      obtain ⟨w, hw, hvr⟩ := k2.get hk
      simp only [ItObj, e] at hi
      refine wpAny_pyNext_list_item ⟨o, ho, hi.1, hi.2⟩ k3 (by simpa using hw) fun h' ⟨o', p1, p2, p3⟩ hs => ?_
      exact q _ w o' hvr (by simp only [ItObj, e]; exact ⟨p2, p3⟩) (S.setRes hr hs p1) ⟨_, _, rfl⟩
    · rename_i lo hi' e
      cases hx
      simp only [ItObj, e] at hi
      subst hi
      have hlt : k < (hi' - lo).toNat := by
        have := (List.getElem?_eq_some_iff.mp hk).1
        simpa using this
      have hxe : x = .int (lo + k) := by
        rw [List.getElem?_map, List.getElem?_range hlt] at hk
        simpa using hk.symm
      subst hxe
      refine wpAny_pyNext_range_item (x := lo + k) (left := ((hi' - lo).toNat : Int) - k) (step := 1) ho (by omega) fun h' p1 hs => ?_
      refine q _ _ _ (.int _ _) ?_ (S.setRes (r' := .obj _) hr hs p1) ⟨_, _, rfl⟩
      simp only [ItObj, e]
      have e1 : lo + (k : Int) + 1 = lo + ((k + 1 : Nat) : Int) := by omega
      have e2 : ((hi' - lo).toNat : Int) - k - 1 = ((hi' - lo).toNat : Int) - ((k + 1 : Nat) : Int) := by omega
      rw [e1, e2]
    · cases hx
  | str y =>
    cases hx
    rw [List.getElem?_map, Option.map_eq_some_iff] at hk
    obtain ⟨ch, hk1, rfl⟩ := hk
    have hch : y.cps[k]? = some ch := by rw [← Array.getElem?_toList]; exact hk1
    obtain ⟨t, hc, hd⟩ := hi
    have hok := str_one (hsv y rfl) hch
    rcases hc with hc | hc
    · refine wpAny_pyNext_ascii_item ⟨o, ho, hc, hd⟩ hch fun h' ⟨o', p1, p2, p3⟩ hs => ?_
      exact q _ _ o' (.str _ _ hok) ⟨t, .inl p2, p3⟩ (S.setRes hr hs p1) ⟨_, _, rfl⟩
    · refine wpAny_pyNext_wide_item ⟨o, ho, hc, hd⟩ hch fun h' ⟨o', p1, p2, p3⟩ hs => ?_
      exact q _ _ o' (.str _ _ hok) ⟨t, .inr p2, p3⟩ (S.setRes hr hs p1) ⟨_, _, rfl⟩
  | none => cases hx
  | bool b => cases hx
  | int i => cases hx

theorem St.dropRes {h h' : Heap} {a : Addr} {o : Obj} (S : St c R H h) (hr : R a = some (.obj o)) (k : Heap.ExtBut a h h') (hsz : c.base.objs.size ≤ h'.objs.size) : St c (rdrop R a) H h' := by
  obtain ⟨s1, s2, s3, D, s4⟩ := S
  have nn : ∀ b, R b = none → rdrop R a b = none := fun b e => by
    cases q : rdrop R a b with
    | none => rfl
    | some r => rw [rdrop_le b r q] at e; cases e
  refine ⟨fun b o' e => k b o' (fun z => ?_) (s1 b o' e), hsz, fun b r e => ⟨(s3 b r (rdrop_le b r e)).1, (s3 b r (rdrop_le b r e)).2.agree fun ob z => k b ob (fun w => ?_) z⟩, D, ⟨fun b ao e => ?_, fun b ao e => ⟨(s4.above b ao e).1, nn _ (s4.above b ao e).2⟩, fun b cl es e => ?_, s4.inj⟩⟩
  · have := leN (s3 a _ hr).1; have := lts e; rw [z] at this; omega
  · rw [w, rdrop_same] at e; cases e
  · refine (s4.rep b ao e).agree (fun ob z => k b ob (fun w => ?_) z) fun cl es eo => ⟨rfl, fun ob z => k _ ob (fun w => ?_) z⟩
    · have := (s4.above b ao e).2; rw [w, hr] at this; cases this
    · subst eo; have := (s4.dict b cl es e).2.1; rw [w, hr] at this; cases this
  · obtain ⟨y1, y2, y3⟩ := s4.dict b cl es e
    exact ⟨y1, nn _ y2, y3⟩

theorem it_end {v : AV} {xs : List AV} {k : Nat} {a L : Addr} {m : Str → Option Value} {o : Obj} {Q : Option Value → Shared → Prop} (hh : A.handled = none) (hx : itemsOf H v = some xs) (hk : xs[k]? = none) (hi : ItObj H v k o) (hr : R a = some (.obj o)) (hL : R L = some (.ns m)) (S : St c R H s.heap)
    (q : ∀ s', St c (rdrop R a) H s'.heap → Sm s s' → Q none s') : wpAny (model c.prog c.w) A (pyNext (.ref a)) Q E s := by
  have ho : s.heap.get? a = some o := (S.res _ _ hr).2
  have fin : ∀ h', Heap.ExtBut a s.heap h' → Q none { s with heap := h' } := fun h' k => by
    refine q _ (S.dropRes hr k ?_) ⟨_, _, rfl⟩
    obtain ⟨oL, es, ep, w, _⟩ := (S.res _ _ hL).2
    have h1 := leN (S.res _ _ hL).1
    have h2 := lts (k L oL (fun z => by rw [z, hr] at hL; cases hL) w)
    exact Nat.le_of_lt (Nat.lt_of_le_of_lt h1 h2)
  cases v with
  | ref p =>
    simp only [itemsOf] at hx
    split at hx
    · rename_i ys e
      cases hx
      obtain ⟨vs, n, k1, k2, k3⟩ := isList_of (g := ⟨c, 0, true⟩) S e
      simp only [ItObj, e] at hi
      refine wpAny_pyNext_list_end hh ⟨o, ho, hi.1, hi.2⟩ k3 ?_ fin
      have := k2.length
      simp at hk ⊢; omega
    · rename_i lo hi' e
      cases hx
      simp only [ItObj, e] at hi
      subst hi
      have hlt : (hi' - lo).toNat ≤ k := by simpa using hk
      exact wpAny_pyNext_range_end (x := lo + k) (left := ((hi' - lo).toNat : Int) - k) (step := 1) hh ho (by omega) fin
    · cases hx
  | str y =>
    cases hx
    have hch : y.cps[k]? = none := by rw [← Array.getElem?_toList]; simpa using hk
    obtain ⟨t, hc, hd⟩ := hi
    rcases hc with hc | hc
    · exact wpAny_pyNext_ascii_end hh ⟨o, ho, hc, hd⟩ hch fin
    · exact wpAny_pyNext_wide_end hh ⟨o, ho, hc, hd⟩ hch fin
  | none => cases hx
  | bool b => cases hx
  | int i => cases hx
end
end Mine

namespace Mine

/-! ## stores -/
noncomputable def RStep (env : Env) (R R' : RR) : Prop := ∀ b, R' b = R b ∨ (b = env.locals ∧ ∃ m m', R b = some (.ns m) ∧ R' b = some (.ns m')) ∨ ((∃ n, env.cells.lookup n = some b) ∧ ∃ x x', R b = some (.cell x) ∧ R' b = some (.cell x'))
theorem RStep.refl {env : Env} {R : RR} : RStep env R R := fun _ => .inl rfl
theorem RStep.trans {env : Env} {R R' R'' : RR} (x : RStep env R R') (y : RStep env R' R'') : RStep env R R'' := fun b => by
  rcases x b with h | ⟨h1, m, m', h2, h3⟩ | ⟨h1, m, m', h2, h3⟩
  · rcases y b with k | ⟨k1, m, m', k2, k3⟩ | ⟨k1, m, m', k2, k3⟩
    · exact .inl (k.trans h)
    · exact .inr (.inl ⟨k1, m, m', by rw [← h]; exact k2, k3⟩)
    · exact .inr (.inr ⟨k1, m, m', by rw [← h]; exact k2, k3⟩)
  · rcases y b with k | ⟨k1, n, n', k2, k3⟩ | ⟨k1, n, n', k2, k3⟩
    · exact .inr (.inl ⟨h1, m, m', h2, by rw [k]; exact h3⟩)
    · exact .inr (.inl ⟨h1, m, n', h2, k3⟩)
    · rw [h3] at k2; cases k2
  · rcases y b with k | ⟨k1, n, n', k2, k3⟩ | ⟨k1, n, n', k2, k3⟩
    · exact .inr (.inr ⟨h1, m, m', h2, by rw [k]; exact h3⟩)
    · rw [h3] at k2; cases k2
    · exact .inr (.inr ⟨h1, m, n', h2, k3⟩)
theorem RStep.ns {env : Env} {R R' : RR} (x : RStep env R R') {a : Addr} {m} (h : R a = some (.ns m)) : ∃ m', R' a = some (.ns m') := by
  rcases x a with k | ⟨_, _, m', _, k⟩ | ⟨_, _, _, k, _⟩
  · exact ⟨m, k.trans h⟩
  · exact ⟨m', k⟩
  · rw [h] at k; cases k
theorem RStep.obj {env : Env} {R R' : RR} (x : RStep env R R') {a : Addr} {o} (h : R a = some (.obj o)) : R' a = some (.obj o) := by
  rcases x a with k | ⟨_, _, m', k, _⟩ | ⟨_, _, _, k, _⟩
  · exact k.trans h
  · rw [h] at k; cases k
  · rw [h] at k; cases k
theorem RStep.none {env : Env} {R R' : RR} (x : RStep env R R') {a : Addr} (h : R a = Option.none) : R' a = Option.none := by
  rcases x a with k | ⟨_, _, m', k, _⟩ | ⟨_, _, _, k, _⟩
  · exact k.trans h
  · rw [h] at k; cases k
  · rw [h] at k; cases k
theorem RStep.stk {env : Env} {R R' : RR} (x : RStep env R R') {l : List Env} (h : Stk R l) : Stk R' l := fun e he =>
  let F := h e he
  ⟨F.kind, F.frame, F.gen, F.co, F.blt, F.glob, let ⟨_, hm⟩ := F.ns; x.ns hm⟩
theorem Ev.step {g : Gx} {A : Around} {R R' : RR} {env e : Env} {l : List Env} (x : RStep env R R') (h : Ev g A R e l) : Ev g A R' e l := ⟨h.aok, x.stk h.stk⟩

theorem Frm.congr {R R' : RR} {env : Env} {sc : Scope} {nm : List Str} {V : VV} (fr : Frm R env sc nm V) (h : ∀ b, (∃ m, R b = some (.ns m)) ∨ (∃ x, R b = some (.cell x)) → R' b = R b) : Frm R' env sc nm V := by
  obtain ⟨k1, k2, k3, k4, k5, k6, k7, kc, kl, k8, ⟨m, n1, n2⟩, k9⟩ := fr
  refine ⟨k1, k2, k3, k4, k5, k6, k7, kc, kl, k8, ⟨m, (h _ (.inl ⟨m, n1⟩)).trans n1, n2⟩, fun i n hn hk => ?_⟩
  obtain ⟨a, x, v, c1, c2, c3⟩ := k9 i n hn hk
  exact ⟨a, x, v, c1, (h _ (.inr ⟨x, c2⟩)).trans c2, c3⟩

section
variable {c : Cx} {R : RR} {H : AHeap} {V : VV} {env : Env} {sc : Scope} {nm : List Str}

theorem Frm.local' (fr : Frm R env sc nm V) (nd : nm.Nodup) {i : Nat} {id : Str} {x : Option AV} {w : Option Value} {m : Str → Option Value} (hi : nm[i]? = some id) (hl : env.kindOf id = some .local) (hm : R env.locals = some (.ns m)) (hv : OVW x w) :
    Frm (rup R env.locals (.ns fun y => if y = id then w else m y)) env sc nm (V.set i x) := by
  obtain ⟨k1, k2, k3, k4, k5, k6, k7, kc, kl, k8, ⟨m', n1, n2⟩, k9⟩ := fr
  rw [hm] at n1; cases n1
  have hnd : ∀ {j : Nat} {n : Str}, nm[j]? = some n → (n = id ↔ j = i) := fun {j n} hj => by
    constructor
    · rintro rfl
      have h1 := List.getElem?_eq_some_iff.mp hj
      have h2 := List.getElem?_eq_some_iff.mp hi
      exact (List.getElem_inj nd).mp (h1.2.trans h2.2.symm)
    · rintro rfl; rw [hi] at hj; cases hj; rfl
  refine ⟨k1, k2, k3, k4, k5, k6, k7, kc, by rw [List.length_set]; exact kl, k8, ⟨_, rup_same, fun j n hj hk => ?_⟩, fun j n hj hk => ?_⟩
  · obtain ⟨v, v1, v2⟩ := n2 j n hj hk
    by_cases q : n = id
    · have := (hnd hj).mp q
      subst q this
      have hlt := (List.getElem?_eq_some_iff.mp v1).1
      exact ⟨x, by simp [hlt], by simpa using hv⟩
    · have hne : j ≠ i := fun z => q ((hnd hj).mpr z)
      exact ⟨v, by rw [List.getElem?_set_ne (Ne.symm hne)]; exact v1, by simp only [q, if_false]; exact v2⟩
  · obtain ⟨a, y, v, c1, c2, c3, c4⟩ := k9 j n hj hk
    have hna : a ≠ env.locals := fun z => by rw [z, hm] at c2; cases c2
    have hne : j ≠ i := fun z => by
      have := (hnd hj).mpr z
      subst this
      rw [hl] at hk; rcases hk with hk | hk <;> cases hk
    exact ⟨a, y, v, c1, by rw [rup_other hna]; exact c2, by rw [List.getElem?_set_ne (Ne.symm hne)]; exact c3, c4⟩

theorem Frm.cell' (fr : Frm R env sc nm V) (nd : nm.Nodup) {i : Nat} {id : Str} {a : Addr} {x : Option AV} {w y : Option Value} (hi : nm[i]? = some id) (hl : env.kindOf id = some .cell) (ha : env.cells.lookup id = some a) (hr : R a = some (.cell y)) (hv : OVW x w) :
    Frm (rup R a (.cell w)) env sc nm (V.set i x) := by
  obtain ⟨k1, k2, k3, k4, k5, k6, k7, kc, kl, k8, ⟨m', n1, n2⟩, k9⟩ := fr
  have hnd : ∀ {j : Nat} {n : Str}, nm[j]? = some n → (n = id ↔ j = i) := fun {j n} hj => by
    constructor
    · rintro rfl
      have h1 := List.getElem?_eq_some_iff.mp hj
      have h2 := List.getElem?_eq_some_iff.mp hi
      exact (List.getElem_inj nd).mp (h1.2.trans h2.2.symm)
    · rintro rfl; rw [hi] at hj; cases hj; rfl
  have hna : env.locals ≠ a := fun z => by rw [z, hr] at n1; cases n1
  refine ⟨k1, k2, k3, k4, k5, k6, k7, kc, by rw [List.length_set]; exact kl, k8, ⟨m', by rw [rup_other hna]; exact n1, fun j n hj hk => ?_⟩, fun j n hj hk => ?_⟩
  · obtain ⟨v, v1, v2⟩ := n2 j n hj hk
    have hne : j ≠ i := fun z => by
      have := (hnd hj).mpr z
      subst this
      rw [hl] at hk; cases hk
    exact ⟨v, by rw [List.getElem?_set_ne (Ne.symm hne)]; exact v1, v2⟩
  · obtain ⟨b, z, v, c1, c2, c3, c4⟩ := k9 j n hj hk
    by_cases q : n = id
    · have := (hnd hj).mp q
      subst q this
      rw [ha] at c1; cases c1
      have hlt := (List.getElem?_eq_some_iff.mp c3).1
      exact ⟨a, w, x, ha, rup_same, by simp [hlt], hv⟩
    · have hne : j ≠ i := fun z => q ((hnd hj).mpr z)
      have hab : b ≠ a := fun z => q (k8 n id a (by rw [← z]; exact c1) ha)
      exact ⟨b, z, v, c1, by rw [rup_other hab]; exact c2, by rw [List.getElem?_set_ne (Ne.symm hne)]; exact c3, c4⟩

/-- a name is stored -/
theorem st_name {M : Model} {A : Around} {E : Value → Shared → Prop} {s : Shared} {i : Nat} {id : Str} {x : AV} {u : Value} {Q : Unit → Shared → Prop} (fr : Frm R env sc nm V) (nd : nm.Nodup) (hi : nm[i]? = some id) (hk : locKind sc id = true) (hv : VR x u)
    (S : St c R H s.heap) (q : ∀ s' R', RStep env R R' → Frm R' env sc nm (V.set i (some x)) → St c R' H s'.heap → Sm s s' → Q () s') : wpAny M A (storeName env id u) Q E s := by
  obtain ⟨m, hm, _⟩ := fr.ns
  rcases fr.lok id hk with hl | hl
  · refine wpAny_storeName_local hl (S.res _ _ hm).2 (fun h' hn hs => ?_) (by rw [fr.kind]; rfl)
    refine q _ _ (fun b => ?_) (fr.local' nd hi hl hm (.some hv)) (S.setRes (r' := .ns _) hm hs hn) ⟨_, _, rfl⟩
    by_cases z : b = env.locals
    · subst z; exact .inr (.inl ⟨rfl, _, _, hm, rup_same⟩)
    · exact .inl (rup_other z)
  · obtain ⟨a, y, v, c1, c2, c3, c4⟩ := fr.cell i id hi (.inl hl)
    refine wpAny_storeName_cell fr.kind hl c1 (S.res _ _ c2).2 fun h' hn hs => ?_
    refine q _ _ (fun b => ?_) (fr.cell' nd hi hl c1 c2 (.some hv)) (S.setRes (r' := .cell _) c2 hs hn) ⟨_, _, rfl⟩
    by_cases z : b = a
    · subst z; exact .inr (.inr ⟨⟨_, c1⟩, _, _, c2, rup_same⟩)
    · exact .inl (rup_other z)

theorem ExcSt.weaken {R' : RR} {e : Addr} {cl : String} {fl : Value} {h : Heap} (X : ExcSt c R' H e cl fl h) (k : ∀ b r, R b = some r → R' b = some r) : ExcSt c R H e cl fl h := ⟨X.nope⟩

end

/-! ## ends of statements -/
noncomputable def TF (g : Gx) (env : Env) (sc : Scope) (nm : List Str) (R : RR) (s₀ : Shared) (QN : VV → AHeap → Prop) (QR : AV → AHeap → Prop) (f : Flow) (s' : Shared) : Prop :=
  match f with
  | .next => ∃ R' V' H', RStep env R R' ∧ Frm R' env sc nm V' ∧ St g.c R' H' s'.heap ∧ Sm s₀ s' ∧ QN V' H'
  | .ret v => ∃ R' av H', RStep env R R' ∧ VR av v ∧ St g.c R' H' s'.heap ∧ Sm s₀ s' ∧ QR av H'
  | _ => False
noncomputable def TX (g : Gx) (env : Env) (sc : Scope) (nm : List Str) (R : RR) (s₀ : Shared) (E : String → VV → AHeap → Prop) (e : Value) (s' : Shared) : Prop :=
  ∃ a cl R' V' H' fl, e = .ref a ∧ RStep env R R' ∧ Frm R' env sc nm V' ∧ FlOk env fl ∧ ExcSt g.c R' H' a cl fl s'.heap ∧ Sm s₀ s' ∧ E cl V' H'

noncomputable def SOk (g : Gx) (sc : Scope) (nm : List Str) (w : Gx → (VV → AHeap → Prop) → (AV → AHeap → Prop) → (String → VV → AHeap → Prop) → VV → AHeap → Prop) (t : Env → Sem Flow) : Prop :=
  ∀ (md : Bool) (A : Around) (env : Env) (l₀ : List Env) (R : RR) (V : VV) (s₀ s : Shared) (H : AHeap) (QN : VV → AHeap → Prop) (QR : AV → AHeap → Prop) (E : String → VV → AHeap → Prop),
    Ev { g with md := md } A R env l₀ → Frm R env sc nm V → St g.c R H s.heap → Sm s₀ s → w { g with md := md } QN QR E V H →
    wpAny (model g.c.prog g.c.w) A (t env) (TF g env sc nm R s₀ QN QR) (TX g env sc nm R s₀ E) s
end Mine

namespace Mine

/-! ## comprehensions -/
noncomputable def closL (env : Env) : List (Str × NameKind) → List (Str × Addr) → List (Str × Addr)
  | [], acc => acc
  | (n, k) :: r, acc => if k == .free then closL env r ((n, (env.cells.lookup n).getD 0) :: acc) else closL env r acc

theorem clos_eq {env : Env} (f : Str × NameKind → List (Str × Addr) → Sem (ForInStep (List (Str × Addr)))) (hf : ∀ n k cs, f (n, k) cs = if k == .free then (do let a ← cellOf env n; pure (.yield ((n, a) :: cs))) else pure (.yield cs)) :
    ∀ (names : List (Str × NameKind)) (acc : List (Str × Addr)), (∀ p ∈ names, p.2 = .free → ∃ a, env.cells.lookup p.1 = some a) → forIn names acc f = (pure (closL env names acc) : Sem _)
  | [], acc, _ => by rw [List.forIn_nil]; rfl
  | (n, k) :: r, acc, h => by
    rw [List.forIn_cons, hf]
    have ih := clos_eq f hf r
    unfold closL
    cases hk : k == NameKind.free with
    | true =>
      obtain ⟨a, ha⟩ := h (n, k) (.head _) (by simpa using hk)
      simp only [if_true, cellOf, ha, Option.getD_some]
      exact ih _ fun p hp => h p (.tail _ hp)
    | false =>
      simp only [Bool.false_eq_true, if_false]
      exact ih _ fun p hp => h p (.tail _ hp)

theorem closureFor_of {env : Env} {sc : Scope} (h : ∀ p ∈ sc.names, p.2 = .free → ∃ a, env.cells.lookup p.1 = some a) : closureFor sc env = pure (closL env sc.names []) := by
  unfold closureFor
  dsimp only
  rw [clos_eq (env := env) _ (fun n k cs => by cases hk : k == NameKind.free <;> simp [hk]) sc.names [] h]
  rfl

theorem closL_mem {env : Env} : ∀ {names : List (Str × NameKind)} {acc : List (Str × Addr)} {n : Str} {a : Addr}, (n, a) ∈ closL env names acc → (n, a) ∈ acc ∨ ((n, NameKind.free) ∈ names ∧ a = (env.cells.lookup n).getD 0)
  | [], acc, n, a, h => .inl h
  | (n', k) :: r, acc, n, a, h => by
    unfold closL at h
    split at h
    · rename_i hk
      rcases closL_mem h with h | ⟨h1, h2⟩
      · rcases List.mem_cons.mp h with h | h
        · cases h
          exact .inr ⟨by rw [← (by simpa using hk : k = .free)]; exact .head _, rfl⟩
        · exact .inl h
      · exact .inr ⟨.tail _ h1, h2⟩
    · rcases closL_mem h with h | ⟨h1, h2⟩
      · exact .inl h
      · exact .inr ⟨.tail _ h1, h2⟩
theorem closL_acc {env : Env} : ∀ {names : List (Str × NameKind)} {acc : List (Str × Addr)} {p : Str × Addr}, p ∈ acc → p ∈ closL env names acc
  | [], _, _, h => h
  | (n', k) :: r, acc, p, h => by
    unfold closL
    split
    · exact closL_acc (.tail _ h)
    · exact closL_acc h
theorem closL_has {env : Env} : ∀ {names : List (Str × NameKind)} {acc : List (Str × Addr)} {n : Str}, (n, NameKind.free) ∈ names → (n, (env.cells.lookup n).getD 0) ∈ closL env names acc
  | (n', k) :: r, acc, n, h => by
    unfold closL
    rcases List.mem_cons.mp h with h | h
    · cases h; simp only [beq_self_eq_true, if_true]; exact closL_acc (.head _)
    · split <;> exact closL_has h

theorem relabel_lookup {env : Env} : ∀ {names : List (Str × NameKind)} {x : Str},
    (names.map fun (n, k) => if (k == NameKind.free && env.scope.kind == .function && env.kindOf n == some .cell) then (n, NameKind.cell) else (n, k)).lookup x =
      (names.lookup x).map fun k => if (k == NameKind.free && env.scope.kind == .function && env.kindOf x == some .cell) then NameKind.cell else k
  | [], _ => rfl
  | (n, k) :: r, x => by
    have ih := @relabel_lookup env r x
    show List.lookup x ((if (k == NameKind.free && env.scope.kind == .function && env.kindOf n == some .cell) = true then (n, NameKind.cell) else (n, k)) :: _) = _
    cases hx : x == n with
    | true =>
      have : x = n := by simpa using hx
      subst this
      split <;> simp_all [List.lookup_cons]
    | false =>
      split <;> simp only [List.lookup_cons, hx] <;> exact ih

theorem lookup_memK {l : List (Str × NameKind)} {n : Str} {k : NameKind} (h : l.lookup n = some k) : (n, k) ∈ l := mem_of_lookup h

theorem hideN_get {nm ts : List Str} {i : Nat} {n : Str} (h : (hideN nm ts)[i]? = some n) (hn : n.length ≠ 0) : nm[i]? = some n ∧ n ∉ ts := by
  unfold hideN at h
  rw [List.getElem?_map, Option.map_eq_some_iff] at h
  obtain ⟨y, h1, h2⟩ := h
  split at h2
  · subst h2; exact absurd rfl hn
  · rename_i hc; subst h2; exact ⟨h1, by simpa using hc⟩

theorem Frm.inner {R R' : RR} {env : Env} {sc csc : Scope} {nm ts : List Str} {V : VV} {xv : List AV} {C : Addr} {m : Str → Option Value} (fr : Frm R env sc nm V) (hm : compScOk sc csc nm ts = true) (hC : R' C = some (.ns m)) (hk : ∀ b r, R b = some r → R' b = some r)
    (hl : xv.length = ts.length) (hts : ∀ (j : Nat) t, ts[j]? = some t → ∃ a u, xv[j]? = some a ∧ m t = some u ∧ VR a u) : Frm R' (compEnvC csc (closL env csc.names []) C env) csc (hideN nm ts ++ ts) (V ++ xv.map some) := by
  unfold compScOk at hm
  simp only [Bool.and_eq_true, Bool.not_eq_true', beq_iff_eq, List.all_eq_true, decide_eq_true_eq, bne_iff_ne, ne_eq, Bool.or_eq_true] at hm
  obtain ⟨⟨⟨⟨h1, h2⟩, h3⟩, h4⟩, h5⟩ := hm
  have hkd : ∀ n, (compEnvC csc (closL env csc.names []) C env).kindOf n = (csc.names.lookup n).map fun k => if (k == NameKind.free && env.scope.kind == .function && env.kindOf n == some .cell) then NameKind.cell else k := fun n => relabel_lookup
  have hfree : ∀ n, csc.names.lookup n = some .free → env.kindOf n = some .cell ∧ ∃ i, nm[i]? = some n := fun n hn => by
    have := h5 (n, .free) (lookup_memK hn)
    obtain ⟨⟨⟨_, _⟩, a⟩, _⟩ := this
    rcases a with a | ⟨⟨a, b⟩, _⟩
    · exact absurd rfl a
    · have hb : n ∈ nm := by simpa using b
      obtain ⟨i, hi, e⟩ := List.mem_iff_getElem.mp hb
      exact ⟨fr.cco n a, i, by rw [List.getElem?_eq_getElem hi, e]⟩
  have hnc : ∀ n, csc.names.lookup n ≠ some .cell := fun n hn => by
    have := h5 (n, .cell) (lookup_memK hn)
    exact this.1.1.1 rfl
  have hlocal : ∀ n, csc.names.lookup n = some .local → n ∈ ts ∨ n = Str.ofString ".0" := fun n hn => by
    have := h5 (n, .local) (lookup_memK hn)
    rcases this.1.1.2 with a | ⟨_, a⟩
    · exact absurd rfl a
    · simpa using a
  have hlen : ∀ n k, csc.names.lookup n = some k → n.length ≠ 0 := fun n k hn => (h5 (n, k) (lookup_memK hn)).2
  have hclook : ∀ n a, (closL env csc.names []).lookup n = some a → a = (env.cells.lookup n).getD 0 ∧ (n, NameKind.free) ∈ csc.names := fun n a h => by
    rcases closL_mem (mem_of_lookup h) with h | ⟨h1, h2⟩
    · cases h
    · exact ⟨h2, h1⟩
  have hcell : ∀ n, csc.names.lookup n = some .free → ∃ a, env.cells.lookup n = some a ∧ (closL env csc.names []).lookup n = some a := fun n hn => by
    obtain ⟨k1, i, hi⟩ := hfree n hn
    obtain ⟨a, x, v, c1, _⟩ := fr.cell i n hi (.inl k1)
    have hmem := closL_has (env := env) (acc := []) (lookup_memK hn)
    have hs : ((closL env csc.names []).lookup n).isSome = true := by
      cases q : (closL env csc.names []).lookup n with
      | some => rfl
      | none => have := List.lookup_eq_none_iff.mp q _ hmem; simp at this
    obtain ⟨b, hb⟩ := Option.isSome_iff_exists.mp hs
    obtain ⟨e1, _⟩ := hclook n b hb
    rw [c1] at e1
    exact ⟨a, c1, by rw [hb, e1]; rfl⟩
  refine ⟨h1, fr.glob, fr.blt, fun id h => ?_, fun id h => ?_, fun id h => ?_, fun id h => ?_, fun id h => absurd h (hnc id), ?_, fun n n' a e e' => ?_, ⟨m, hC, fun i n hi hk' => ?_⟩, fun i n hi hk' => ?_⟩
  · rw [hkd]; unfold isGlob at h; rw [beq_iff_eq.mp h]; rfl
  · rw [hkd]; unfold kindOk at h
    split at h
    · rename_i z; rw [z]; left; rfl
    · rename_i z; exact absurd z (hnc id)
    · rename_i z; rw [z]; simp only [Option.map_some]; split <;> simp
    · cases h
  · rw [hkd]; unfold locKind at h
    split at h
    · rename_i z; rw [z]; left; rfl
    · rename_i z; exact absurd z (hnc id)
    · cases h
  · rw [hkd, h]; rfl
  · simp only [List.length_append, List.length_map, hideN, fr.len, hl]
  · obtain ⟨e1, f1⟩ := hclook n a e
    obtain ⟨e2, f2⟩ := hclook n' a e'
    have g1 := h5 _ f1
    have g2 := h5 _ f2
    rcases g1.1.2 with z | ⟨_, g1⟩
    · exact absurd rfl z
    rcases g2.1.2 with z | ⟨_, g2⟩
    · exact absurd rfl z
    obtain ⟨a1, c1, _⟩ := hcell n g1
    obtain ⟨a2, c2, _⟩ := hcell n' g2
    rw [c1] at e1; rw [c2] at e2
    simp only [Option.getD_some] at e1 e2
    exact fr.inj n n' a (by rw [c1, e1]) (by rw [c2, e2])
  · have hloc : csc.names.lookup n = some .local := by
      rw [hkd] at hk'
      cases q : csc.names.lookup n with
      | none => rw [q] at hk'; cases hk'
      | some k =>
        rw [q] at hk'
        simp only [Option.map_some, Option.some.injEq] at hk'
        split at hk'
        · cases hk'
        · rw [hk']
    rcases Nat.lt_or_ge i (hideN nm ts).length with hlt | hge
    · rw [List.getElem?_append_left hlt] at hi
      obtain ⟨e1, e2⟩ := hideN_get hi (hlen n _ hloc)
      rcases hlocal n hloc with z | z
      · exact absurd z e2
      · exfalso
        rw [z] at e1
        have : nm.contains (Str.ofString ".0") = true := by simpa using List.mem_of_getElem? e1
        rw [this] at h4; cases h4
    · rw [List.getElem?_append_right hge] at hi
      obtain ⟨a, u, a1, a2, a3⟩ := hts _ n hi
      refine ⟨some a, ?_, by rw [a2]; exact .some a3⟩
      have hL : (hideN nm ts).length = V.length := by simp [hideN, fr.len]
      rw [hL] at hge a1
      rw [List.getElem?_append_right hge, List.getElem?_map, a1]; rfl
  · have hfr : csc.names.lookup n = some .free := by
      rw [hkd] at hk'
      cases q : csc.names.lookup n with
      | none => rw [q] at hk'; rcases hk' with hk' | hk' <;> cases hk'
      | some k =>
        rw [q] at hk'
        simp only [Option.map_some, Option.some.injEq] at hk'
        split at hk'
        · rename_i z; simp only [Bool.and_eq_true, beq_iff_eq] at z; rw [z.1.1]
        · rcases hk' with hk' | hk'
          · exact absurd (q.trans (by rw [hk'])) (hnc n)
          · rw [hk']
    rcases Nat.lt_or_ge i (hideN nm ts).length with hlt | hge
    · rw [List.getElem?_append_left hlt] at hi
      obtain ⟨e1, e2⟩ := hideN_get hi (hlen n _ hfr)
      obtain ⟨k1, _⟩ := hfree n hfr
      obtain ⟨a, x, v, c1, c2, c3, c4⟩ := fr.cell i n e1 (.inl k1)
      obtain ⟨a', d1, d2⟩ := hcell n hfr
      rw [c1] at d1; cases d1
      have hlt' : i < V.length := (List.getElem?_eq_some_iff.mp c3).1
      exact ⟨a, x, v, d2, hk _ _ c2, by rw [List.getElem?_append_left hlt']; exact c3, c4⟩
    · rw [List.getElem?_append_right hge] at hi
      have := (h2 n (List.mem_of_getElem? hi)).1.1
      rw [hfr] at this; cases this
end Mine

namespace Mine
section
variable {c : Cx} {R : RR} {H : AHeap} {A : Around} {E : Value → Shared → Prop} {s : Shared}

/-- an iterator's own iterator is itself -/
theorem it_self {v : AV} {k : Nat} {a : Addr} {o : Obj} {Q : Value → Shared → Prop} (hi : ItObj H v k o) (ho : s.heap.get? a = some o) (q : Q (.ref a) s) : wpAny (model c.prog c.w) A (pyIter (.ref a)) Q E s := by
  cases v with
  | ref p =>
    simp only [ItObj] at hi
    split at hi
    · exact wpAny_pyIter_listiter ⟨o, ho, hi.1, hi.2⟩ q
    · subst hi; exact wpAny_pyIter_rangeiter ho q
    · exact hi.elim
  | str y =>
    obtain ⟨t, hc, hd⟩ := hi
    rcases hc with hc | hc
    · exact wpAny_pyIter_striter_ascii ⟨o, ho, hc, hd⟩ q
    · exact wpAny_pyIter_striter_wide ⟨o, ho, hc, hd⟩ q
  | none => exact hi.elim
  | bool b => exact hi.elim
  | int i => exact hi.elim

theorem St.dropAny {h h' : Heap} {a : Addr} {r₀ : Res} (S : St c R H h) (hr : R a = some r₀) (k : Heap.ExtBut a h h') (hsz : c.base.objs.size ≤ h'.objs.size) : St c (rdrop R a) H h' := by
  obtain ⟨s1, s2, s3, D, s4⟩ := S
  have nn : ∀ b, R b = none → rdrop R a b = none := fun b e => by
    cases q : rdrop R a b with
    | none => rfl
    | some r => rw [rdrop_le b r q] at e; cases e
  refine ⟨fun b o' e => k b o' (fun z => ?_) (s1 b o' e), hsz, fun b r e => ⟨(s3 b r (rdrop_le b r e)).1, (s3 b r (rdrop_le b r e)).2.agree fun ob z => k b ob (fun w => ?_) z⟩, D, ⟨fun b ao e => ?_, fun b ao e => ⟨(s4.above b ao e).1, nn _ (s4.above b ao e).2⟩, fun b cl es e => ?_, s4.inj⟩⟩
  · have := leN (s3 a _ hr).1; have := lts e; rw [z] at this; omega
  · rw [w, rdrop_same] at e; cases e
  · refine (s4.rep b ao e).agree (fun ob z => k b ob (fun w => ?_) z) fun cl es eo => ⟨rfl, fun ob z => k _ ob (fun w => ?_) z⟩
    · have := (s4.above b ao e).2; rw [w, hr] at this; cases this
    · subst eo; have := (s4.dict b cl es e).2.1; rw [w, hr] at this; cases this
  · obtain ⟨y1, y2, y3⟩ := s4.dict b cl es e
    exact ⟨y1, nn _ y2, y3⟩

/-- a held object is given to the program -/
theorem St.give {h h' : Heap} {x : Addr} {r₀ : Res} {ao : AObj} (S : St c R H h) (hx : R x = some r₀) (hs : Heap.SameBut x h h') (hni : ∀ cl es, ao ≠ .inst cl es) (ho : ∀ D, ORep c h' D x ao) : H x = none ∧ St c (rdrop R x) (up H x ao) h' := by
  have bx : c.base.objs.size ≤ x := (S.res x _ hx).1
  obtain ⟨s1, s2, s3, D, s4⟩ := S.dropAny hx hs.extBut (by rw [hs.1]; exact S.size)
  obtain ⟨D₀, s40⟩ := S.rep
  have hHx : H x = none := by
    cases q : H x with
    | none => rfl
    | some o => have := (s40.above x o q).2; rw [hx] at this; cases this
  have hD : ∀ a cl es, H a = some (.inst cl es) → D a ≠ x := fun a cl es e z => by
    have hax : a ≠ x := fun w => by rw [w, hHx] at e; cases e
    obtain ⟨e1, ents, n, e2, _⟩ := s4.rep a _ e
    obtain ⟨p1, ents', n', p2, _⟩ := s40.rep a _ e
    rw [hs.2 a hax] at e1
    rw [p1] at e1
    have hd : D₀ a = D a := by injection e1 with e1; injection e1 with _ z; exact Option.some.inj z
    have := (s40.dict a cl es e).2.1
    rw [hd, z, hx] at this; cases this
  refine ⟨hHx, s1, s2, s3, D, ⟨fun a o e => ?_, fun a o e => ?_, fun a cl es e => ?_, fun a b cl es cl' es' e e' => ?_⟩⟩
  · by_cases q : a = x
    · subst q; rw [up_same] at e; cases e; exact ho D
    · rw [up_other q] at e; exact s4.rep a o e
  · by_cases q : a = x
    · subst q; exact ⟨abv bx, rdrop_same⟩
    · rw [up_other q] at e; exact s4.above a o e
  · by_cases q : a = x
    · subst q; rw [up_same] at e; cases e; exact absurd rfl (hni cl es)
    · rw [up_other q] at e
      obtain ⟨y1, y2, y3⟩ := s4.dict a cl es e
      exact ⟨y1, y2, by rw [up_other (hD a cl es e)]; exact y3⟩
  · by_cases q : a = x
    · subst q; rw [up_same] at e; cases e; exact absurd rfl (hni cl es)
    · by_cases q' : b = x
      · subst q'; rw [up_same] at e'; cases e'; exact absurd rfl (hni cl' es')
      · rw [up_other q] at e; rw [up_other q'] at e'; exact s4.inj a b cl es cl' es' e e'
end

noncomputable def XOk (g : Gx) (sc : Scope) (nm : List Str) (x : X) (e : PySem.Expr) : Prop :=
  ∀ (A : Around) (R : RR) (V : VV) (env : Env) (e₀ : Env) (l₀ : List Env) (s₀ : Shared), Ev g A R e₀ l₀ → Frm R env sc nm V → HX g A R V s₀ x (eval e env) ∧ HT g A R V s₀ x (isTrue e env (eval e env))

noncomputable def RC (R : RR) (a D C : Addr) (o l : Obj) (m : Str → Option Value) : RR := rup (rup (rup R a (.obj o)) D (.obj l)) C (.ns m)

theorem te_false {g : Gx} {R : RR} {s₀ : Shared} {e : Value} {s' : Shared} {P : Prop} (h : TE g R s₀ (fun _ _ => False) e s') : P := by
  obtain ⟨_, _, _, _, _, _, h⟩ := h; exact h.elim

theorem stk_of {R R' : RR} {l : List Env} (h : Stk R l) (k : ∀ b r, R b = some r → R' b = some r) : Stk R' l := fun e he => by
  have F := h e he
  obtain ⟨m, hm⟩ := F.ns
  exact ⟨F.kind, F.frame, F.gen, F.co, F.blt, F.glob, m, k _ _ hm⟩

/-- the tests of a comprehension's clause -/
inductive CTests (g : Gx) (sc : Scope) (nm : List Str) : Option X → List PySem.Expr → Prop
  | nil : CTests g sc nm none []
  | one {x e} : XOk g sc nm x e → CTests g sc nm (some x) [e]

section
variable {g : Gx} {A : Around} {R : RR} {V : VV} {s₀ : Shared} {env : Env} {mg mb : Str → Option Value} {e₀ : Env} {l₀ : List Env} {sc csc : Scope} {nm : List Str}

theorem tests_ok {c : Option X} {ifs : List PySem.Expr} {H : AHeap} {s : Shared} {Q : Bool → AHeap → Prop} {E : String → AHeap → Prop} (h : CTests g sc nm c ifs) (ev : Ev g A R e₀ l₀) (fr : Frm R env sc nm V) (S : St g.c R H s.heap) (m : Sm s₀ s)
    (q : wpC g c V Q E H) : wpAny (model g.c.prog g.c.w) A (forIn ifs true fun c r => if r = true then do let ok ← isTrue c env (eval c env); pure (ForInStep.yield ok) else pure (ForInStep.yield r)) (TB g R s₀ Q) (TE g R s₀ E) s := by
  cases h with
  | nil => simp only [xc_e0, xc_e1] at q; exact wpAny_tests_nil ⟨H, S, m, q⟩
  | one hx =>
    simp only [xc_e0, xc_e1] at q
    refine wpAny_tests_one (wpAny_mono ((hx A R V env e₀ l₀ s₀ ev fr).2 H s (fun _ b H => Q b H) E S m q) (fun b s' z => ?_) fun _ _ z => z)
    obtain ⟨v, H', S', m', q', _⟩ := z
    exact ⟨H', S', m', q'⟩

theorem comp_loop {x : X} {c : Option X} {elt iter : PySem.Expr} {ifs : List PySem.Expr} {t : Str} {pt pos : Pos} {a D C : Addr} {xs : List AV} {av : AV} {H₀ : AHeap} {I : Nat → List AV → AHeap → Prop} {RR' : Result → Shared → Prop} {s₁ : Shared} {o : Obj} {m₁ : Str → Option Value}
    (hh : A.handled = none) (ev : Ev g A R e₀ l₀) (fr : Frm R env sc nm V) (hm : compScOk sc csc nm [t] = true) (hx : XOk g csc (hideN nm [t] ++ [t]) x elt) (hc : CTests g csc (hideN nm [t] ++ [t]) c ifs)
    (ha : R a = none) (hD : R D = none) (hC : R C = none) (hDa : D ≠ a) (hCa : C ≠ a) (hCD : C ≠ D) (hsv : ∀ y, av = .str y → PyData.strOk y = true)
    (hxs : itemsOf H₀ av = some xs) (hz : xs.length ≤ sizeLine)
    (step : ∀ k acc H', I k acc H' → sameIt H₀ H' av ∧ ∀ y, xs[k]? = some y → wpC g c (V ++ [some y]) (fun b H => if b then wpX g x (V ++ [some y]) (fun y H => I (k + 1) (acc ++ (some y).toList) H) (fun _ _ => False) H else I (k + 1) (acc ++ (none : Option AV).toList) H) (fun _ _ => False) H')
    (h0 : I 0 [] H₀) (ho : ItObj H₀ av 0 o) (S : St g.c (RC R a D C o (listOf #[] 0) m₁) H₀ s₁.heap) (ms : Sm s₀ s₁)
    (fin : ∀ acc H' s' m', I xs.length acc H' → H' D = none → St g.c (rup R C (.ns m')) (up H' D (.list acc)) s'.heap → Sm s₀ s' → RR' (.ok .next) s') :
    codeAny (model g.c.prog g.c.w) A (.compLoop (.ListComp elt [⟨.Name t pt, iter, ifs, 0⟩] csc pos) 0 (.ref a) (.ref D) (compEnvC csc (closL env csc.names []) C env)) RR' s₁ := by
  have hloc : csc.names.lookup t = some .local ∧ csc.kind = .function := by
    unfold compScOk at hm
    simp only [Bool.and_eq_true, beq_iff_eq, List.all_eq_true] at hm
    exact ⟨(hm.1.1.1.2 t (.head _)).1.1, hm.1.1.1.1⟩
  have hRa : ∀ o l m, RC R a D C o l m a = some (.obj o) := fun o l m => by unfold RC; rw [rup_other (Ne.symm hCa), rup_other (Ne.symm hDa), rup_same]
  have hRD : ∀ o l m, RC R a D C o l m D = some (.obj l) := fun o l m => by unfold RC; rw [rup_other (Ne.symm hCD), rup_same]
  have hRC : ∀ o l m, RC R a D C o l m C = some (.ns m) := fun o l m => rup_same
  have hle : ∀ o l m b r, R b = some r → RC R a D C o l m b = some r := fun o l m b r e => by
    have h1 : b ≠ a := fun z => by rw [z, ha] at e; cases e
    have h2 : b ≠ D := fun z => by rw [z, hD] at e; cases e
    have h3 : b ≠ C := fun z => by rw [z, hC] at e; cases e
    unfold RC; rw [rup_other h3, rup_other h2, rup_other h1]; exact e
  have sa : ∀ o l m o', rup (RC R a D C o l m) a (.obj o') = RC R a D C o' l m := fun o l m o' => by
    funext b
    by_cases q : b = a
    · subst q; rw [rup_same, hRa]
    · rw [rup_other q]; unfold RC
      by_cases q2 : b = C
      · subst q2; rw [rup_same, rup_same]
      · rw [rup_other q2, rup_other q2]
        by_cases q3 : b = D
        · subst q3; rw [rup_same, rup_same]
        · rw [rup_other q3, rup_other q3, rup_other q, rup_other q]
  have sD : ∀ o l m l', rup (RC R a D C o l m) D (.obj l') = RC R a D C o l' m := fun o l m l' => by
    funext b
    by_cases q : b = D
    · subst q; rw [rup_same, hRD]
    · rw [rup_other q]; unfold RC
      by_cases q2 : b = C
      · subst q2; rw [rup_same, rup_same]
      · rw [rup_other q2, rup_other q2, rup_other q, rup_other q]
  have sC : ∀ o l m m', rup (RC R a D C o l m) C (.ns m') = RC R a D C o l m' := fun o l m m' => by
    funext b
    by_cases q : b = C
    · subst q; rw [rup_same, hRC]
    · rw [rup_other q]; unfold RC; rw [rup_other q, rup_other q]
  refine codeAny_compLoop_tests (fun n s => ∃ k o' m' vs cnt acc H', n = xs.length - k ∧ k ≤ xs.length ∧ ItObj H' av k o' ∧ VRs acc vs ∧ acc.length ≤ k ∧ St g.c (RC R a D C o' (listOf (vs : List Value).toArray cnt) m') H' s.heap ∧ Sm s₀ s ∧ I k acc H') ?_ xs.length
    ⟨0, o, m₁, [], 0, [], H₀, rfl, Nat.zero_le _, ho, .nil, Nat.le_refl _, S, ms, h0⟩
  rintro n s ⟨k, o', m', vs, cnt, acc, H', rfl, hk, hio, hvs, hacc, S', ms', hI⟩
  obtain ⟨hsame, hstep⟩ := step k acc H' hI
  have hxs' : itemsOf H' av = some xs := by
    rw [← hxs]
    cases av with
    | ref p => simp only [sameIt] at hsame; simp only [itemsOf, hsame]
    | _ => rfl
  cases hky : xs[k]? with
  | none =>
    have hkl : k = xs.length := by have := List.getElem?_eq_none_iff.mp hky; omega
    refine it_end hh hxs' hky hio (hRa _ _ _) (hRC _ _ _) S' fun s₂ S₂ m₂ => ?_
    have hD₂ : rdrop (RC R a D C o' (listOf vs.toArray cnt) m') a D = some (.obj (listOf vs.toArray cnt)) := by rw [rdrop_other hDa]; exact hRD _ _ _
    obtain ⟨hd, S₃⟩ := S₂.give (ao := .list acc) hD₂ ⟨rfl, fun _ _ => rfl⟩ (by intro _ _ z; cases z) fun _ => ⟨vs, cnt, (S₂.res _ _ hD₂).2, hvs⟩
    subst hkl
    refine fin acc H' s₂ m' hI hd (S₃.weaken fun b r e => ?_) (ms'.trans m₂)
    by_cases q : b = C
    · subst q; rw [rup_same] at e; cases e; rw [rdrop_other hCD, rdrop_other hCa]; exact hRC _ _ _
    · rw [rup_other q] at e
      have h1 : b ≠ a := fun z => by rw [z, ha] at e; cases e
      have h2 : b ≠ D := fun z => by rw [z, hD] at e; cases e
      rw [rdrop_other h2, rdrop_other h1]; exact hle _ _ _ _ _ e
  | some y =>
    have hlt : k < xs.length := (List.getElem?_eq_some_iff.mp hky).1
    refine it_item hxs' hky hio (hRa _ _ _) S' hsv fun s₂ u o₂ hu ho₂ S₂ m₂ => ?_
    rw [sa] at S₂
    have hw := hstep y hky
    refine wpAny_assign_Name (wpAny_storeName_local (lookup_relabel_local hloc.1) (S₂.res _ _ (hRC _ _ _)).2 (fun h₃ hn₃ hs₃ => ?_) (by simp [compEnvC, relabel, hloc.2]))
    have S₃ := S₂.setRes (r' := .ns _) (hRC _ _ _) hs₃ hn₃
    rw [sC] at S₃
    have ev' : ∀ o l m, Ev g A (RC R a D C o l m) e₀ l₀ := fun o l m => ⟨ev.aok, stk_of ev.stk (hle o l m)⟩
    have fr' : ∀ o l, Frm (RC R a D C o l (fun z => if z = t then some u else m' z)) (compEnvC csc (closL env csc.names []) C env) csc (hideN nm [t] ++ [t]) (V ++ [some y]) := fun o l =>
      fr.inner (xv := [y]) hm (hRC _ _ _) (hle _ _ _) rfl fun j t' hj => by
        cases j with
        | zero => cases hj; exact ⟨y, u, rfl, by simp, hu⟩
        | succ j => simp at hj
    have ms₃ : Sm s₀ { s₂ with heap := h₃, toks := s₂.toks + 1 } := (ms'.trans m₂).step _ _
    have ms₃' : Sm s₀ { s₂ with heap := h₃ } := (ms'.trans m₂).heap _
    refine wpAny_mono (tests_ok hc (ev' _ _ _) (fr' _ _) S₃ (by first | exact ms₃' | exact ms₃) hw) (fun ok s₄ z => ?_) fun _ _ z => te_false z
    obtain ⟨H₄, S₄, m₄, q₄⟩ := z
    cases ok with
    | false =>
      simp only [Bool.false_eq_true, if_false, Option.toList_none, List.append_nil] at q₄ ⊢
      have hs4 := (step _ _ _ q₄).1
      exact ⟨xs.length - (k + 1), by omega, k + 1, o₂, _, vs, cnt, acc, H₄, rfl, hlt, ItObj.same ho₂ (by
        cases av with
        | ref p => simp only [sameIt] at hs4 hsame ⊢; rw [hs4, hsame]
        | _ => trivial), hvs, by omega, S₄, m₄, q₄⟩
    | true =>
      simp only [if_true] at q₄ ⊢
      refine wpAny_mono ((hx A _ _ _ e₀ l₀ s₀ (ev' _ _ _) (fr' _ _)).1 H₄ s₄ _ _ S₄ m₄ q₄) (fun w s₅ z => ?_) fun _ _ z => te_false z
      obtain ⟨bv, H₅, hw5, S₅, m₅, q₅⟩ := z
      have hs5 := (step _ _ _ q₅).1
      have hsz : vs.length ≤ sizeLine := by have := hvs.length; omega
      refine append_at (S₅.res _ _ (hRD _ _ _)).2 (fun h₆ hs₆ ho₆ => ?_) (by simpa using hsz)
      have S₆ := S₅.setRes (r' := .obj (listOf (vs ++ [w]).toArray (cnt + 1))) (hRD _ _ _) hs₆ (by show h₆.get? D = _; rw [ho₆]; simp [W.listOf])
      rw [sD] at S₆
      exact ⟨xs.length - (k + 1), by omega, k + 1, o₂, _, vs ++ [w], cnt + 1, acc ++ [bv], H₅, rfl, hlt, ItObj.same ho₂ (by
        cases av with
        | ref p => simp only [sameIt] at hs5 hsame ⊢; rw [hs5, hsame]
        | _ => trivial), hvs.append (.one hw5), by simp; omega, S₆, m₅.heap _, q₅⟩
theorem comp_clos {ts : List Str} (fr : Frm R env sc nm V) (hm : compScOk sc csc nm ts = true) : closureFor csc env = pure (closL env csc.names []) := by
  refine closureFor_of fun p hp hk => ?_
  unfold compScOk at hm
  simp only [Bool.and_eq_true, Bool.not_eq_true', beq_iff_eq, List.all_eq_true, decide_eq_true_eq, bne_iff_ne, ne_eq, Bool.or_eq_true] at hm
  rcases (hm.2 p hp).1.2 with z | ⟨⟨z1, z2⟩, _⟩
  · exact absurd hk z
  · have hb : p.1 ∈ nm := by simpa using z2
    obtain ⟨i, hi, e⟩ := List.mem_iff_getElem.mp hb
    obtain ⟨a, x, v, c1, _⟩ := fr.cell i p.1 (by rw [List.getElem?_eq_getElem hi, e]) (.inl (fr.cco _ z1))
    exact ⟨a, c1⟩
theorem comp_sc {ts : List Str} (hm : compScOk sc csc nm ts = true) : csc.kind = .function ∧ (∀ y ∈ csc.names, y.2 ≠ .cell) ∧ ∀ y ∈ csc.names, y.2 = .local → csc.names.lookup y.1 = some .local := by
  unfold compScOk at hm
  simp only [Bool.and_eq_true, Bool.not_eq_true', beq_iff_eq, List.all_eq_true, decide_eq_true_eq, bne_iff_ne, ne_eq, Bool.or_eq_true] at hm
  refine ⟨hm.1.1.1.1, fun y hy => (hm.2 y hy).1.1.1, fun y hy hk => ?_⟩
  rcases (hm.2 y hy).1.1.2 with z | z
  · exact absurd hk z
  · exact z.1

theorem comp_block {x : X} {c : Option X} {elt iter : PySem.Expr} {ifs : List PySem.Expr} {t : Str} {pt pos : Pos} {xs : List AV} {av : AV} {u : Value} {H₀ : AHeap} {I : Nat → List AV → AHeap → Prop} {RR' : Value → Addr → Result → Shared → Prop} {s₁ : Shared} {E : Value → Shared → Prop}
    (Ck : g.c.Ok mg mb) (hh : A.handled = none) (ev : Ev g A R e₀ l₀) (fr : Frm R env sc nm V) (hm : compScOk sc csc nm [t] = true) (hx : XOk g csc (hideN nm [t] ++ [t]) x elt) (hc : CTests g csc (hideN nm [t] ++ [t]) c ifs)
    (hv : VR av u) (S : St g.c R H₀ s₁.heap) (ms : Sm s₀ s₁) (hxs : itemsOf H₀ av = some xs) (hz : xs.length ≤ sizeLine) (h0 : I 0 [] H₀)
    (step : ∀ k acc H', I k acc H' → sameIt H₀ H' av ∧ ∀ y, xs[k]? = some y → wpC g c (V ++ [some y]) (fun b H => if b then wpX g x (V ++ [some y]) (fun y H => I (k + 1) (acc ++ (some y).toList) H) (fun _ _ => False) H else I (k + 1) (acc ++ (none : Option AV).toList) H) (fun _ _ => False) H')
    (fin : ∀ D Ca acc H' s' m', R Ca = none → I xs.length acc H' → H' D = none → St g.c (rup R Ca (.ns m')) (up H' D (.list acc)) s'.heap → Sm s₀ s' → RR' (.ref D) Ca (.ok .next) s') :
    wpAny (model g.c.prog g.c.w) A (pyIter u) (fun it s₂ => wpAny (model g.c.prog g.c.w) A (newList []) (fun acc s₃ => wpAny (model g.c.prog g.c.w) A (newFunctionEnv csc env.globals (closL env csc.names []) [] env.qual none .none (some env)) (fun cenv s₄ =>
      codeAny (model g.c.prog g.c.w) A (.compStart (.ListComp elt [⟨.Name t pt, iter, ifs, 0⟩] csc pos) 0 it acc { cenv with scope := relabel csc env }) (RR' acc cenv.locals) s₄) E s₃) E s₂) E s₁ := by
  obtain ⟨hkind, hcell, _⟩ := comp_sc hm
  have hsv : ∀ y, av = .str y → PyData.strOk y = true := by rintro y rfl; cases hv; assumption
  refine it_new Ck hv S hxs fun s₂ a o ha hHa ho S₂ m₂ => ?_
  refine wpAny_newObj_type (wpAny_newFunctionEnv hcell (by intro y hy; simp at hy) (fun h₁ hns₁ hsb₁ => ?_) hkind)
  dsimp only at hns₁ hsb₁ ⊢
  obtain ⟨hD1, hD2, S₃⟩ := S₂.newRes (x := s₂.heap.objs.size) (r := .obj (listOf #[] 0)) (h' := s₂.heap.push { cls := .type "list", dict := none, data := .seq ([] : List Value).toArray }) (Nat.le_refl _) (fun _ _ z => Heap.get?_push_of_some _ z) (by rw [Heap.size_push]; omega) (Heap.get?_push_size _ rfl)
  generalize hH2 : s₂.heap.push { cls := .type "list", dict := none, data := .seq ([] : List Value).toArray } = H2 at hns₁ hsb₁ S₃ ⊢
  obtain ⟨hC1, hC2, S₄⟩ := S₃.newRes (x := H2.objs.size) (r := .ns _) (h' := h₁) (Nat.le_refl _) (fun b ob z => hsb₁.extBut b ob (Nat.ne_of_lt (Heap.lt_size z)) (Heap.get?_push_of_some _ z)) (by rw [hsb₁.1, Heap.size_push]; omega) hns₁
  generalize s₂.heap.objs.size = D at hD1 hD2 S₃ S₄ hC1 ⊢
  generalize H2.objs.size = Ca at hC1 hC2 S₄ hns₁ hsb₁ ⊢
  have hDa : D ≠ a := fun z => by rw [z, rup_same] at hD1; cases hD1
  have hCD : Ca ≠ D := fun z => by rw [z, rup_same] at hC1; cases hC1
  rw [rup_other hCD] at hC1
  have hCa : Ca ≠ a := fun z => by rw [z, rup_same] at hC1; cases hC1
  rw [rup_other hCa] at hC1
  rw [rup_other hDa] at hD1
  have loop : ∀ s₃ : Shared, s₃ = { s₂ with heap := h₁, toks := s₂.toks + ([] : List (Str × Value)).length } →
      codeAny (model g.c.prog g.c.w) A (.compLoop (.ListComp elt [⟨.Name t pt, iter, ifs, 0⟩] csc pos) 0 (.ref a) (.ref D) (compEnvC csc (closL env csc.names []) Ca env)) (RR' (.ref D) Ca) s₃ := by
    rintro s₃ rfl
    exact comp_loop hh ev fr hm hx hc ha hD1 hC1 hDa hCa hCD hsv hxs hz step h0 ho S₄ ((ms.trans m₂).step _ _) fun acc H' s' m' h1 h2 h3 h4 => fin D Ca acc H' s' m' hC1 h1 h2 h3 h4
  refine codeAny_compStart_list (loop _ rfl) (it_self ho ?_ (loop _ rfl))
  refine (S₄.res a (.obj o) ?_).2
  rw [rup_other (Ne.symm hCa), rup_other (Ne.symm hDa), rup_same]

theorem hx_comp {x it : X} {c : Option X} {elt iter : PySem.Expr} {ifs : List PySem.Expr} {t : Str} {pt pos : Pos} (Ck : g.c.Ok mg mb) (ev : Ev g A R e₀ l₀) (fr : Frm R env sc nm V) (hm : compScOk sc csc nm [t] = true)
    (hf : ∀ x, foldedSetIterable iter env x = pure x) (hit : HX g A R V s₀ it (eval iter env)) (hx : XOk g csc (hideN nm [t] ++ [t]) x elt) (hc : CTests g csc (hideN nm [t] ++ [t]) c ifs) :
    HX g A R V s₀ (.comp x 1 false it c) (eval (.ListComp elt [⟨.Name t pt, iter, ifs, 0⟩] csc pos) env) := fun H s Q E S m q => by
  simp only [x_e0, x_e1, x_e2, x_e3, x_e4, x_e5, x_e6, x_e7, x_e8, x_e9, x_e10, x_e11, x_e12, x_e13, x_d0, x_d1, x_e15, Bool.false_eq_true, if_false] at q
  obtain ⟨hmd, q⟩ := q
  rw [eval_ListComp]
  refine wpAny_comprehension_free (use := none) rfl hf (comp_clos fr hm) (comp_sc hm).1 (comp_sc hm).2.2 ?_
  refine wpAny_mono (hit H s _ E S m q) (fun u s₁ z => ?_) fun _ _ z => z
  obtain ⟨av, H₁, hv, S₁, m₁, xs, hxs, hz, I, hI, hstep⟩ := z
  refine comp_block (I := I) (RR' := fun acc Ca => compPost (model g.c.prog g.c.w) A (TE g R s₀ E) none (TQ g R s₀ Q) acc Ca) Ck (ev.aok.hand hmd) ev fr hm hx hc hv S₁ m₁ hxs hz hI (fun k acc H' hi => ⟨(hstep k acc H' hi).1, (hstep k acc H' hi).2.2⟩) ?_
  intro D Ca acc H' s' m' hCa hi hd S' ms'
  refine ⟨m', (S'.res Ca _ rup_same).2, fun h' hs' => ?_⟩
  refine ⟨.ref D, up H' D (.list acc), .ref D, (S'.dropAny (rup_same) hs'.extBut (by rw [hs'.1]; exact S'.size)).weaken fun b r e => ?_, ms'.heap _, (hstep _ acc H' hi).2.1 rfl D hd⟩
  have hb : b ≠ Ca := fun z => by rw [z, hCa] at e; cases e
  rw [rdrop_other hb, rup_other hb]; exact e

/-- {k: v} -/
theorem hx_dict1 {k v : X} {ke ve : PySem.Expr} {pos : Pos} (ev : Ev g A R e₀ l₀) (fr : Frm R env sc nm V) (hk : XOk g sc nm k ke) (hv : XOk g sc nm v ve) : HX g A R V s₀ (.dict [k] [v]) (eval (.Dict [some ke] [ve] pos) env) := fun H s Q E S m q => by
  simp only [x_e0, x_e1, x_e2, x_e3, x_e4, x_e5, x_e6, x_e7, x_e8, x_e9, x_e10, x_e11, x_e12, x_e13, x_d0, x_d1, x_e15] at q
  refine wpAny_Dict_walk (knd := strKind g.c.prog g.c.w) rfl rfl (by simp) (by simp) ?_
  obtain ⟨hR, hH, S₁⟩ := S.newRes (x := s.heap.objs.size) (r := .obj { cls := .type "dict", data := .dict #[] }) (h' := s.heap.push { cls := .type "dict", data := .dict #[] }) (Nat.le_refl _) (fun _ _ z => Heap.get?_push_of_some _ z) (by rw [Heap.size_push]; omega) (Heap.get?_push_size _ rfl)
  generalize s.heap.objs.size = d at hR hH S₁ ⊢
  generalize s.heap.push { cls := .type "dict", data := .dict #[] } = h₁ at S₁ ⊢
  have hle : ∀ b r, R b = some r → rup R d (.obj { cls := .type "dict", data := .dict #[] }) b = some r := fun b r e => by
    rw [rup_other (fun z => by rw [z, hR] at e; cases e)]; exact e
  have ev' : Ev g A (rup R d (.obj { cls := .type "dict", data := .dict #[] })) e₀ l₀ := ⟨ev.aok, stk_of ev.stk hle⟩
  have fr' : Frm (rup R d (.obj { cls := .type "dict", data := .dict #[] })) env sc nm V := fr.congr fun b hb => rup_other fun z => by
    rw [z] at hb; rcases hb with ⟨_, hb⟩ | ⟨_, hb⟩ <;> (rw [hR] at hb; cases hb)
  have te : ∀ {e : Value} {s' : Shared}, TE g (rup R d (.obj { cls := .type "dict", data := .dict #[] })) s₀ E e s' → TE g R s₀ E e s' := by
    rintro e s' ⟨a, cl, H', e1, X, ms, q⟩; exact ⟨a, cl, H', e1, X.weaken hle, ms, q⟩
  refine pairTrees_cons_walk (wpAny_mono ((hk A _ V env e₀ l₀ s₀ ev' fr').1 H _ _ E S₁ (m.heap _) q) (fun kv s₂ z => ?_) fun _ _ z => te z)
  obtain ⟨ka, H₂, hka, S₂, m₂, q₂⟩ := z
  refine wpAny_mono ((hv A _ V env e₀ l₀ s₀ ev' fr').1 H₂ _ _ E S₂ m₂ q₂) (fun vv s₃ z => ?_) fun _ _ z => te z
  obtain ⟨va, H₃, hva, S₃, m₃, q₃⟩ := z
  refine pairTrees_nil_walk ?_
  cases hka with
  | str ks tk hok =>
    dsimp only at q₃
    have hd₃ : s₃.heap.get? d = some { cls := .type "dict", data := .dict #[] } := (S₃.res d _ rup_same).2
    refine ⟨[(ks, vv)], ⟨?_, rfl, trivial⟩, ⟨_, #[], 0, hd₃, ⟨rfl, rfl, rfl⟩, rfl, fun _ h => by simp at h, .nil, List.nodup_nil⟩, fun h' hd hs => ?_⟩
    · exact strKind_is _ _ ks tk
    · obtain ⟨o', es', ep, hda⟩ := hd
      obtain ⟨hn, S₄⟩ := S₃.give (h' := h') (ao := .dict ep [(ks, va)]) rup_same hs (by intro _ _ z; cases z) fun _ => ⟨[(ks, vv)], ⟨o', es', hda⟩, .cons hok hva .nil⟩
      refine ⟨.ref d, _, .ref d, S₄.weaken fun b r e => ?_, m₃.step _ _, q₃ d ep hn⟩
      have hb : b ≠ d := fun z => by rw [z, hR] at e; cases e
      rw [rdrop_other hb, rup_other hb]; exact e
  | none => exact q₃.elim
  | bool => exact q₃.elim
  | int => exact q₃.elim
  | ref => exact q₃.elim
end
end Mine

namespace Mine

section
variable {g : Gx} {mg mb : Str → Option Value} (C : g.c.Ok mg mb) (PO : PgOk g.c)
theorem each_of {sc : Scope} {nm : List Str} {xs : List X} {es : List PySem.Expr} {A : Around} {R : RR} {V : VV} {env : Env} {e₀ : Env} {l₀ : List Env} {s₀ : Shared} (h : Each (fun x e => XOk g sc nm x e ∧ noStar e = true) xs es) (ev : Ev g A R e₀ l₀) (fr : Frm R env sc nm V) :
    EachX g A R V s₀ env xs es := by
  induction h with
  | nil => exact .nil
  | cons a _ ih => exact .cons ⟨(a.1 A R V env e₀ l₀ s₀ ev fr).1, a.2⟩ ih
theorem each_of1 {sc : Scope} {nm : List Str} {xs : List X} {es : List PySem.Expr} {A : Around} {R : RR} {V : VV} {env : Env} {e₀ : Env} {l₀ : List Env} {s₀ : Shared} (h : Each (fun x e => XOk g sc nm x e ∧ noStar e = true) xs es) (ev : Ev g A R e₀ l₀) (fr : Frm R env sc nm V) :
    Each (fun x e => HX g A R V s₀ x (eval e env)) xs es := by
  induction h with
  | nil => exact .nil
  | cons a _ ih => exact .cons (a.1 A R V env e₀ l₀ s₀ ev fr).1 ih
theorem each_of2 {sc : Scope} {nm : List Str} {xs : List X} {es : List PySem.Expr} {A : Around} {R : RR} {V : VV} {env : Env} {e₀ : Env} {l₀ : List Env} {s₀ : Shared} (h : Each (fun x e => XOk g sc nm x e ∧ noStar e = true) xs es) (ev : Ev g A R e₀ l₀) (fr : Frm R env sc nm V) :
    Each (fun x e => HT g A R V s₀ x (isTrue e env (eval e env))) xs es := by
  induction h with
  | nil => exact .nil
  | cons a _ ih => exact .cons (a.1 A R V env e₀ l₀ s₀ ev fr).2 ih

theorem XOk.of {sc : Scope} {nm : List Str} {x : X} {e : PySem.Expr} (h : ∀ (A : Around) (R : RR) (V : VV) (env : Env) (e₀ : Env) (l₀ : List Env) (s₀ : Shared), Ev g A R e₀ l₀ → Frm R env sc nm V → HX g A R V s₀ x (eval e env))
    (he : ∀ env whole, isTrue e env whole = (do let v ← whole; standAt e.pos; holding [v] (truthy v))) : XOk g sc nm x e := fun A R V env e₀ l₀ s₀ ev fr =>
  ⟨h A R V env e₀ l₀ s₀ ev fr, HT.plain (h A R V env e₀ l₀ s₀ ev fr) (he _ _)⟩

theorem folded_set {iter : PySem.Expr} {env : Env} (h : notSet iter = true) (x : Value) : foldedSetIterable iter env x = pure x := by
  cases iter <;> first | rfl | cases h

include C PO in
mutual
theorem sX : ∀ (x : X) (e : PySem.Expr) (top : Bool) (sc : Scope) (nm : List Str), mtX g.c.P top sc nm x e = true → XOk g sc nm x e
  | .lit v, e, top, sc, nm, h => by
    replace h : mLit v e = true := h
    unfold mLit at h
    split at h
    · exact .of (fun A R V env e₀ l₀ s₀ ev fr => hx_lit h) fun _ _ => rfl
    · cases h
  | .var i, e, top, sc, nm, h => by
    replace h : mVar sc nm i e = true := h
    unfold mVar at h
    split at h
    · simp only [Bool.and_eq_true, beq_iff_eq] at h
      exact .of (fun A R V env e₀ l₀ s₀ ev fr => hx_var fr h.1.1 h.1.2 h.2) fun _ _ => rfl
    · cases h
  | .bin op a b, e, top, sc, nm, h => by
    replace h : mBin op (mtX g.c.P top sc nm a) (mtX g.c.P top sc nm b) e = true := h
    unfold mBin at h
    split at h
    · simp only [Bool.and_eq_true, beq_iff_eq] at h
      obtain ⟨⟨rfl, h1⟩, h2⟩ := h
      exact .of (fun A R V env e₀ l₀ s₀ ev fr => hx_bin C ev (sX a _ top sc nm h1 A R V env e₀ l₀ s₀ ev fr).1 (sX b _ top sc nm h2 A R V env e₀ l₀ s₀ ev fr).1) fun _ _ => rfl
    · cases h
  | .neg a, e, top, sc, nm, h => by
    replace h : mNeg (mtX g.c.P top sc nm a) e = true := h
    unfold mNeg at h
    split at h
    · exact .of (fun A R V env e₀ l₀ s₀ ev fr => hx_neg (sX a _ top sc nm h A R V env e₀ l₀ s₀ ev fr).1) fun _ _ => rfl
    · cases h
  | .not a, e, top, sc, nm, h => by
    replace h : mNot (mtX g.c.P top sc nm a) e = true := h
    unfold mNot at h
    split at h
    · exact fun A R V env e₀ l₀ s₀ ev fr => ⟨hx_not (sX a _ top sc nm h A R V env e₀ l₀ s₀ ev fr).1, ht_not (sX a _ top sc nm h A R V env e₀ l₀ s₀ ev fr).2⟩
    · cases h
  | .ao isAnd xs, e, top, sc, nm, h => by
    replace h : mAo isAnd (mtXs g.c.P top sc nm xs) e = true := h
    unfold mAo at h
    split at h
    · simp only [Bool.and_eq_true, beq_iff_eq] at h
      obtain ⟨rfl, h2⟩ := h
      exact fun A R V env e₀ l₀ s₀ ev fr => ⟨hx_ao (each_of1 (sXs xs _ top sc nm h2) ev fr), ht_ao (each_of2 (sXs xs _ top sc nm h2) ev fr)⟩
    · cases h
  | .cmp op a b, e, top, sc, nm, h => by
    replace h : mCmp op (mtX g.c.P top sc nm a) (mtX g.c.P top sc nm b) e = true := h
    unfold mCmp at h
    split at h
    · simp only [Bool.and_eq_true, beq_iff_eq, Bool.not_eq_true'] at h
      obtain ⟨⟨⟨rfl, h0⟩, h1⟩, h2⟩ := h
      exact fun A R V env e₀ l₀ s₀ ev fr => ⟨hx_cmp C ev h0 (sX a _ top sc nm h1 A R V env e₀ l₀ s₀ ev fr).1 (sX b _ top sc nm h2 A R V env e₀ l₀ s₀ ev fr).1,
        ht_cmp C ev h0 (sX a _ top sc nm h1 A R V env e₀ l₀ s₀ ev fr).1 (sX b _ top sc nm h2 A R V env e₀ l₀ s₀ ev fr).1⟩
    · cases h
  | .sub a i, e, top, sc, nm, h => by
    replace h : mSub (mtX g.c.P top sc nm a) (mtX g.c.P top sc nm i) e = true := h
    unfold mSub at h
    split at h
    · simp only [Bool.and_eq_true] at h
      obtain ⟨⟨h0, h1⟩, h2⟩ := h
      exact .of (fun A R V env e₀ l₀ s₀ ev fr => hx_sub C h0 (sX a _ top sc nm h1 A R V env e₀ l₀ s₀ ev fr).1 (sX i _ top sc nm h2 A R V env e₀ l₀ s₀ ev fr).1) fun _ _ => rfl
    · cases h
  | .slice a lo hi st, e, top, sc, nm, h => by
    replace h : mSlice (mtX g.c.P top sc nm a) (mtO g.c.P top sc nm lo) (mtO g.c.P top sc nm hi) (mtO g.c.P top sc nm st) e = true := h
    unfold mSlice at h
    split at h
    · simp only [Bool.and_eq_true] at h
      obtain ⟨⟨⟨h0, h1⟩, h2⟩, h3⟩ := h
      exact .of (fun A R V env e₀ l₀ s₀ ev fr => hx_slice (sX a _ top sc nm h0 A R V env e₀ l₀ s₀ ev fr).1 (sO lo _ top sc nm h1 A R V env e₀ l₀ s₀ ev fr) (sO hi _ top sc nm h2 A R V env e₀ l₀ s₀ ev fr) (sO st _ top sc nm h3 A R V env e₀ l₀ s₀ ev fr)) fun _ _ => rfl
    · cases h
  | .call f xs, e, top, sc, nm, h => by
    replace h : mCall sc (g.c.P.gfns.contains f) f (mtXs g.c.P top sc nm xs) e = true := h
    unfold mCall at h
    split at h
    · simp only [Bool.and_eq_true] at h
      obtain ⟨⟨h0, h1⟩, h2⟩ := h
      exact .of (fun A R V env e₀ l₀ s₀ ev fr => hx_call C PO ev fr h0 h1 (each_of (sXs xs _ top sc nm h2) ev fr)) fun _ _ => rfl
    · cases h
  | .meth a m xs, e, top, sc, nm, h => by
    replace h : mMeth m (mtX g.c.P top sc nm a) (mtXs g.c.P top sc nm xs) e = true := h
    unfold mMeth at h
    split at h
    · simp only [Bool.and_eq_true, decide_eq_true_eq] at h
      obtain ⟨⟨⟨⟨⟨h0, h1⟩, h2⟩, h3⟩, h4⟩, h5⟩ := h
      cases beq_iff_eq.mp h0
      exact .of (fun A R V env e₀ l₀ s₀ ev fr => hx_meth C PO ev h2 h1 h3 (sX a _ top sc nm h4 A R V env e₀ l₀ s₀ ev fr).1 (each_of (sXs xs _ top sc nm h5) ev fr)) fun _ _ => rfl
    · cases h
  | .prim f xs, e, top, sc, nm, h => by
    replace h : mCall sc (g.c.P.prims.contains f) f (mtXs g.c.P top sc nm xs) e = true := h
    unfold mCall at h
    split at h
    · simp only [Bool.and_eq_true] at h
      obtain ⟨⟨h0, h1⟩, h2⟩ := h
      exact .of (fun A R V env e₀ l₀ s₀ ev fr => hx_prim C PO fr h0 h1 (each_of (sXs xs _ top sc nm h2) ev fr)) fun _ _ => rfl
    · cases h
  | .isinst a ty, e, top, sc, nm, h => by
    replace h : mIsi g.c.P sc (mtX g.c.P top sc nm a) ty e = true := h
    unfold mIsi at h
    split at h
    · simp only [Bool.and_eq_true] at h
      obtain ⟨⟨⟨⟨h0, h1⟩, h2⟩, h3⟩, h4⟩ := h
      exact .of (fun A R V env e₀ l₀ s₀ ev fr => hx_isinst C PO fr h0 h1 h2 h3 (sX a _ top sc nm h4 A R V env e₀ l₀ s₀ ev fr).1 (mtX_noStar h4)) fun _ _ => rfl
    · cases h
  | .list xs, e, top, sc, nm, h => by
    replace h : mList (mtXs g.c.P top sc nm xs) e = true := h
    unfold mList at h
    split at h
    · simp only [Bool.and_eq_true, decide_eq_true_eq] at h
      exact .of (fun A R V env e₀ l₀ s₀ ev fr => hx_list (each_of (sXs xs _ top sc nm h.1) ev fr) h.2) fun _ _ => rfl
    · cases h
  | .dict [] [], e, top, sc, nm, h => by
    replace h : mDict [] [] (mtOs g.c.P top sc nm []) (mtXs g.c.P top sc nm []) e = true := h
    unfold mDict at h
    split at h
    · simp only [List.isEmpty_nil, Bool.true_and, List.length_nil, Nat.zero_ne_one, decide_false, Bool.false_and, Bool.or_false, Bool.and_eq_true, List.isEmpty_iff] at h
      obtain ⟨rfl, rfl⟩ := h
      exact .of (fun A R V env e₀ l₀ s₀ ev fr => hx_dict0) fun _ _ => rfl
    · cases h
  | .dict [k] [v], e, top, sc, nm, h => by
    replace h : mDict [k] [v] (mtOs g.c.P top sc nm [k]) (mtXs g.c.P top sc nm [v]) e = true := h
    unfold mDict at h
    split at h
    · rename_i ks' vs' _
      simp only [List.isEmpty_cons, Bool.false_and, Bool.false_or, Bool.and_eq_true, decide_eq_true_eq] at h
      obtain ⟨⟨_, h1⟩, h2⟩ := h
      simp only [mos_e0, mos_e1, mxs_e0, mxs_e1] at h1 h2
      split at h1
      · split at h2
        · simp only [Bool.and_eq_true, List.isEmpty_iff] at h1 h2
          obtain ⟨h1, rfl⟩ := h1
          obtain ⟨h2, rfl⟩ := h2
          exact .of (fun A R V env e₀ l₀ s₀ ev fr => hx_dict1 ev fr (sX k _ top sc nm h1) (sX v _ top sc nm h2)) fun _ _ => rfl
        · cases h2
      · cases h1
    · cases h
  | .dict [] (_ :: _), e, top, sc, nm, h => by
    replace h : mDict _ _ _ _ e = true := h
    unfold mDict at h
    split at h <;> simp at h
  | .dict (_ :: _) [], e, top, sc, nm, h => by
    replace h : mDict _ _ _ _ e = true := h
    unfold mDict at h
    split at h <;> simp at h
  | .dict (_ :: _ :: _) (_ :: _), e, top, sc, nm, h => by
    replace h : mDict _ _ _ _ e = true := h
    unfold mDict at h
    split at h <;> simp at h
  | .dict [_] (_ :: _ :: _), e, top, sc, nm, h => by
    replace h : mDict _ _ _ _ e = true := h
    unfold mDict at h
    split at h <;> simp at h
  | .comp x k tup it c, e, top, sc, nm, h => by
    replace h : mComp top tup k sc nm (mtX g.c.P top sc nm it) (fun csc nm' => mtX g.c.P false csc nm' x) (fun csc nm' => mtC g.c.P csc nm' c) e = true := h
    unfold mComp at h
    simp only [Bool.and_eq_true, Bool.not_eq_true', decide_eq_true_eq] at h
    obtain ⟨⟨⟨rfl, rfl⟩, rfl⟩, h⟩ := h
    split at h
    · simp only [Bool.and_eq_true, beq_iff_eq] at h
      obtain ⟨⟨⟨⟨⟨rfl, h1⟩, h2⟩, h3⟩, h4⟩, h5⟩ := h
      exact .of (fun A R V env e₀ l₀ s₀ ev fr => hx_comp C ev fr h3 (folded_set h1) (sX it _ true sc nm h2 A R V env e₀ l₀ s₀ ev fr).1 (sX x _ false _ _ h4) (sC c _ _ _ h5)) fun _ _ => rfl
    · cases h
theorem sC : ∀ (c : Option X) (es : List PySem.Expr) (sc : Scope) (nm : List Str), mtC g.c.P sc nm c es = true → CTests g sc nm c es
  | none, es, sc, nm, h => by
    simp only [mc_e0, mc_e1, List.isEmpty_iff] at h
    subst h; exact .nil
  | some x, es, sc, nm, h => by
    simp only [mc_e0, mc_e1] at h
    split at h
    · exact .one (sX x _ false sc nm h)
    · cases h
theorem sXs : ∀ (xs : List X) (es : List PySem.Expr) (top : Bool) (sc : Scope) (nm : List Str), mtXs g.c.P top sc nm xs es = true → Each (fun x e => XOk g sc nm x e ∧ noStar e = true) xs es
  | [], es, top, sc, nm, h => by
    simp only [mxs_e0, mxs_e1, List.isEmpty_iff] at h
    subst h; exact .nil
  | x :: r, es, top, sc, nm, h => by
    simp only [mxs_e0, mxs_e1] at h
    split at h
    · simp only [Bool.and_eq_true] at h
      exact .cons ⟨sX x _ top sc nm h.1, mtX_noStar h.1⟩ (sXs r _ top sc nm h.2)
    · cases h
theorem sO : ∀ (o : Option X) (e : Option PySem.Expr) (top : Bool) (sc : Scope) (nm : List Str), mtO g.c.P top sc nm o e = true →
    ∀ (A : Around) (R : RR) (V : VV) (env : Env) (e₀ : Env) (l₀ : List Env) (s₀ : Shared), Ev g A R e₀ l₀ → Frm R env sc nm V → HO g A R V s₀ env o e
  | none, e, top, sc, nm, h => by
    simp only [mo_e0, mo_e1, Option.isNone_iff_eq_none] at h
    subst h
    intros; trivial
  | some x, e, top, sc, nm, h => by
    simp only [mo_e0, mo_e1] at h
    split at h
    · exact fun A R V env e₀ l₀ s₀ ev fr => (sX x _ top sc nm h A R V env e₀ l₀ s₀ ev fr).1
    · cases h
end
end
end Mine

namespace Mine

section
variable {g : Gx} {sc : Scope} {nm : List Str} {mg mb : Str → Option Value}

abbrev XMd (g : Gx) (sc : Scope) (nm : List Str) (x : X) (e : PySem.Expr) : Prop := ∀ md, XOk { g with md := md } sc nm x e

theorem te_tx {md : Bool} {R : RR} {env : Env} {V : VV} {s₀ s' : Shared} {E : String → VV → AHeap → Prop} {e : Value} (fr : Frm R env sc nm V) (h : TE { g with md := md } R s₀ (fun cl H => E cl V H) e s') : TX g env sc nm R s₀ E e s' := by
  obtain ⟨a, cl, H', rfl, x, m, q⟩ := h
  exact ⟨a, cl, R, V, H', .none, rfl, .refl, fr, .inr (.inl rfl), x, m, q⟩
theorem TF.trans {R R' : RR} {env : Env} {s₀ s' : Shared} {QN : VV → AHeap → Prop} {QR : AV → AHeap → Prop} {f : Flow} (x : RStep env R R') (h : TF g env sc nm R' s₀ QN QR f s') : TF g env sc nm R s₀ QN QR f s' := by
  cases f with
  | next => obtain ⟨R₂, V', H', r, k⟩ := h; exact ⟨R₂, V', H', x.trans r, k⟩
  | ret v => obtain ⟨R₂, V', H', r, k⟩ := h; exact ⟨R₂, V', H', x.trans r, k⟩
  | brk => exact h
  | cont => exact h
theorem TX.trans {R R' : RR} {env : Env} {s₀ s' : Shared} {E : String → VV → AHeap → Prop} {e : Value} (x : RStep env R R') (h : TX g env sc nm R' s₀ E e s') : TX g env sc nm R s₀ E e s' := by
  obtain ⟨a, cl, R₂, V', H', fl, h1, r, k⟩ := h
  exact ⟨a, cl, R₂, V', H', fl, h1, x.trans r, k⟩

theorem swaps_sub {v o ix : PySem.Expr} {p : Pos} {l : Nat} {env : Env} : swapsWith v (some (.Subscript o ix p)) l env = pure false := by
  cases v <;> rfl
theorem swaps_plain {v : PySem.Expr} {t : Option PySem.Expr} {l : Nat} {env : Env} (h : notComp v = true) : swapsWith v t l env = pure false := by
  cases v <;> first | rfl | cases h

theorem s_ret {e : X} {v : PySem.Expr} {pos : Pos} (hx : XMd g sc nm e v) : SOk g sc nm (fun g => wpS g (.ret e)) (exec (.Return (some v) pos)) := fun md A env l₀ R V s₀ s H QN QR E ev fr S m q => by
  simp only [st_e0, st_e1, st_e2, st_e3, st_e4, st_e5, st_e6] at q
  refine wpAny_Return_some (wpAny_mono ((hx md A R V env env l₀ s₀ ev fr).1 H s _ _ S m q) (fun u s' z => ?_) fun _ _ z => te_tx fr z)
  obtain ⟨av, H', hv, S', m', q'⟩ := z
  exact ⟨R, av, H', .refl, hv, S', m', q'⟩

theorem s_pass {pos : Pos} : SOk g sc nm (fun g => wpS g .pass) (exec (.Pass pos)) := fun md A env l₀ R V s₀ s H QN QR E ev fr S m q => by
  simp only [st_e0, st_e1, st_e2, st_e3, st_e4, st_e5, st_e6] at q
  exact wpAny_Pass ⟨R, V, H, .refl, fr, S, m, q⟩

theorem s_expr {e : X} {v : PySem.Expr} {pos : Pos} (hn : notComp v = true) (hx : XMd g sc nm e v) : SOk g sc nm (fun g => wpS g (.expr e)) (exec (.Expr v pos)) := fun md A env l₀ R V s₀ s H QN QR E ev fr S m q => by
  simp only [st_e0, st_e1, st_e2, st_e3, st_e4, st_e5, st_e6] at q
  refine wpAny_Expr (wpAny_mono ((hx md A R V env env l₀ s₀ ev fr).1 H s _ _ S m q) (fun u s' z => ?_) fun _ _ z => te_tx fr z) (by unfold interactive; rw [fr.kind]; rfl) (swaps_plain hn)
  obtain ⟨av, H', hv, S', m', hne, q'⟩ := z
  cases hv with
  | ref a => exact absurd rfl (hne a)
  | none => exact ⟨R, V, H', .refl, fr, S', m', q'⟩
  | bool => exact ⟨R, V, H', .refl, fr, S', m', q'⟩
  | int => exact ⟨R, V, H', .refl, fr, S', m', q'⟩
  | str => exact ⟨R, V, H', .refl, fr, S', m', q'⟩

theorem s_asgn_var {i : Nat} {e : X} {tg v : PySem.Expr} {pos : Pos} (nd : nm.Nodup) (hn : notComp v = true) (ht : tgtOk sc nm i tg = true) (hx : XMd g sc nm e v) : SOk g sc nm (fun g => wpS g (.assign (.var i) e)) (exec (.Assign [tg] v pos)) :=
  fun md A env l₀ R V s₀ s H QN QR E ev fr S m q => by
  simp only [st_e0, st_e1, st_e2, st_e3, st_e4, st_e5, st_e6, wpT] at q
  unfold tgtOk at ht
  split at ht
  · rename_i id p
    simp only [Bool.and_eq_true, beq_iff_eq] at ht
    refine wpAny_Assign_Name (wpAny_mono ((hx md A R V env env l₀ s₀ ev fr).1 H s _ _ S m q) (fun u s₁ z => ?_) fun _ _ z => te_tx fr z) (swaps_plain hn)
    obtain ⟨av, H', hv, S', m', _, q'⟩ := z
    exact st_name fr nd ht.1 ht.2 hv S' fun s₂ R' r f' S₂ m₂ => ⟨R', _, H', r, f', S₂, m'.trans m₂, q'⟩
  · cases ht

theorem Frm.drop {R R' : RR} {env : Env} {V V' : VV} {Ca : Addr} (f : Frm R' env sc nm V') (fr : Frm R env sc nm V) (hCa : R Ca = none) : Frm (rdrop R' Ca) env sc nm V' := by
  obtain ⟨k1, k2, k3, k4, k5, k6, k7, kc, kl, k8, ⟨m, n1, n2⟩, k9⟩ := f
  obtain ⟨m', n1', _⟩ := fr.ns
  refine ⟨k1, k2, k3, k4, k5, k6, k7, kc, kl, k8, ⟨m, by rw [rdrop_other (fun z => by rw [z, hCa] at n1'; cases n1')]; exact n1, n2⟩, fun i n hn hk => ?_⟩
  obtain ⟨a, x, v, c1, c2, c3⟩ := k9 i n hn hk
  obtain ⟨a', x', v', c1', c2', c3'⟩ := fr.cell i n hn hk
  rw [c1] at c1'; cases c1'
  exact ⟨a, x, v, c1, by rw [rdrop_other (fun z => by rw [z, hCa] at c2'; cases c2')]; exact c2, c3⟩

theorem RStep.drop {env : Env} {R R' : RR} {a : Addr} (x : RStep env R R') : RStep env (rdrop R a) (rdrop R' a) := fun b => by
  by_cases z : b = a
  · subst z; left; rw [rdrop_same, rdrop_same]
  · rw [rdrop_other z, rdrop_other z]; exact x b

/-- a list comprehension stored under a name -/
theorem s_asgn_comp {i : Nat} {x it : X} {c : Option X} {tg elt iter : PySem.Expr} {ifs : List PySem.Expr} {t : Str} {csc : Scope} {pt pos spos : Pos} (C : g.c.Ok mg mb) (nd : nm.Nodup) (ht : tgtOk sc nm i tg = true) (hm : compScOk sc csc nm [t] = true)
    (hf : notSet iter = true) (hit : XMd g sc nm it iter) (hx : ∀ md, XOk { g with md := md } csc (hideN nm [t] ++ [t]) x elt) (hc : ∀ md, CTests { g with md := md } csc (hideN nm [t] ++ [t]) c ifs)
    (hcm : XMd g sc nm (.comp x 1 false it c) (.ListComp elt [⟨.Name t pt, iter, ifs, 0⟩] csc pos)) : SOk g sc nm (fun g => wpS g (.assign (.var i) (.comp x 1 false it c))) (exec (.Assign [tg] (.ListComp elt [⟨.Name t pt, iter, ifs, 0⟩] csc pos) spos)) :=
  fun md A env l₀ R V s₀ s H QN QR E ev fr S m q => by
  simp only [st_e0, st_e1, st_e2, st_e3, st_e4, st_e5, st_e6, wpT] at q
  unfold tgtOk at ht
  split at ht
  · rename_i id p
    simp only [Bool.and_eq_true, beq_iff_eq] at ht
    obtain ⟨b, hsw⟩ : ∃ b, swapsWith (.ListComp elt [⟨.Name t pt, iter, ifs, 0⟩] csc pos) (some (.Name id p)) spos.line env = pure b := ⟨_, rfl⟩
    cases b with
    | false =>
      refine wpAny_Assign_Name (wpAny_mono ((hcm md A R V env env l₀ s₀ ev fr).1 H s _ _ S m q) (fun u s₁ z => ?_) fun _ _ z => te_tx fr z) hsw
      obtain ⟨av, H', hv, S', m', _, q'⟩ := z
      exact st_name fr nd ht.1 ht.2 hv S' fun s₂ R' r f' S₂ m₂ => ⟨R', _, H', r, f', S₂, m'.trans m₂, q'⟩
    | true =>
      simp only [x_e0, x_e1, x_e2, x_e3, x_e4, x_e5, x_e6, x_e7, x_e8, x_e9, x_e10, x_e11, x_e12, x_e13, x_d0, x_d1, x_e15, Bool.false_eq_true, if_false] at q
      obtain ⟨hmd, q⟩ := q
      rw [exec_Assign_Name_used _ _ _ _ hsw]
      refine wpAny_bind (wpAny_standAt (wpAny_bind ?_))
      show wpAny _ A (do let _ ← comprehension (.ListComp elt [⟨.Name t pt, iter, ifs, 0⟩] csc pos) csc env _ (newList []) false (eval iter env) (some (assign (.Name id p) env))) _ _ s
      refine wpAny_bind (wpAny_mono (wpAny_comprehension_free (use := some (assign (.Name id p) env)) (Q := fun _ s' => TF g env sc nm R s₀ QN QR .next s') rfl (folded_set hf) (comp_clos fr hm) (comp_sc hm).1 (comp_sc hm).2.2 ?_)
        (fun _ s' hq => wpAny_pure (wpAny_pure hq)) fun _ _ e => e)
      refine wpAny_mono ((hit md A R V env env l₀ s₀ ev fr).1 H s _ (fun cl H => E cl V H) S m q) (fun u s₁ z => ?_) fun _ _ z => te_tx fr z
      obtain ⟨av, H₁, hv, S₁, m₁, xs, hxs, hz, I, hI, hstep⟩ := z
      refine comp_block (g := { g with md := md }) (I := I) (RR' := fun acc Ca => compPost (model g.c.prog g.c.w) A (TX g env sc nm R s₀ E) (some (assign (.Name id p) env)) (fun _ s' => TF g env sc nm R s₀ QN QR .next s') acc Ca) C (ev.aok.hand hmd) ev fr hm (hx md) (hc md) hv S₁ m₁ hxs hz hI (fun k acc H' hi => ⟨(hstep k acc H' hi).1, (hstep k acc H' hi).2.2⟩) ?_
      intro D Ca acc H' s' m' hCa hi hd S' ms'
      have f₁ : Frm (rup R Ca (.ns m')) env sc nm V := fr.congr fun b hb => rup_other fun z => by
        rw [z] at hb; rcases hb with ⟨_, hb⟩ | ⟨_, hb⟩ <;> (rw [hCa] at hb; cases hb)
      show wpAny _ A (assign (.Name id p) env (.ref D)) _ _ _
      refine wpAny_assign_Name (st_name f₁ nd ht.1 ht.2 (.ref D) S' fun s₂ R' r f' S₂ m₂ => ?_)
      obtain ⟨m'', hm''⟩ := r.ns rup_same
      refine ⟨m'', (S₂.res Ca _ hm'').2, fun h' hs' => ?_⟩
      have hRR : rdrop (rup R Ca (.ns m')) Ca = R := by
        funext b
        by_cases z : b = Ca
        · subst z; rw [rdrop_same, hCa]
        · rw [rdrop_other z, rup_other z]
      have rd := r.drop (a := Ca)
      rw [hRR] at rd
      exact ⟨rdrop R' Ca, _, _, rd, f'.drop fr hCa, S₂.dropAny hm'' hs'.extBut (by rw [hs'.1]; exact S₂.size), (ms'.trans m₂).heap _, ((hstep _ acc H' hi).2.1 rfl D hd).2⟩
  · cases ht

theorem s_if {c : X} {a b : List S} {t : PySem.Expr} {x y : List Stmt} {pos : Pos} (hc : XMd g sc nm c t) (ha : SOk g sc nm (fun g => wpSs g a) (execs x)) (hb : SOk g sc nm (fun g => wpSs g b) (execs y)) :
    SOk g sc nm (fun g => wpS g (.ite c a b)) (exec (.If t x y pos)) := fun md A env l₀ R V s₀ s H QN QR E ev fr S m q => by
  simp only [st_e0, st_e1, st_e2, st_e3, st_e4, st_e5, st_e6] at q
  refine wpAny_If (wpAny_mono ((hc md A R V env env l₀ s₀ ev fr).2 H s (fun _ t H => if t then wpSs { g with md := md } a QN QR E V H else wpSs { g with md := md } b QN QR E V H) (fun cl H => E cl V H) S m q) (fun u s' z => ?_) fun _ _ z => te_tx fr z)
  obtain ⟨v, H', S', m', q', _⟩ := z
  cases u with
  | true => exact ha md A env l₀ R V s₀ s' H' QN QR E ev fr S' m' (by simpa using q')
  | false => exact hb md A env l₀ R V s₀ s' H' QN QR E ev fr S' m' (by simpa using q')

theorem ss_nil : SOk g sc nm (fun g => wpSs g []) (execs []) := fun md A env l₀ R V s₀ s H QN QR E ev fr S m q => by
  simp only [ss_e0, ss_e1] at q
  exact wpAny_execs_nil ⟨R, V, H, .refl, fr, S, m, q⟩
theorem ss_cons {st : S} {r : List S} {t : Stmt} {u : List Stmt} (h : SOk g sc nm (fun g => wpS g st) (exec t)) (hr : SOk g sc nm (fun g => wpSs g r) (execs u)) : SOk g sc nm (fun g => wpSs g (st :: r)) (execs (t :: u)) :=
  fun md A env l₀ R V s₀ s H QN QR E ev fr S m q => by
  simp only [ss_e0, ss_e1] at q
  refine wpAny_execs_cons (wpAny_mono (h md A env l₀ R V s₀ s H _ QR E ev fr S m q) (fun f s' z => ?_) fun _ _ z => z)
  cases f with
  | next =>
    obtain ⟨R', V', H', r', f', S', m', q'⟩ := z
    exact wpAny_mono (hr md A env l₀ R' V' s₀ s' H' QN QR E (ev.step r') f' S' m' q') (fun _ _ z => z.trans r') fun _ _ z => z.trans r'
  | ret v => exact z
  | brk => exact z
  | cont => exact z

/-! loops -/
theorem came_back {M : Model} {A : Around} {env : Env} {R : RR} {H : AHeap} {a : Addr} {cl : String} {s : Shared} {E : Value → Shared → Prop} (hf : env.frame = some env.locals) (X : ExcSt g.c R H a cl (rawInt env.locals) s.heap)
    (q : ∀ h', ExcSt g.c R H a cl (rawInt env.locals) h' → E (.ref a) { s with heap := h' }) : cameBackBy M A env E (.ref a) s := X.nope.elim

theorem noted_came {md : Bool} {A : Around} {env : Env} {l₀ : List Env} {R : RR} {s₀ s : Shared} {E : String → VV → AHeap → Prop} {e : Value} {M : Model} (ev : Ev { g with md := md } A R env l₀) (h : TX g env sc nm R s₀ E e s) :
    notedBy M A env (fun e s' => cameBackBy M A env (TX g env sc nm R s₀ E) e s') e s := by
  obtain ⟨a, cl, R', V', H', fl, rfl, r, fr, hfl, X, m, q⟩ := h
  refine exc_note ev.aok.frames (r.stk ev.stk) X hfl fun h₁ X₁ => ?_
  refine came_back (g := g) (s := { s with heap := h₁ }) (ev.stk env (.head _)).frame X₁ fun h₂ X₂ => ?_
  exact ⟨a, cl, R', V', H', _, rfl, r, fr, .inr (.inr rfl), X₂, m.trans ⟨_, _, rfl⟩, q⟩

theorem s_while {c : X} {b : List S} {t : PySem.Expr} {x : List Stmt} {pos : Pos} (hc : XMd g sc nm c t) (hb : SOk g sc nm (fun g => wpSs g b) (execs x)) : SOk g sc nm (fun g => wpS g (.while c b)) (exec (.While t x [] pos)) :=
  fun md A env l₀ R V s₀ s H QN QR E ev fr S m q => by
  simp only [st_e0, st_e1, st_e2, st_e3, st_e4, st_e5, st_e6, WWhile] at q
  obtain ⟨_, I, ⟨n, hI⟩, hstep⟩ := q
  refine wpAny_While (codeAny_whileLoop (fun n s => ∃ R' V' H', RStep env R R' ∧ Frm R' env sc nm V' ∧ St g.c R' H' s.heap ∧ Sm s₀ s ∧ I n V' H') ?_ n ⟨R, V, H, .refl, fr, S, m, hI⟩)
  rintro n s₁ ⟨R', V', H', r, f', S', m', hi⟩
  have ev' := ev.step r
  refine wpAny_mono ((hc md A R' V' env env l₀ s₀ ev' f').2 H' s₁ (fun _ b₁ H'' => if b₁ then wpSs { g with md := md } b (fun V₂ H₂ => ∃ m, m < n ∧ I m V₂ H₂) QR E V' H'' else QN V' H'') (fun cl H => E cl V' H) S' m' (hstep n V' H' hi)) (fun u s₂ z => ?_) fun _ _ z => noted_came ev (TX.trans r (te_tx f' z))
  obtain ⟨v, H₂, S₂, m₂, q₂, _⟩ := z
  cases u with
  | true =>
    simp only [if_true] at q₂ ⊢
    refine wpAny_mono (hb md A env l₀ R' V' s₀ s₂ H₂ _ QR E ev' f' S₂ m₂ q₂) (fun fl s₃ z => ?_) fun _ _ z => noted_came ev (TX.trans r z)
    cases fl with
    | next =>
      obtain ⟨R₃, V₃, H₃, r₃, f₃, S₃, m₃, k, hk, q₃⟩ := z
      exact ⟨k, hk, R₃, V₃, H₃, r.trans r₃, f₃, S₃, m₃, q₃⟩
    | ret v => exact TF.trans r z
    | brk => exact z.elim
    | cont => exact z.elim
  | false =>
    simp only [Bool.false_eq_true, if_false] at q₂ ⊢
    exact wpAny_execs_nil ⟨R', V', H₂, r, f', S₂, m₂, q₂⟩

theorem s_for {i : Nat} {it : X} {b : List S} {tg iter : PySem.Expr} {x : List Stmt} {pos : Pos} (C : g.c.Ok mg mb) (nd : nm.Nodup) (hn : notSet iter = true) (ht : tgtOk sc nm i tg = true) (hi : XMd g sc nm it iter) (hb : SOk g sc nm (fun g => wpSs g b) (execs x)) :
    SOk g sc nm (fun g => wpS g (.for (.var i) it b)) (exec (.For tg iter x [] pos)) := fun md A env l₀ R V s₀ s H QN QR E ev fr S m q => by
  simp only [st_e0, st_e1, st_e2, st_e3, st_e4, st_e5, st_e6] at q
  obtain ⟨hmd, q⟩ := q
  subst hmd
  unfold tgtOk at ht
  split at ht
  · rename_i id p
    simp only [Bool.and_eq_true, beq_iff_eq] at ht
    refine wpAny_For (wpAny_mono ((hi true A R V env env l₀ s₀ ev fr).1 H s _ (fun cl H => E cl V H) S m q) (fun u s₁ z => ?_) fun _ _ z => te_tx fr z) (folded_set hn)
    obtain ⟨av, H₁, hv, S₁, m₁, xs, hxs, I, hI, hstep⟩ := z
    refine it_new C hv S₁ hxs fun s₂ a o ha hHa ho S₂ m₂ => ?_
    have hsv : ∀ y, av = .str y → PyData.strOk y = true := by rintro y rfl; cases hv; assumption
    have hna : ∀ b, (∃ m, R b = some (.ns m)) ∨ (∃ x, R b = some (.cell x)) → b ≠ a := by rintro b (⟨m, h⟩ | ⟨m, h⟩) rfl <;> (rw [ha] at h; cases h)
    have ft : Frm (rup R a (.obj o)) env sc nm V := fr.congr fun b hb => rup_other (hna b hb)
    refine codeAny_forLoop (fun n s => ∃ k R' V' H' o', n = xs.length - k ∧ k ≤ xs.length ∧ R' a = some (.obj o') ∧ ItObj H' av k o' ∧ RStep env R (rdrop R' a) ∧ Frm R' env sc nm V' ∧ St g.c R' H' s.heap ∧ Sm s₀ s ∧ I k V' H') ?_ xs.length
      ⟨0, rup R a (.obj o), V, H₁, o, by omega, Nat.zero_le _, rup_same, ho, fun b => .inl ?_, ft, S₂, m₁.trans m₂, hI⟩
    · rintro n s₃ ⟨k, R', V', H', o', hn', hk, hR', hit, hrs, f', S', m', hi'⟩
      obtain ⟨hsame, hend, hturn⟩ := hstep k V' H' hi'
      have hxs' : itemsOf H' av = some xs := by
        rw [← hxs]
        cases av with
        | ref a' => simp only [sameIt] at hsame; simp only [itemsOf]; rw [hsame]
        | _ => rfl
      have hdrop : ∀ R₂ : RR, RStep env R (rdrop R₂ a) → Stk R₂ (env :: l₀) := fun R₂ r e he => by
        have F := ev.stk e he
        obtain ⟨mm, hm⟩ := F.ns
        obtain ⟨m', hm'⟩ := r.ns hm
        exact ⟨F.kind, F.frame, F.gen, F.co, F.blt, F.glob, m', rdrop_le _ _ hm'⟩
      have evd : ∀ R₂ : RR, RStep env R (rdrop R₂ a) → Ev { g with md := true } A R₂ env l₀ := fun R₂ r => ⟨ev.aok, hdrop R₂ r⟩
      have frd : ∀ {R₂ : RR} {V₂ : VV} {o₂ : Obj}, R₂ a = some (.obj o₂) → Frm R₂ env sc nm V₂ → Frm (rdrop R₂ a) env sc nm V₂ := fun {R₂ V₂ o₂} h f => f.congr fun b hb => rdrop_other fun z => by
        rw [z, h] at hb; rcases hb with ⟨_, hb⟩ | ⟨_, hb⟩ <;> cases hb
      have fin : ∀ {e : Value} {s' : Shared} {R₂ : RR} {o₂ : Obj}, R₂ a = some (.obj o₂) → RStep env R (rdrop R₂ a) → TX g env sc nm R₂ s₀ E e s' → TX g env sc nm R s₀ E e s' := by
        rintro e s' R₂ o₂ h r ⟨b, cl, R₃, V₃, H₃, fl, e1, r₃, f₃, hfl, X, m, q⟩
        exact ⟨b, cl, rdrop R₃ a, V₃, H₃, fl, e1, r.trans r₃.drop, frd (r₃.obj h) f₃, hfl, X.weaken rdrop_le, m, q⟩
      rcases Nat.lt_or_ge k xs.length with hlt | hge
      · obtain ⟨xv, hx⟩ : ∃ xv, xs[k]? = some xv := ⟨xs[k], by simp [hlt]⟩
        refine it_item hxs' hx hit hR' S' hsv fun s₄ u₄ o₂ hvx ho₂ S₄ m₄ => ?_
        have r₄ : RStep env R (rdrop (rup R' a (.obj o₂)) a) := by
          have : rdrop (rup R' a (.obj o₂)) a = rdrop R' a := by
            funext b
            by_cases z : b = a
            · subst z; rw [rdrop_same, rdrop_same]
            · rw [rdrop_other z, rdrop_other z, rup_other z]
          rw [this]; exact hrs
        have f₄ : Frm (rup R' a (.obj o₂)) env sc nm V' := f'.congr fun b hb => rup_other fun z => by
          rw [z, hR'] at hb; rcases hb with ⟨_, hb⟩ | ⟨_, hb⟩ <;> cases hb
        have hst := hturn xv hx
        simp only [wtg] at hst
        refine wpAny_assign_Name (st_name f₄ nd ht.1 ht.2 hvx S₄ fun s₅ R₅ r₅ f₅ S₅ m₅ => ?_)
        have h₅ := r₅.obj (rup_same (R := R'))
        have rr := r₄.trans r₅.drop
        refine wpAny_mono (hb true A env l₀ R₅ _ s₀ s₅ H' _ QR E (evd R₅ rr) f₅ S₅ ((m'.trans m₄).trans m₅) hst.2) (fun fl s₆ z => ?_) fun _ _ z => noted_came ev (fin h₅ rr z)
        cases fl with
        | next =>
          obtain ⟨R₆, V₆, H₆, r₆, f₆, S₆, m₆, q₆⟩ := z
          refine ⟨xs.length - (k + 1), by omega, k + 1, R₆, V₆, H₆, o₂, rfl, by omega, r₆.obj h₅, ?_, rr.trans r₆.drop, f₆, S₆, m₆, q₆⟩
          have hs6 := (hstep (k + 1) V₆ H₆ q₆).1
          cases av with
          | ref a' =>
            simp only [sameIt] at hsame hs6
            exact ho₂.same (by simp only [sameIt]; rw [hs6, hsame])
          | str y => exact ho₂
          | _ => exact ho₂
        | ret v =>
          obtain ⟨R₆, av₆, H₆, r₆, hv₆, S₆, m₆, q₆⟩ := z
          exact ⟨rdrop R₆ a, av₆, H₆, rr.trans r₆.drop, hv₆, S₆.weaken rdrop_le, m₆, q₆⟩
        | brk => exact z.elim
        | cont => exact z.elim
      · obtain ⟨mm, hmm, _⟩ := f'.ns
        refine it_end (ev.aok.hand rfl) hxs' (by simp; omega) hit hR' hmm S' fun s₄ S₄ m₄ => ?_
        exact wpAny_execs_nil ⟨rdrop R' a, V', H', hrs, frd hR' f', S₄, m'.trans m₄, hend (by omega)⟩
    · by_cases z : b = a
      · subst z; rw [rdrop_same, ha]
      · rw [rdrop_other z, rup_other z]
  · cases ht
end
end Mine

namespace Mine

section
variable {g : Gx} {sc : Scope} {nm : List Str} {mg mb : Str → Option Value}

theorem DRs.store {es : List (Str × AV)} {kvs : List (Str × Value)} (h : DRs es kvs) {k : Str} {x : AV} {u : Value} (hk : PyData.strOk k = true) (hv : VR x u) : DRs (putS es k x) (stored kvs k u) := by
  have ha : (lookS es k).isSome = kvs.any (fun kv => kv.1 = k) := by
    induction h with
    | nil => rfl
    | cons h1 h2 _ ih =>
      unfold lookS at ih ⊢
      rw [List.find?_cons, List.any_cons]
      split
      · rename_i z; simp at z; simp [z]
      · rename_i z; simp at z; rw [ih]; simp [z]
  unfold putS stored
  rw [ha]
  split
  · clear ha
    rename_i z; clear z
    induction h with
    | nil => exact .nil
    | cons h1 h2 _ ih =>
      rename_i k' a v as vs _
      simp only [List.map_cons]
      by_cases z : k' = k
      · simp only [z, if_true]; exact .cons hk hv ih
      · simp only [z, if_false]; exact .cons h1 h2 ih
  · clear ha
    rename_i z; clear z
    induction h with
    | nil => exact .cons hk hv .nil
    | cons h1 h2 _ ih => exact .cons h1 h2 ih

theorem s_setitem {A : Around} {R : RR} {H : AHeap} {s s₀ : Shared} {E : Value → Shared → Prop} {p : Addr} {k : Str} {t : Tok} {ep : Nat} {es : List (Str × AV)} {x : AV} {u : Value} {Q : Unit → Shared → Prop} (hv : VR x u) (hk : PyData.strOk k = true) (e : H p = some (.dict ep es)) (hz : es.length ≤ sizeLine)
    (S : St g.c R H s.heap) (m : Sm s₀ s) (q : ∀ s' ep', St g.c R (up H p (.dict ep' (putS es k x))) s'.heap → Sm s₀ s' → Q () s') : wpAny (model g.c.prog g.c.w) A (setItem (.ref p) (.str k t) u) Q E s := by
  obtain ⟨kvs, hd, hr⟩ := isDict_of S e
  refine wpAny_setItem_pairs (strKind_is _ _ k t) hd.dictOf (fun h' hd' hs => ?_) (by rw [hr.length]; exact hz)
  obtain ⟨ep', hat⟩ := hd'.dictAt
  exact q _ ep' (S.setObj e (by intro _ _ z; cases z) hs fun D => ⟨_, hat, hr.store hk hv⟩) (m.step _ _)

theorem s_asgn_sub {a i : X} {e : X} {o ix v : PySem.Expr} {p pos : Pos} (hns : noSlice ix = true) (ha : XMd g sc nm a o) (hi : XMd g sc nm i ix) (hx : XMd g sc nm e v) : SOk g sc nm (fun g => wpS g (.assign (.sub a i) e)) (exec (.Assign [.Subscript o ix p] v pos)) :=
  fun md A env l₀ R V s₀ s H QN QR E ev fr S m q => by
  simp only [st_e0, st_e1, st_e2, st_e3, st_e4, st_e5, st_e6, wpT] at q
  refine wpAny_Assign_Subscript (wpAny_mono ((hx md A R V env env l₀ s₀ ev fr).1 H s _ _ S m q) (fun u s₁ z => ?_) fun _ _ z => te_tx fr z) swaps_sub
  obtain ⟨av, H₁, hv, S₁, m₁, q₁⟩ := z
  refine wpAny_mono ((ha md A R V env env l₀ s₀ ev fr).1 H₁ s₁ _ _ S₁ m₁ q₁) (fun ov s₂ z => ?_) fun _ _ z => te_tx fr z
  obtain ⟨ao, H₂, ho, S₂, m₂, q₂⟩ := z
  refine wpAny_mono ((hi md A R V env env l₀ s₀ ev fr).1 H₂ s₂ _ _ S₂ m₂ q₂) (fun iv s₃ z => ?_) fun _ _ z => te_tx fr z
  obtain ⟨ai, H₃, hiv, S₃, m₃, q₃⟩ := z
  split at q₃
  · cases ho
    cases hiv with
    | str k t hk =>
    split at q₃
    · rename_i ep es e
      exact s_setitem hv hk e q₃.1 S₃ m₃ fun s' ep' S' m' => ⟨R, V, _, .refl, fr, S', m', q₃.2 ep'⟩
    · exact q₃.elim
  · exact q₃.elim

/-! try -/
end
end Mine

namespace Mine

section
variable {g : Gx} {sc : Scope} {nm : List Str} {mg mb : Str → Option Value}

theorem isComp_of {e : X} (h : isComp e = true) : ∃ x k tup it c, e = .comp x k tup it c := by
  cases e <;> first | exact ⟨_, _, _, _, _, rfl⟩ | cases h

variable (C : g.c.Ok mg mb) (PO : PgOk g.c) (nd : nm.Nodup)
include C PO nd in
mutual
theorem sS : ∀ (st : S) (t : Stmt), mtS g.c.P sc nm st t = true → SOk g sc nm (fun g => wpS g st) (exec t)
  | .assign t e, st, h => by
    simp only [ms_e0, ms_e1, ms_e2, ms_e3, ms_e4, ms_fa, ms_fb, ms_e6] at h
    split at h
    · rename_i tg v pos
      simp only [Bool.and_eq_true] at h
      obtain ⟨⟨h1, h2⟩, h3⟩ := h
      have hx : XMd g sc nm e v := fun md => sX (g := { g with md := md }) C PO e v true sc nm h3
      cases t with
      | var i =>
        have ht : tgtOk sc nm i tg = true := by simpa only [mtT] using h2
        cases hc : notComp v with
        | true => exact s_asgn_var nd hc ht hx
        | false =>
          rw [hc, Bool.false_or, Bool.and_eq_true] at h1
          obtain ⟨x, k, tup, it, cc, rfl⟩ := isComp_of h1.2
          have h3' : mComp true tup k sc nm (mtX g.c.P true sc nm it) (fun csc nm' => mtX g.c.P false csc nm' x) (fun csc nm' => mtC g.c.P csc nm' cc) v = true := h3
          unfold mComp at h3'
          simp only [Bool.and_eq_true, Bool.not_eq_true', decide_eq_true_eq, Bool.true_and, true_and] at h3'
          obtain ⟨⟨rfl, rfl⟩, h3'⟩ := h3'
          split at h3'
          · simp only [Bool.and_eq_true, beq_iff_eq] at h3'
            obtain ⟨⟨⟨⟨⟨rfl, h5⟩, h6⟩, h7⟩, h8⟩, h9⟩ := h3'
            exact s_asgn_comp C nd ht h7 h5 (fun md => sX (g := { g with md := md }) C PO it _ true sc nm h6) (fun md => sX (g := { g with md := md }) C PO x _ false _ _ h8) (fun md => sC (g := { g with md := md }) C PO cc _ _ _ h9) hx
          · cases h3'
      | sub a i =>
        simp only [mtT] at h2
        split at h2
        · simp only [Bool.and_eq_true] at h2
          exact s_asgn_sub h2.1.1 (fun md => sX (g := { g with md := md }) C PO a _ true sc nm h2.1.2) (fun md => sX (g := { g with md := md }) C PO i _ true sc nm h2.2) hx
        · cases h2
      | tup is => simp [mtT] at h2
    · cases h
  | .expr e, st, h => by
    simp only [ms_e0, ms_e1, ms_e2, ms_e3, ms_e4, ms_fa, ms_fb, ms_e6] at h
    split at h
    · simp only [Bool.and_eq_true] at h
      exact s_expr h.1 fun md => sX (g := { g with md := md }) C PO e _ true sc nm h.2
    · cases h
  | .ret e, st, h => by
    simp only [ms_e0, ms_e1, ms_e2, ms_e3, ms_e4, ms_fa, ms_fb, ms_e6] at h
    split at h
    · exact s_ret fun md => sX (g := { g with md := md }) C PO e _ true sc nm h
    · cases h
  | .ite c a b, st, h => by
    simp only [ms_e0, ms_e1, ms_e2, ms_e3, ms_e4, ms_fa, ms_fb, ms_e6] at h
    split at h
    · simp only [Bool.and_eq_true] at h
      exact s_if (fun md => sX (g := { g with md := md }) C PO c _ true sc nm h.1.1) (sSs a _ h.1.2) (sSs b _ h.2)
    · cases h
  | .while c b, st, h => by
    simp only [ms_e0, ms_e1, ms_e2, ms_e3, ms_e4, ms_fa, ms_fb, ms_e6] at h
    split at h
    · simp only [Bool.and_eq_true] at h
      exact s_while (fun md => sX (g := { g with md := md }) C PO c _ true sc nm h.1) (sSs b _ h.2)
    · cases h
  | .for t it b, st, h => by
    cases t with
    | var i =>
      simp only [ms_e0, ms_e1, ms_e2, ms_e3, ms_e4, ms_fa, ms_fb, ms_e6] at h
      split at h
      · simp only [Bool.and_eq_true] at h
        exact s_for C nd h.1.1.1 h.1.1.2 (fun md => sX (g := { g with md := md }) C PO it _ true sc nm h.1.2) (sSs b _ h.2)
      · cases h
    | tup is => simp [ms_e0, ms_e1, ms_e2, ms_e3, ms_e4, ms_fa, ms_fb, ms_e6] at h
  | .pass, st, h => by
    simp only [ms_e0, ms_e1, ms_e2, ms_e3, ms_e4, ms_fa, ms_fb, ms_e6] at h
    split at h
    · exact s_pass
    · cases h
theorem sSs : ∀ (l : List S) (ts : List Stmt), mtSs g.c.P sc nm l ts = true → SOk g sc nm (fun g => wpSs g l) (execs ts)
  | [], ts, h => by
    simp only [mss_e0, mss_e1, List.isEmpty_iff] at h
    subst h; exact ss_nil
  | st :: r, ts, h => by
    simp only [mss_e0, mss_e1] at h
    split at h
    · simp only [Bool.and_eq_true] at h
      exact ss_cons (sS st _ h.1) (sSs r _ h.2)
    · cases h
end
end
end Mine

namespace Mine

/-! ## arguments -/
theorem zip_lookup {ns : List Str} : ∀ {vs : List Value}, ns.length = vs.length → ∀ n ∈ ns, ((ns.zip vs).lookup n).isSome = true := by
  induction ns with
  | nil => intro vs _ n hn; cases hn
  | cons a r ih =>
    intro vs hl n hn
    cases vs with
    | nil => simp at hl
    | cons v vs =>
      simp only [List.zip_cons_cons, List.lookup_cons]
      cases hb : n == a with
      | true => rfl
      | false =>
        have hne : n ≠ a := by simpa using hb
        rcases List.mem_cons.mp hn with h | h
        · exact absurd h hne
        · exact ih (by simpa using hl) n h
theorem fm_congr {α β : Type} {f g : α → Option β} : ∀ {l : List α}, (∀ x ∈ l, f x = g x) → l.filterMap f = l.filterMap g
  | [], _ => rfl
  | a :: r, h => by rw [List.filterMap_cons, List.filterMap_cons, h a (.head _), fm_congr fun x hx => h x (.tail _ hx)]
theorem zip_filterMap {ns : List Str} : ∀ {vs : List Value}, ns.Nodup → ns.length = vs.length → (ns.filterMap fun n => ((ns.zip vs).lookup n).map fun v => (n, v)) = ns.zip vs := by
  induction ns with
  | nil => intro vs _ _; rfl
  | cons a r ih =>
    intro vs hn hl
    cases vs with
    | nil => simp at hl
    | cons v vs =>
      obtain ⟨h1, h2⟩ := List.nodup_cons.mp hn
      simp only [List.zip_cons_cons, List.filterMap_cons, List.lookup_cons, beq_self_eq_true, Option.map_some]
      congr 1
      refine Eq.trans ?_ (ih h2 (by simpa using hl))
      apply fm_congr
      intro n hn'
      have hne : (n == a) = false := by
        apply beq_eq_false_iff_ne.mpr
        rintro rfl; exact h1 hn'
      simp only [hne]

theorem bind_plain {s : Shared} {fd : FuncData} {vals : List Value} (h1 : fd.params.posonlyargs = []) (h2 : fd.params.vararg = none) (h3 : fd.params.kwonlyargs = []) (h4 : fd.params.kwarg = none) (h5 : fd.defaults = .none)
    (h6 : (fd.params.args.map (·.arg)).Nodup) (h7 : fd.params.args.length = vals.length) : BindsTo s fd ⟨vals, []⟩ ((fd.params.args.map (·.arg)).zip vals) := by
  have hl : (fd.params.args.map (·.arg)).length = vals.length := by simpa using h7
  have e1 : (((fd.params.args.map (·.arg)).take (fd.params.args.map (·.arg)).length).filter fun n => (((fd.params.args.map (·.arg)).zip vals).lookup n).isNone) = [] := by
    rw [List.take_length, List.filter_eq_nil_iff]
    intro n hn
    have := zip_lookup hl n hn
    simpa using this
  intro M A E Q q
  unfold bindArgs
  simp only [h1, h2, h3, h4, h5, List.map_nil, List.nil_append, List.append_nil]
  refine wpAny_bind ?_
  rw [List.forIn_nil]
  refine wpAny_pure (wpAny_bind (wpAny_pure (a := (none : Option (Array Value))) ?_))
  simp only [Option.getD_none, List.drop_nil, List.length_nil, Nat.sub_zero, List.drop_length]
  rw [if_neg (by simp [h7]), if_neg (by rw [e1]; simp)]
  refine wpAny_bind ?_
  rw [List.zip_nil_left, List.forIn_nil]
  refine wpAny_pure (wpAny_bind ?_)
  rw [List.forIn_nil]
  refine wpAny_pure ?_
  rw [if_neg (by simp)]
  refine wpAny_pure ?_
  rw [zip_filterMap h6 hl]
  exact q

theorem St.news {c : Cx} {R R' : RR} {H : AHeap} {h h' : Heap} (S : St c R H h) (k : ∀ b ob, h.get? b = some ob → h'.get? b = some ob) (hs : h.objs.size ≤ h'.objs.size)
    (hR : ∀ b, R' b = R b ∨ (h.objs.size ≤ b ∧ ∃ r, R' b = some r ∧ ResAt h' b r)) : St c R' H h' := by
  have S' := S.keeps k hs
  obtain ⟨D0, s40⟩ := S.rep
  have hb := S.size
  refine ⟨S'.stays, S'.size, fun b r e => ?_, D0, ⟨fun a ao e => (s40.rep a ao e).agree (fun _ => k _ _) fun _ _ _ => ⟨rfl, fun _ => k _ _⟩, fun a ao e => ?_, fun a cl es e => ?_, s40.inj⟩⟩
  · rcases hR b with q | ⟨q1, r', q2, q3⟩
    · rw [q] at e; exact S'.res b r e
    · rw [q2] at e; cases e; exact ⟨by have := leN q1; omega, q3⟩
  · refine ⟨(s40.above a ao e).1, ?_⟩
    rcases hR a with q | ⟨q1, _⟩
    · rw [q]; exact (s40.above a ao e).2
    · obtain ⟨ob, w⟩ := (s40.rep a ao e).there
      have := lts w; have := leN q1; omega
  · obtain ⟨y1, y2, y3⟩ := s40.dict a cl es e
    refine ⟨y1, ?_, y3⟩
    rcases hR (D0 a) with q | ⟨q1, _⟩
    · rw [q]; exact y2
    · obtain ⟨_, ents, n, w, _⟩ := s40.rep a _ e
      have := lts w; have := leN q1; omega

theorem bindL_out {kf : Str → Option NameKind} : ∀ {bs : List (Str × Value)} {m : Str → Option Value} {n : Str}, n ∉ bs.map (·.1) → bindL kf bs m n = m n
  | [], _, _, _ => rfl
  | (a, v) :: r, m, n, h => by
    simp only [List.map_cons, List.mem_cons, not_or] at h
    unfold bindL
    rw [bindL_out h.2]
    split
    · simp [h.1]
    · rfl
theorem bindC_out {kf : Str → Option NameKind} : ∀ {bs : List (Str × Value)} {m : Str → Option Value} {n : Str}, n ∉ bs.map (·.1) → bindC kf bs m n = m n
  | [], _, _, _ => rfl
  | (a, v) :: r, m, n, h => by
    simp only [List.map_cons, List.mem_cons, not_or] at h
    unfold bindC
    rw [bindC_out h.2]
    split
    · rfl
    · simp [h.1]
theorem bindL_get {kf : Str → Option NameKind} : ∀ {bs : List (Str × Value)} {m : Str → Option Value} {n : Str} {v : Value} {i : Nat}, (bs.map (·.1)).Nodup → bs[i]? = some (n, v) → kf n = some .local → bindL kf bs m n = some v
  | (a, w) :: r, m, n, v, 0, hn, e, hk => by
    simp only [List.getElem?_cons_zero, Option.some.injEq, Prod.mk.injEq] at e
    obtain ⟨rfl, rfl⟩ := e
    simp only [List.map_cons, List.nodup_cons] at hn
    unfold bindL
    rw [bindL_out hn.1, if_pos hk]; simp
  | (a, w) :: r, m, n, v, i + 1, hn, e, hk => by
    simp only [List.getElem?_cons_succ] at e
    simp only [List.map_cons, List.nodup_cons] at hn
    unfold bindL
    exact bindL_get hn.2 e hk
theorem bindC_get {kf : Str → Option NameKind} : ∀ {bs : List (Str × Value)} {m : Str → Option Value} {n : Str} {v : Value} {i : Nat}, (bs.map (·.1)).Nodup → bs[i]? = some (n, v) → kf n = some .cell → bindC kf bs m n = some v
  | (a, w) :: r, m, n, v, 0, hn, e, hk => by
    simp only [List.getElem?_cons_zero, Option.some.injEq, Prod.mk.injEq] at e
    obtain ⟨rfl, rfl⟩ := e
    simp only [List.map_cons, List.nodup_cons] at hn
    unfold bindC
    rw [bindC_out hn.1, if_neg (by rw [hk]; simp)]; simp
  | (a, w) :: r, m, n, v, i + 1, hn, e, hk => by
    simp only [List.getElem?_cons_succ] at e
    simp only [List.map_cons, List.nodup_cons] at hn
    unfold bindC
    exact bindC_get hn.2 e hk

noncomputable def fnOk (K : Frag) (P : Pg) (a : Addr) (F : Fn) : Bool := match K.lookup a with
  | some o => (match o.data with
    | .func fd => (match fd.body with
      | .stmts body => fd.globals == mainGlobals && fd.builtins == builtinsNs && fd.closure.isEmpty && fd.defaults == .none && fd.params.posonlyargs.isEmpty && fd.params.vararg.isNone && fd.params.kwonlyargs.isEmpty && fd.params.kwarg.isNone &&
          !fd.scope.isCoroutine && !fd.scope.isGenerator && fd.scope.kind == .function && codeIn K fd.code fd.qualname && (fd.params.args.map (·.arg)) == (F.slots.map Str.ofString).take F.npar && decide (F.npar ≤ F.slots.length) && decide ((F.slots.map Str.ofString).Nodup) &&
          (F.slots.map Str.ofString).all (fun n => match fd.scope.names.lookup n with | some .local => true | some .cell => ((cellsFrom 0 fd.scope.names []).lookup n).isSome | _ => false) && decide ((cellsFrom 0 fd.scope.names []).map (·.1)).Nodup &&
          mtSs P fd.scope (F.slots.map Str.ofString) F.body body
      | _ => false)
    | _ => false)
  | none => false

theorem lookup_isSome {l : List (Str × Addr)} {n : Str} : (l.lookup n).isSome = (l.map (·.1)).contains n := by
  induction l with
  | nil => rfl
  | cons a r ih =>
    obtain ⟨k, v⟩ := a
    simp only [List.lookup_cons, List.map_cons, List.contains_cons]
    cases hb : n == k with
    | true => simp
    | false => simp [ih]

noncomputable def initV (F : Fn) (args : List AV) : VV := args.map some ++ List.replicate (F.slots.length - F.npar) none

theorem call_intro {c : Cx} {mg mb : Str → Option Value} (C : c.Ok mg mb) (PO : PgOk c) {n : Nat} {md : Bool} {f : String} {F : Fn} (hok : fnOk c.K c.P (c.fa f) F = true) {args : List AV} {Q : AV → AHeap → Prop} {E : String → AHeap → Prop} {H : AHeap} (hlen : args.length = F.npar)
    (q : wpSs ⟨c, n, md⟩ F.body (fun _ H => Q .none H) Q (fun cl _ H => E cl H) (initV F args) H) : CallOK c (n + 1) md f args Q E H := by
  intro A stk R s vals Rs aok stkok S hv kQ kE
  unfold fnOk at hok
  split at hok
  · rename_i o ho
    split at hok
    · rename_i fd hd
      split at hok
      · rename_i body hb
        simp only [Bool.and_eq_true, beq_iff_eq, List.isEmpty_iff, Option.isNone_iff_eq_none, Bool.not_eq_true', decide_eq_true_eq] at hok
        obtain ⟨⟨⟨⟨⟨⟨⟨⟨⟨⟨⟨⟨⟨⟨⟨⟨⟨c1, c2⟩, c3⟩, c4⟩, c5⟩, c6⟩, c7⟩, c8⟩, c9⟩, c10⟩, c11⟩, c12⟩, c13⟩, c14⟩, c15⟩, c16⟩, c17⟩, c18⟩ := hok
        have X := C.kin.keeps S.stays
        have hvl := hv.length
        have hpl : fd.params.args.length = F.npar := by
          have := congrArg List.length c13
          simp only [List.length_map, List.length_take] at this
          omega
        have hpn : (fd.params.args.map (·.arg)).Nodup := by rw [c13]; exact c15.sublist (List.take_sublist _ _)
        have hzl : (fd.params.args.map (·.arg)).length = vals.length := by simp; omega
        have hmem : ∀ x ∈ (fd.params.args.map (·.arg)).zip vals, x.1 ∈ F.slots.map Str.ofString := by
          rintro ⟨a, b⟩ hx
          have := (List.of_mem_zip hx).1
          rw [c13] at this
          exact List.mem_of_mem_take this
        have hkinds : ∀ n ∈ F.slots.map Str.ofString, fd.scope.names.lookup n = some .local ∨ (fd.scope.names.lookup n = some .cell ∧ ((cellsFrom 0 fd.scope.names []).lookup n).isSome = true) := by
          intro n hn
          have := List.all_eq_true.mp c16 n hn
          split at this
          · exact .inl (by assumption)
          · exact .inr ⟨by assumption, this⟩
          · cases this
        have hcs : ∀ (k : Nat) n, ((cellsFrom k fd.scope.names []).lookup n).isSome = ((cellsFrom 0 fd.scope.names []).lookup n).isSome := by
          intro k n
          rw [lookup_isSome, lookup_isSome, cellsFrom_names fd.scope.names 0 k [] [] rfl]
        have hnodup : ∀ k : Nat, ((cellsFrom k fd.scope.names []).map (·.1)).Nodup := fun k => by rw [← cellsFrom_names fd.scope.names 0 k [] [] rfl]; exact c17
        refine codeAny_call_function (by have := aok.depth; omega) (X _ _ ho) hd c9 c10 hb (codeRec_of X c12) (bind_plain c5 c6 c7 c8 c4 hpn (by omega) _ _ _ _ ?_)
        rw [c3]
        refine wpAny_newFunctionEnv_cells c11 (fun x hx => ?_) fun env he s₁ x => ?_
        · rcases hkinds x.1 (hmem x hx) with h | ⟨h1, h2⟩
          · exact .inl h
          · exact .inr ⟨h1, by rw [hcs]; exact h2⟩
        subst he
        refine ⟨(C.nolimit.keeps S.stays).keeps x.toInCall.keep, codeAny_func ?_⟩
        generalize henv : newEnv fd.scope s.heap.objs.size fd.globals (cellsFrom (s.heap.objs.size + 1) fd.scope.names []) (fd.qualname ++ ".<locals>.") (some (c.fa f)) fd.code none fd.builtins = env at x ⊢
        have el : env.locals = s.heap.objs.size := by rw [← henv]; rfl
        have es : env.scope = fd.scope := by rw [← henv]; rfl
        have ec : env.cells = cellsFrom (s.heap.objs.size + 1) fd.scope.names [] := by rw [← henv]; rfl
        have eg : env.globals = mainGlobals := by rw [← henv]; exact c1
        have eb : env.builtins = builtinsNs := by rw [← henv]; exact c2
        have ef : env.frame = some env.locals := by rw [← henv]; rfl
        have ek : ∀ n, env.kindOf n = fd.scope.names.lookup n := fun n => by unfold Env.kindOf; rw [es]
        generalize hm : bindL env.kindOf ((fd.params.args.map (·.arg)).zip vals) (fun _ => none) = m at x
        generalize hcm : bindC env.kindOf ((fd.params.args.map (·.arg)).zip vals) (fun _ => none) = cm at x
        have hkeep := x.toInCall.keep
        have hLlt : @LT.lt Nat _ env.locals s₁.heap.objs.size := by obtain ⟨oL, _, _, w, _⟩ := x.toInCall.ns; exact lts w
        have hsz : s.heap.objs.size ≤ s₁.heap.objs.size := by rw [el] at hLlt; exact Nat.le_of_lt hLlt
        have habove : ∀ p ∈ env.cells, @LT.lt Nat _ s.heap.objs.size p.2 := fun p hp => by
          have := x.above p.1 p.2 hp
          rw [el] at this; exact this
        let R' : RR := fun b => if b = env.locals then some (.ns m) else match env.cells.find? (fun p => p.2 == b) with
          | some p => some (.cell (cm p.1))
          | none => R b
        have hL : R' env.locals = some (.ns m) := by show (if _ then _ else _) = _; rw [if_pos rfl]
        have hcell : ∀ n a, env.cells.lookup n = some a → R' a = some (.cell (cm n)) := fun n a h => by
          have hmem := mem_of_lookup h
          have hlt := habove _ hmem
          show (if _ then _ else _) = _
          rw [if_neg (fun z => by rw [z, el] at hlt; exact Nat.lt_irrefl _ hlt)]
          cases hf : env.cells.find? (fun p => p.2 == a) with
          | none =>
            have := List.find?_eq_none.mp hf _ hmem
            simp at this
          | some p =>
            have h1 := List.mem_of_find?_eq_some hf
            have h2 : p.2 = a := by have := List.find?_some hf; simpa using this
            have h3 : p.1 = n := name_of_addr x.apart (c := a) (by rw [← h2]; exact h1) hmem
            simp only [h3]
        have hlk : ∀ p ∈ env.cells, env.cells.lookup p.1 = some p.2 := fun p hp => by
          have hn' : (env.cells.map (·.1)).Nodup := by rw [ec]; exact hnodup _
          exact lookup_of_mem_nodup hn' hp
        have hR : ∀ b, R' b = R b ∨ (s.heap.objs.size ≤ b ∧ ∃ r, R' b = some r ∧ ResAt s₁.heap b r) := fun b => by
          by_cases z : b = env.locals
          · subst z; exact .inr ⟨by rw [el]; exact Nat.le_refl _, _, hL, x.toInCall.ns⟩
          · cases hf : env.cells.find? (fun p => p.2 == b) with
            | none => left; show (if _ then _ else _) = _; rw [if_neg z, hf]
            | some p =>
              have h1 := List.mem_of_find?_eq_some hf
              have h2 : p.2 = b := by have := List.find?_some hf; simpa using this
              subst h2
              have hl := hlk p h1
              exact .inr ⟨Nat.le_of_lt (habove p h1), _, hcell _ _ hl, x.cell _ _ hl⟩
        have hold : ∀ b r, R b = some r → R' b = some r := fun b r e => by
          rcases hR b with h | ⟨h, _⟩
          · rw [h]; exact e
          · obtain ⟨ob, w⟩ := (S.res b r e).2.there
            have := lts w; have := leN h; omega
        have S₁ : St c R' H s₁.heap := S.news hkeep hsz hR
        have hlen2 : (initV F args).length = F.slots.length := by unfold initV; simp; omega
        have hget : ∀ (i : Nat) n, (F.slots.map Str.ofString)[i]? = some n → ∃ v, (initV F args)[i]? = some v ∧ ∀ (y : Option Value), (∀ w, ((fd.params.args.map (·.arg)).zip vals)[i]? = some (n, w) → y = some w) → OVW v y := fun i n hn => by
          have hi : i < F.slots.length := by have := (List.getElem?_eq_some_iff.mp hn).1; simpa using this
          by_cases z : i < F.npar
          · obtain ⟨av, hav⟩ : ∃ av, args[i]? = some av := ⟨args[i], by simp [hlen, z]⟩
            obtain ⟨w, hw, hvr⟩ := hv.get hav
            refine ⟨some av, by unfold initV; rw [List.getElem?_append_left (by simp; omega)]; simp [hav], fun y hy => ?_⟩
            have hp : (fd.params.args.map (·.arg))[i]? = some n := by rw [c13, List.getElem?_take_of_lt z]; exact hn
            rw [hy w (by rw [List.getElem?_zip_eq_some]; exact ⟨hp, hw⟩)]
            exact .some hvr
          · refine ⟨none, ?_, fun y _ => .none⟩
            unfold initV
            rw [List.getElem?_append_right (by simp; omega), List.getElem?_replicate]
            rw [if_pos (by simp; omega)]
        have hzn : (((fd.params.args.map (·.arg)).zip vals).map (·.1)).Nodup := by rw [List.map_fst_zip (by omega)]; exact hpn
        have fr : Frm R' env fd.scope (F.slots.map Str.ofString) (initV F args) := by
          refine ⟨by rw [es]; exact c11, eg, eb, fun id h => ?_, fun id h => ?_, fun id h => ?_, fun id h => by rw [ek]; exact h, fun id h => by rw [ek]; exact h, by rw [hlen2, List.length_map], fun n n' a h h' => name_of_addr x.apart (mem_of_lookup h) (mem_of_lookup h'), ⟨m, hL, fun i n hn hk => ?_⟩, fun i n hn hk => ?_⟩
          · rw [ek]; simpa [isGlob] using h
          · rw [ek]; unfold kindOk at h; split at h <;> simp_all
          · rw [ek]; unfold locKind at h; split at h <;> simp_all
          · obtain ⟨v, h1, h2⟩ := hget i n hn
            exact ⟨v, h1, h2 _ fun w hw => by rw [← hm]; exact bindL_get hzn hw hk⟩
          · obtain ⟨v, h1, h2⟩ := hget i n hn
            rcases hkinds n (List.mem_of_getElem? hn) with z | ⟨z1, z2⟩
            · rw [ek, z] at hk; rcases hk with hk | hk <;> cases hk
            · obtain ⟨a, ha⟩ := Option.isSome_iff_exists.mp (show (env.cells.lookup n).isSome = true by rw [ec, hcs]; exact z2)
              exact ⟨a, _, v, ha, hcell n a ha, h1, h2 _ fun w hw => by rw [← hcm]; exact bindC_get hzn hw (by rw [ek]; exact z1)⟩
        have ev : Ev ⟨c, n, md⟩ (A.deeper env) R' env stk := by
          refine ⟨⟨?_, ?_, ?_, aok.hand⟩, fun e he => ?_⟩
          · show A.frames.map (env :: ·) = _; rw [aok.frames]; rfl
          · have := aok.depth; show A.depth + 1 + 110 + 4 + 8 * n < _; omega
          · have := aok.units; show A.units + 3 + 100 + 10 * 4 + 60 * n < _; omega
          · rcases List.mem_cons.mp he with rfl | he
            · exact ⟨by rw [es]; exact c11, ef, by rw [es]; exact c10, by rw [es]; exact c9, eb, eg, m, hL⟩
            · have G := stkok e he
              obtain ⟨mm, hmm⟩ := G.ns
              exact ⟨G.kind, G.frame, G.gen, G.co, G.blt, G.glob, mm, hold _ _ hmm⟩
        have sm : Sm s s₁ := x.toInCall.same
        have back : ∀ {R₂ : RR}, RStep env R' R₂ → ∀ b r, R b = some r → R₂ b = some r := fun {R₂} r b y e => by
          have hlt : @LT.lt Nat _ b s.heap.objs.size := by obtain ⟨ob, w⟩ := (S.res b y e).2.there; exact lts w
          rcases r b with h | ⟨h, _⟩ | ⟨⟨nn, h⟩, _⟩
          · rw [h]; exact hold b y e
          · rw [h, el] at hlt; exact absurd hlt (Nat.lt_irrefl _)
          · have := habove _ (mem_of_lookup h); exact absurd (Nat.lt_trans hlt this) (Nat.lt_irrefl _)
        refine wpAny_mono (sSs (g := ⟨c, n, md⟩) C PO c15 F.body body c18 md (A.deeper env) env stk R' (initV F args) s s₁ H _ Q _ ev fr S₁ sm q) (fun fl s₂ z => ?_) fun e s₂ z => ?_
        · cases fl with
          | next =>
            obtain ⟨R₂, V₂, H₂, r₂, _, S₂, m₂, q₂⟩ := z
            exact kQ .none .none s₂ H₂ .none (S₂.weaken (back r₂)) m₂ q₂
          | ret v =>
            obtain ⟨R₂, av, H₂, r₂, hv₂, S₂, m₂, q₂⟩ := z
            exact kQ av v s₂ H₂ hv₂ (S₂.weaken (back r₂)) m₂ q₂
          | brk => exact z.elim
          | cont => exact z.elim
        · obtain ⟨a, cl, R₂, V₂, H₂, fl, rfl, r₂, f₂, hfl, X₂, m₂, q₂⟩ := z
          refine exc_leave ev.aok.frames (r₂.stk ev.stk) X₂ hfl fun h' X₃ => ?_
          exact kE a cl _ H₂ (X₃.weaken (back r₂)) (m₂.heap h') q₂
      · cases hok
    · cases hok
  · cases hok
end Mine

namespace Mine

/-! ## the checks that one row wants -/
noncomputable def addrOf (v : Option (Option Value)) : Addr := match v with
  | some (some (.ref a)) => a
  | _ => 0
noncomputable def caOf (K : Frag) (cl : String) : Addr := addrOf (nsIn K mainGlobals (Str.ofString cl))
noncomputable def faOf (K : Frag) (P : Pg) (f : String) : Addr := match P.meths.find? (fun p => p.1 ++ "." ++ p.2 == f) with
  | some (cl, m) => addrOf (findIn K (.ref (caOf K cl)) (Str.ofString m))
  | none => addrOf (nsIn K mainGlobals (Str.ofString f))
noncomputable def okFn (K : Frag) (P : Pg) : Bool := P.gfns.all fun f => nsIn K mainGlobals (Str.ofString f) == some (some (.ref (faOf K P f))) && keepIn K (.ref (faOf K P f))
noncomputable def okPrim (K : Frag) (P : Pg) : Bool := P.prims.all fun f => nsIn K mainGlobals (Str.ofString f) == some none && !(Str.ofString f == Str.ofString "__name__") && bootBuiltins (Str.ofString f) == some (primVal f)
noncomputable def okFns (K : Frag) (P : Pg) : Bool := P.fns.all fun p => fnOk K P (faOf K P p.1) p.2
noncomputable def okAll (K : Frag) (P : Pg) : Bool := okFn K P && okPrim K P && okFns K P

theorem lookup_mem {α : Type} : ∀ {l : List (String × α)} {n : String} {c : α}, l.lookup n = some c → (n, c) ∈ l
  | (k, v) :: r, n, c, h => by
    rw [List.lookup_cons] at h
    cases hb : n == k with
    | true => rw [hb] at h; cases h; rw [beq_iff_eq.mp hb]; exact List.mem_cons_self
    | false => rw [hb] at h; exact List.mem_cons_of_mem _ (lookup_mem h)

noncomputable def cxOf (prog : Program) (w : World) (K : Frag) (base : Heap) (P : Pg) : Cx := ⟨prog, w, K, base, P, faOf K P, caOf K⟩

theorem pgOk_of {prog : Program} {w : World} {K : Frag} {base : Heap} {P : Pg} (h : okAll K P = true) : PgOk (cxOf prog w K base P) ∧ ∀ f F, P.fns.lookup f = some F → fnOk K P (faOf K P f) F = true := by
  unfold okAll at h
  simp only [Bool.and_eq_true] at h
  obtain ⟨⟨h1, h5⟩, h8⟩ := h
  refine ⟨⟨fun f hf => ?_, fun f hf => ?_⟩, fun f F hf => ?_⟩
  · have := List.all_eq_true.mp h1 f (by simpa [cxOf] using hf)
    simp only [Bool.and_eq_true, beq_iff_eq] at this
    exact this
  · have := List.all_eq_true.mp h5 f (by simpa [cxOf] using hf)
    simp only [Bool.and_eq_true, beq_iff_eq, Bool.not_eq_true'] at this
    exact ⟨this.1.1, this.1.2, this.2⟩
  · exact List.all_eq_true.mp h8 (f, F) (lookup_mem hf)

/-! ## the law's call -/
noncomputable def scriptH (p : Addr) (ns : List Int) : AHeap := fun a => if a = p then some (.script ns) else none

theorem ints_vr {vs : List Value} {ns : List Int} (h : IntsAre vs ns) : VRs (ns.map AV.int) vs := by
  induction h with
  | nil => exact .nil
  | cons n t _ ih => exact .cons (.int n t) ih

theorem enter {prog : Program} {w : World} {K : Frag} {P : Pg} {mg mb : Str → Option Value} {p : Program} {loose : List Str} {mean : ExcName → Option Value} {s₁ : Shared} {fa sp : Addr} {vs : List Value} {ns : List Int} {n : Nat} {E : Value → Shared → Prop} {Q : Value → Shared → Prop} {nl : Str}
    (hn : n ≤ 50) (KX : K.In s₁.heap) (T : Top p loose mean mg mb s₁.heap) (hseer : s₁.heap.NoSeer) (htree : prog.given.tree = none) (hnl : nl = Str.ofString "law") (hmg : mg nl = some (.ref fa)) (hok : okAll K P = true) (hlaw : P.gfns.contains "law" = true)
    (hget : s₁.heap.get? sp = some { cls := .type "list", data := .seq vs.toArray }) (hI : IntsAre vs ns)
    (hcall : ∀ c : Cx, c.P = P → c.Ok mg mb → PgOk c → (∀ f F, P.fns.lookup f = some F → fnOk c.K P (c.fa f) F = true) → CallOK c n true "law" [.ref sp] (fun v _ => v = .bool true) (fun _ _ => False) (scriptH sp ns))
    (hq : ∀ s', s₁.heap.StaysIn s'.heap → s'.os = s₁.os → s'.gens = s₁.gens → Q (.bool true) s') : wpAny (model prog w) callerA (call (.ref fa) [.ref sp]) Q E s₁ := by
  obtain ⟨PO, FO⟩ := pgOk_of (prog := prog) (w := w) (base := s₁.heap) hok
  have C : (cxOf prog w K s₁.heap P).Ok mg mb := ⟨KX, T.g, T.b, T.nolimit, T.builtins, hseer, htree, p, loose, topRead_of T⟩
  have hfa : fa = (cxOf prog w K s₁.heap P).fa "law" := by
    have h1 := (PO.fn "law" hlaw).1
    have h2 := mg_of KX T.g h1
    rw [← hnl, hmg] at h2
    exact Value.ref.inj (Option.some.inj h2)
  have S : St (cxOf prog w K s₁.heap P) (fun _ => none) (scriptH sp ns) s₁.heap := by
    have hs : ∀ a o, scriptH sp ns a = some o → a = sp ∧ o = .script ns := fun a o e => by
      unfold scriptH at e
      split at e
      · rename_i z; cases e; exact ⟨z, rfl⟩
      · cases e
    refine ⟨fun _ _ e => e, Nat.le_refl _, fun _ _ e => (by cases e), fun _ => 0, ⟨fun a o e => ?_, fun a o e => ?_, fun a cl es e => ?_, fun a b cl es cl' es' e => ?_⟩⟩
    · obtain ⟨rfl, rfl⟩ := hs a o e
      exact ⟨vs, 0, hget, ints_vr hI⟩
    · obtain ⟨rfl, rfl⟩ := hs a o e
      exact ⟨⟨fun w => (by cases w), fun w => (by cases w)⟩, rfl⟩
    · cases (hs a _ e).2
    · cases (hs a _ e).2
  rw [hfa]
  refine wpAny_call (hcall _ rfl C PO FO callerA [] (fun _ => none) s₁ [.ref sp] _ ⟨rfl, ?_, ?_, fun _ => rfl⟩ (fun e he => by cases he) S (.cons (.ref sp) .nil) ?_ ?_)
  · show 1 + 300 + 110 + 0 + 8 * n < 1000; omega
  · show 4 + 100 + 10 * 0 + 60 * n < 9900; omega
  · rintro av v s' H' hv S' m rfl
    cases hv
    obtain ⟨h, tk, rfl⟩ := m
    exact hq _ S'.stays rfl rfl
  · rintro e cl s' H' _ _ h; exact h.elim
end Mine

namespace Mine

/-- a row's ground: its tables are checked -/
structure Gd (c : Cx) (P : Pg) : Prop where
  hP : c.P = P
  ok : ∃ mg mb, c.Ok mg mb
  pg : PgOk c
  fn : ∀ f F, P.fns.lookup f = some F → fnOk c.K P (c.fa f) F = true

theorem Gd.call {c : Cx} {P : Pg} (G : Gd c P) {n : Nat} {md : Bool} {f : String} {F : Fn} (hf : P.fns.lookup f = some F) {args : List AV} {Q : AV → AHeap → Prop} {E : String → AHeap → Prop} {H : AHeap} (hlen : args.length = F.npar)
    (q : wpSs ⟨c, n, md⟩ F.body (fun _ H => Q .none H) Q (fun cl _ H => E cl H) (initV F args) H) : CallOK c (n + 1) md f args Q E H := by
  obtain ⟨mg, mb, C⟩ := G.ok
  have := G.fn f F hf
  rw [← G.hP] at this
  exact call_intro C G.pg this hlen q

theorem CallOK.mono {c : Cx} {n : Nat} {md : Bool} {f : String} {args : List AV} {Q Q' : AV → AHeap → Prop} {E E' : String → AHeap → Prop} {H : AHeap} (h : CallOK c n md f args Q E H) (k : ∀ v H, Q v H → Q' v H) (e : ∀ cl H, E cl H → E' cl H) : CallOK c n md f args Q' E' H :=
  fun A stk R s vals Rs a b d v p q => h A stk R s vals Rs a b d v (fun av v s' H' x y z w => p av v s' H' x y z (k _ _ w)) (fun ee cl s' H' x y z => q ee cl s' H' x y (e _ _ z))

section
variable {Q : AV → AHeap → Prop} {H : AHeap} {x y : Int} {a b : Str}
theorem b_add : wbin .Add (.int x) (.int y) Q H = Q (.int (x + y)) H := rfl
theorem b_sub : wbin .Sub (.int x) (.int y) Q H = Q (.int (x - y)) H := rfl
theorem b_mul : wbin .Mult (.int x) (.int y) Q H = (IntMulOk x y ∧ Q (.int (x * y)) H) := rfl
theorem b_div : wbin .FloorDiv (.int x) (.int y) Q H = (y ≠ 0 ∧ Q (.int (x.fdiv y)) H) := rfl
theorem b_mod : wbin .Mod (.int x) (.int y) Q H = (y ≠ 0 ∧ Q (.int (x.fmod y)) H) := rfl
theorem b_adds : wbin .Add (.str a) (.str b) Q H = (a.length + b.length ≤ sizeLine ∧ Q (.str (a ++ b)) H) := rfl
theorem c_lt : wcmp .Lt (.int x) (.int y) Q H = Q (.bool (decide (x < y))) H := rfl
theorem c_le : wcmp .LtE (.int x) (.int y) Q H = Q (.bool (decide (x ≤ y))) H := rfl
theorem c_gt : wcmp .Gt (.int x) (.int y) Q H = Q (.bool (decide (y < x))) H := rfl
theorem c_ge : wcmp .GtE (.int x) (.int y) Q H = Q (.bool (decide (y ≤ x))) H := rfl
theorem c_eq : wcmp .Eq (.int x) (.int y) Q H = Q (.bool (x == y)) H := by show Q (.bool ((x == y) != false)) H = _; simp
theorem c_ne : wcmp .NotEq (.int x) (.int y) Q H = Q (.bool (x != y)) H := by
  show Q (.bool ((x == y) != true)) H = _
  congr 2
  unfold bne; cases x == y <;> rfl
theorem c_eqs : wcmp .Eq (.str a) (.str b) Q H = Q (.bool (a == b)) H := by show Q (.bool ((a == b) != false)) H = _; simp
theorem c_nes : wcmp .NotEq (.str a) (.str b) Q H = Q (.bool (a != b)) H := by
  show Q (.bool ((a == b) != true)) H = _
  congr 2
  unfold bne; cases a == b <;> rfl
theorem c_in {u v : AV} : wcmp .In u v Q H = win false u v Q H := rfl
theorem c_nin {u v : AV} : wcmp .NotIn u v Q H = win true u v Q H := rfl
theorem t_bool {H : AHeap} {P : Bool → Prop} {t : Bool} : wtruth (.bool t) H P = P t := rfl
theorem t_int {H : AHeap} {P : Bool → Prop} {i : Int} : wtruth (.int i) H P = P (i != 0) := rfl
theorem t_none {H : AHeap} {P : Bool → Prop} : wtruth .none H P = P false := rfl
end

theorem script_get {P : Params} {h : Heap} {sp : Addr} {xs : List PyData} {vs : List Value} (W : Well P h (.ref sp) (ofPy (.list xs))) (L : h.IsList sp vs.toArray) : h.get? sp = some { cls := .type "list", data := .seq vs.toArray } := by
  obtain ⟨o, ho, hc, n, hd⟩ := L
  rw [ofPy] at W
  cases W with
  | list h1 _ => rw [ho] at h1; cases h1; cases hd; exact ho
theorem scriptH_at {sp : Addr} {ns : List Int} : scriptH sp ns sp = some (.script ns) := by unfold scriptH; rw [if_pos rfl]

section
variable {g : Gx} {QN : VV → AHeap → Prop} {QR : AV → AHeap → Prop} {E : String → VV → AHeap → Prop} {V : VV} {H : AHeap}
theorem w_ite {c : X} {a b : List S} : wpS g (.ite c a b) QN QR E V H = wpX g c V (fun x H => wtruth x H fun t => if t then wpSs g a QN QR E V H else wpSs g b QN QR E V H) (fun cl H => E cl V H) H := rfl
theorem w_ret {e : X} : wpS g (.ret e) QN QR E V H = wpX g e V QR (fun cl H => E cl V H) H := rfl
theorem w_asg {t : T} {e : X} : wpS g (.assign t e) QN QR E V H = wpX g e V (fun x H => wpT g t x V QN (fun cl H => E cl V H) H) (fun cl H => E cl V H) H := rfl
theorem w_nil : wpSs g [] QN QR E V H = QN V H := rfl
theorem w_cons {s : S} {r : List S} : wpSs g (s :: r) QN QR E V H = wpS g s (fun V H => wpSs g r QN QR E V H) QR E V H := rfl
end
end Mine

namespace Mine

/-! ## shared defs of the laws -/
noncomputable def cell (ns : List Int) (k : Nat) : Int := (ns[k]?).getD 0
noncomputable def cellFn : Fn := ⟨2, ["_law_script", "_law_k"], [
  .ite (.cmp .Lt (.var 1) (.prim "len" [(.var 0)])) [.ret (.sub (.var 0) (.var 1))] [],
  .ret (.lit (.int 0))]⟩

theorem cell_ok {c : Cx} {P : Pg} (G : Gd c P) (hf : P.fns.lookup "_law_cell_at" = some cellFn) {n : Nat} {md : Bool} {Q : AV → AHeap → Prop} {E : String → AHeap → Prop} {H : AHeap} {sp : Addr} {ns : List Int} {k : Int} (hk : 0 ≤ k) (hs : H sp = some (.script ns)) (hl : ns.length < 2 ^ 62)
    (q : Q (.int (cell ns k.toNat)) H) : CallOK c (n + 1) md "_law_cell_at" [.ref sp, .int k] Q E H := by
  refine G.call (F := cellFn) hf rfl ?_
  simp [cellFn, wprim, hs, hl, initV, wsub, ss_e0, ss_e1, st_e0, st_e1, st_e2, st_e3, st_e4, st_e5, st_e6, x_e0, x_e1, x_e2, x_e3, x_e4, x_e5, x_e6, x_e7, x_e8, x_e9, x_e10, x_e11, x_e12, x_e13, x_d0, x_d1, x_e15, xs_e0, xs_e1, ao_e0, ao_e1, xo_e0, xo_e1, xc_e0, xc_e1, wpT, wtg, b_add, b_sub, b_mul, b_div, b_mod, b_adds, c_lt, c_le, c_gt, c_ge, c_eq, c_ne, c_eqs, c_nes, c_in, c_nin, t_bool, t_int, t_none]
  obtain ⟨j, rfl⟩ := Int.eq_ofNat_of_zero_le hk
  by_cases h : j < ns.length
  · simp [h]
    refine ⟨by omega, ?_⟩
    simpa [cell, h] using q
  · simp [h]
    simpa [cell, h] using q

theorem wfor {QN : VV → AHeap → Prop} {stp : AV → (VV → AHeap → Prop) → VV → AHeap → Prop} {v : AV} {V : VV} {H : AHeap} {xs : List AV} (hx : itemsOf H v = some xs) (I : Nat → VV → AHeap → Prop) (h0 : I 0 V H)
    (hs : ∀ k V' H', I k V' H' → sameIt H H' v ∧ (k = xs.length → QN V' H') ∧ ∀ x, xs[k]? = some x → stp x (I (k + 1)) V' H') : WFor QN stp v V H := ⟨xs, hx, I, h0, hs⟩

theorem fmod_lo {x m : Int} (h : 0 < m) : 0 ≤ x.fmod m := by rw [Int.fmod_eq_emod_of_nonneg _ (by omega)]; exact Int.emod_nonneg _ (by omega)
theorem fmod_hi {x m : Int} (h : 0 < m) : x.fmod m < m := by rw [Int.fmod_eq_emod_of_nonneg _ (by omega)]; exact Int.emod_lt_of_pos _ h

theorem up_ne {H : AHeap} {a b : Addr} {o o' : AObj} (h : H b = some o') (k : H a = none) : up H a o b = some o' := by
  rw [up_other (fun z => by rw [z, k] at h; cases h)]; exact h
end Mine

namespace Mine

/-! ## heaps that grow, lists of texts, dicts -/
noncomputable def Ext (H H' : AHeap) : Prop := ∀ a o, H a = some o → H' a = some o
theorem Ext.refl {H : AHeap} : Ext H H := fun _ _ h => h
theorem Ext.trans {H H' H'' : AHeap} (x : Ext H H') (y : Ext H' H'') : Ext H H'' := fun a o h => y a o (x a o h)
theorem Ext.none {H H' : AHeap} {z : Addr} (x : Ext H H') (h : H' z = none) : H z = none := by
  cases q : H z with
  | none => rfl
  | some o => rw [x z o q] at h; cases h
/-- an own object is stored into, or made -/
theorem Ext.own {H H' : AHeap} {z : Addr} {o : AObj} (x : Ext H H') (h : H z = Option.none) : Ext H (up H' z o) := fun a o' e => by
  rw [up_other (fun q => by rw [q, h] at e; cases e)]; exact x a o' e
theorem Ext.new {H H' : AHeap} {z : Addr} {o : AObj} (x : Ext H H') (h : H' z = Option.none) : Ext H (up H' z o) := x.own (x.none h)
theorem ne_of {H : AHeap} {a b : Addr} {o : AObj} (h : H a = some o) (k : H b = none) : a ≠ b := fun q => by rw [q, k] at h; cases h

noncomputable def txs (l : List Str) : List AV := l.map AV.str
theorem txs_length {l : List Str} : (txs l).length = l.length := by simp [txs]
theorem txs_nil : txs [] = [] := rfl
theorem txs_get {l : List Str} {k : Nat} {x : AV} (h : (txs l)[k]? = some x) : ∃ s, x = .str s ∧ l[k]? = some s := by
  unfold txs at h
  rw [List.getElem?_map, Option.map_eq_some_iff] at h
  obtain ⟨s, h1, h2⟩ := h
  exact ⟨s, h2.symm, h1⟩
theorem txs_snoc {l : List Str} {s : Str} : txs l ++ [.str s] = txs (l ++ [s]) := by simp [txs]
theorem take_snoc {α : Type} {l : List α} {k : Nat} {x : α} (h : l[k]? = some x) : l.take (k + 1) = l.take k ++ [x] := by
  rw [List.take_add_one, h]; rfl

theorem rd_txs {H : AHeap} : ∀ {l : List Str}, RDs H (txs l) (l.map PyData.str)
  | [] => .nil
  | s :: r => .cons (.str s) rd_txs
theorem flat_txs : ∀ {l : List Str}, flatDs (l.map PyData.str) = true
  | [] => rfl
  | s :: r => by simp [flatDs, flatD, flat_txs (l := r)]
theorem depth_txs : ∀ {l : List Str}, PyData.depthAll (l.map PyData.str) = 0
  | [] => rfl
  | s :: r => by simp [PyData.depthAll, PyData.depth, depth_txs (l := r)]
theorem ok_txs {l : List Str} : okD (.list (l.map PyData.str)) := ⟨by simp [flatD, flat_txs], by simp [PyData.depth, depth_txs]⟩
theorem ok_str {s : Str} : okD (.str s) := ⟨rfl, Nat.zero_le _⟩
theorem eqv_txs : ∀ {l l' : List Str}, PyData.eqvAll (l.map PyData.str) (l'.map PyData.str) = decide (l = l')
  | [], [] => rfl
  | [], _ :: _ => rfl
  | _ :: _, [] => rfl
  | s :: r, s' :: r' => by
    simp only [List.map_cons, PyData.eqvAll, PyData.eqv, eqv_txs (l := r) (l' := r'), List.cons.injEq]
    by_cases h : s = s' <;> simp [h]
theorem any_txs {l : List Str} {s : Str} : ((l.map PyData.str).any fun y => PyData.eqv y (.str s)) = decide (s ∈ l) := by
  induction l with
  | nil => rfl
  | cons t r ih =>
    simp only [List.map_cons, List.any_cons, ih, PyData.eqv, List.mem_cons]
    by_cases h : s = t
    · simp [h]
    · have : t ≠ s := fun z => h z.symm
      simp [h, this]
theorem find_txs {l : List Str} {s : Str} : (l.map PyData.str).findIdx? (fun y => PyData.eqv y (.str s)) = l.findIdx? (fun t => t == s) := by
  induction l with
  | nil => rfl
  | cons t r ih =>
    simp only [List.map_cons, List.findIdx?_cons, ih, PyData.eqv]

section
variable {Q : AV → AHeap → Prop} {H : AHeap}
theorem win_txs {no : Bool} {x : Str} {a : Addr} {l : List Str} (h : H a = some (.list (txs l))) (q : Q (.bool (decide (x ∈ l) != no)) H) : win no (.str x) (.ref a) Q H := by
  simp only [win, h]
  refine ⟨.str x, l.map PyData.str, .str x, rd_txs, ok_str, flat_txs, ?_⟩
  rw [any_txs]; exact q
theorem win_dict {no : Bool} {x : Str} {a : Addr} {ep : Nat} {es : List (Str × AV)} (h : H a = some (.dict ep es)) (q : Q (.bool ((lookS es x).isSome != no)) H) : win no (.str x) (.ref a) Q H := by
  simp only [win, h]; exact q
theorem weq_txs {ne : Bool} {a b : Addr} {l l' : List Str} (h : H a = some (.list (txs l))) (h' : H b = some (.list (txs l'))) (q : Q (.bool (decide (l = l') != ne)) H) : weq ne (.ref a) (.ref b) Q H := by
  simp only [weq]
  refine ⟨.list (l.map PyData.str), .list (l'.map PyData.str), .list h rd_txs, .list h' rd_txs, ok_txs, ok_txs, ?_⟩
  rw [PyData.eqv, eqv_txs]; exact q
end

theorem c_eqr {Q : AV → AHeap → Prop} {H : AHeap} {u v : AV} : wcmp .Eq u v Q H = weq false u v Q H := rfl
theorem c_ner {Q : AV → AHeap → Prop} {H : AHeap} {u v : AV} : wcmp .NotEq u v Q H = weq true u v Q H := rfl

section
variable {Q : AV → AHeap → Prop} {H : AHeap}
theorem p_lens {s : Str} : wprim "len" [.str s] Q H = (s.length < 2 ^ 62 ∧ Q (.int s.length) H) := by simp [wprim]
theorem p_range {b : Int} : wprim "range" [.int b] Q H = ((-(2 ^ 62) < b ∧ b < 2 ^ 62) ∧ ∀ z, H z = none → Q (.ref z) (up H z (.range 0 b))) := by simp [wprim]
theorem p_range2 {a b : Int} : wprim "range" [.int a, .int b] Q H = ((-(2 ^ 62) < a ∧ a < 2 ^ 62 ∧ -(2 ^ 62) < b ∧ b < 2 ^ 62) ∧ ∀ z, H z = none → Q (.ref z) (up H z (.range a b))) := by simp [wprim]
theorem p_len {a : Addr} {xs : List AV} (h : H a = some (.list xs)) (hl : xs.length ≤ 100000) (q : Q (.int xs.length) H) : wprim "len" [.ref a] Q H := by
  rw [wprim, if_pos rfl]; simp only [h]; exact ⟨by omega, q⟩
theorem p_list {a : Addr} {xs : List AV} (h : H a = some (.list xs)) (hl : xs.length ≤ 100000) (q : ∀ z, H z = none → Q (.ref z) (up H z (.list xs))) : wprim "list" [.ref a] Q H := by
  rw [wprim, if_neg (by decide), if_pos rfl]; simp only [h]; exact ⟨by simp [sizeLine, txs_length]; omega, q⟩
theorem sub_txs {a : Addr} {l : List Str} {k : Nat} {s : Str} (h : H a = some (.list (txs l))) (hk : l[k]? = some s) (hl : l.length ≤ 1000) (q : Q (.str s) H) : wsub (.ref a) (.int k) Q H := by
  have hlt : k < l.length := (List.getElem?_eq_some_iff.mp hk).1
  simp only [wsub, h]
  refine ⟨k, .str s, by simp [pyIdx, hlt, txs_length], by omega, by omega, by simp [txs, hk], q⟩
theorem sub_txsI {a : Addr} {l : List Str} {i : Int} (h : H a = some (.list (txs l))) (h0 : 0 ≤ i) (h1 : i < l.length) (hl : l.length ≤ 1000) (q : ∀ s ∈ l, Q (.str s) H) : wsub (.ref a) (.int i) Q H := by
  have hlt : i.toNat < l.length := by omega
  have e : i = ((i.toNat : Nat) : Int) := by omega
  rw [e]
  exact sub_txs h (List.getElem?_eq_getElem hlt) hl (q _ (List.getElem_mem hlt))
theorem p_lenT {a : Addr} {l : List Str} (h : H a = some (.list (txs l))) (hl : l.length ≤ 1000) (q : Q (.int l.length) H) : wprim "len" [.ref a] Q H :=
  p_len h (by rw [txs_length]; exact Nat.le_trans hl (by decide)) (by rw [txs_length]; exact q)
theorem p_listT {a : Addr} {l : List Str} (h : H a = some (.list (txs l))) (hl : l.length ≤ 1000) (q : ∀ z, H z = none → Q (.ref z) (up H z (.list (txs l)))) : wprim "list" [.ref a] Q H :=
  p_list h (by rw [txs_length]; exact Nat.le_trans hl (by decide)) q
theorem m_append {p : Addr} {xs : List AV} {v : AV} (h : H p = some (.list xs)) (hl : xs.length ≤ 100000) (q : Q .none (up H p (.list (xs ++ [v])))) : wmList p "append" [v] Q H := by
  simp only [wmList, h]; exact ⟨by simp [sizeLine, txs_length]; omega, q⟩
end

section
variable {g : Gx} {QN : VV → AHeap → Prop} {QR : AV → AHeap → Prop} {E : String → VV → AHeap → Prop} {V : VV} {H : AHeap}
theorem w_for {t : Tg} {it : X} {b : List S} : wpS g (.for t it b) QN QR E V H = (g.md = true ∧ wpX g it V (fun v H => WFor QN (fun x nx V H => wtg t x V H fun V => wpSs g b nx QR E V H) v V H) (fun cl H => E cl V H) H) := rfl
theorem w_while {cn : X} {b : List S} : wpS g (.while cn b) QN QR E V H = (g.md = true ∧ WWhile QN (fun q V H => wpX g cn V (fun x H => wtruth x H fun t => q t H) (fun cl H => E cl V H) H) (fun q V H => wpSs g b q QR E V H) V H) := rfl
theorem w_gen {s : S} {r : List S} (h : ∀ K, K = (fun V H => wpSs g r QN QR E V H) → wpS g s K QR E V H) : wpSs g (s :: r) QN QR E V H := by rw [w_cons]; exact h _ rfl
theorem w_expr {e : X} : wpS g (.expr e) QN QR E V H = wpX g e V (fun x H => (∀ a, x ≠ .ref a) ∧ QN V H) (fun cl H => E cl V H) H := rfl
end

/-- a walk whose invariant the walk itself does not see -/
theorem wforI {QN : VV → AHeap → Prop} {stp : AV → (VV → AHeap → Prop) → VV → AHeap → Prop} {v : AV} {V : VV} {H : AHeap} {xs : List AV} (hx : itemsOf H v = some xs) (J : Nat → VV → AHeap → Prop) (h0 : J 0 V H)
    (hs : ∀ I : Nat → VV → AHeap → Prop, (∀ k V' H', J k V' H' → I k V' H') → ∀ k V' H', J k V' H' → sameIt H H' v ∧ (k = xs.length → QN V' H') ∧ ∀ x, xs[k]? = some x → stp x (I (k + 1)) V' H') : WFor QN stp v V H :=
  wfor hx J h0 (hs J fun _ _ _ h => h)

noncomputable def addKey (ks : List Str) (k : Str) : List Str := if k ∈ ks then ks else ks ++ [k]
theorem look_mem {es : List (Str × AV)} {k : Str} : (lookS es k).isSome = decide (k ∈ es.map (·.1)) := by
  unfold lookS
  rw [Option.isSome_map, Bool.eq_iff_iff, List.find?_isSome]
  simp
theorem look_in {es : List (Str × AV)} {k : Str} {v : AV} (h : lookS es k = some v) : (k, v) ∈ es := by
  unfold lookS at h
  rw [Option.map_eq_some_iff] at h
  obtain ⟨⟨k', v'⟩, h1, h2⟩ := h
  have h3 := List.find?_some h1
  simp only [decide_eq_true_eq] at h3
  cases h2; subst h3
  exact List.mem_of_find?_eq_some h1
theorem put_keys {es : List (Str × AV)} {k : Str} {v : AV} : (putS es k v).map (·.1) = addKey (es.map (·.1)) k := by
  unfold putS addKey
  rw [look_mem]
  by_cases h : k ∈ es.map (·.1)
  · simp only [h, decide_true, if_true, List.map_map]
    apply List.map_congr_left
    intro e _
    simp only [Function.comp]
    split <;> simp_all
  · simp only [h, decide_false, if_false, Bool.false_eq_true, List.map_append, List.map_cons, List.map_nil]
theorem put_mem {es : List (Str × AV)} {k : Str} {v : AV} {p : Str × AV} (h : p ∈ putS es k v) : p = (k, v) ∨ (p ∈ es ∧ p.1 ≠ k) := by
  unfold putS at h
  rw [look_mem] at h
  by_cases hk : k ∈ es.map (·.1)
  · simp only [hk, decide_true, if_true, List.mem_map] at h
    obtain ⟨e, he, h⟩ := h
    split at h
    · rename_i z; left; rw [← h, z]
    · rename_i z; right; rw [← h]; exact ⟨he, z⟩
  · simp only [hk, decide_false, Bool.false_eq_true, if_false, List.mem_append, List.mem_singleton] at h
    rcases h with h | h
    · right; exact ⟨h, fun z => hk (by rw [← z]; exact List.mem_map_of_mem h)⟩
    · left; exact h
theorem put_len {es : List (Str × AV)} {k : Str} {v : AV} : (putS es k v).length ≤ es.length + 1 := by
  unfold putS; split <;> simp
theorem mem_addKey {ks : List Str} {k x : Str} : x ∈ addKey ks k ↔ x ∈ ks ∨ x = k := by
  unfold addKey
  split
  · constructor
    · exact .inl
    · rintro (h | rfl) <;> assumption
  · simp
noncomputable def keysOf (l : List Str) : List Str := l.foldl addKey []
theorem keysOf_snoc {l : List Str} {x : Str} : keysOf (l ++ [x]) = addKey (keysOf l) x := by simp [keysOf]
theorem mem_foldl {l : List Str} : ∀ {ks : List Str} {x : Str}, x ∈ l.foldl addKey ks ↔ x ∈ ks ∨ x ∈ l := by
  induction l with
  | nil => simp
  | cons t r ih =>
    intro ks x
    rw [List.foldl_cons, ih, mem_addKey, List.mem_cons]
    constructor
    · rintro ((h | h) | h)
      · exact .inl h
      · exact .inr (.inl h)
      · exact .inr (.inr h)
    · rintro (h | h | h)
      · exact .inl (.inl h)
      · exact .inl (.inr h)
      · exact .inr h
theorem mem_keysOf {l : List Str} {x : Str} : x ∈ keysOf l ↔ x ∈ l := by unfold keysOf; rw [mem_foldl]; simp
theorem addKey_len {ks : List Str} {k : Str} : (addKey ks k).length ≤ ks.length + 1 := by unfold addKey; split <;> simp
theorem keysOf_len {l : List Str} : (keysOf l).length ≤ l.length := by
  suffices h : ∀ ks : List Str, (l.foldl addKey ks).length ≤ ks.length + l.length by have := h []; simpa [keysOf] using this
  induction l with
  | nil => simp
  | cons t r ih =>
    intro ks
    rw [List.foldl_cons, List.length_cons]
    have := ih (addKey ks t)
    have := addKey_len (ks := ks) (k := t)
    omega

/-- a comprehension whose turns only let the heap grow -/
theorem wcomp_ext {Q : AV → AHeap → Prop} {stp : AV → (Option AV → AHeap → Prop) → AHeap → Prop} {v : AV} {H : AHeap} {xs : List AV} (hx : itemsOf H v = some xs) (hl : xs.length ≤ sizeLine) (f : AV → Option AV)
    (hs : ∀ x ∈ xs, ∀ H', Ext H H' → ∀ nx : Option AV → AHeap → Prop, (∀ H'', Ext H' H'' → nx (f x) H'') → stp x nx H')
    (q : ∀ a H', Ext H H' → H' a = none → Q (.ref a) (up H' a (.list (xs.filterMap f)))) : WComp Q stp v H := by
  refine ⟨xs, hx, hl, fun k acc H' => Ext H H' ∧ acc = (xs.take k).filterMap f, ⟨.refl, by simp⟩, ?_⟩
  rintro k acc H' ⟨hE, rfl⟩
  refine ⟨?_, fun hk a ha => ?_, fun x hxk => ?_⟩
  · cases v with
    | ref a =>
      simp only [itemsOf] at hx
      simp only [sameIt]
      cases q : H a with
      | none => rw [q] at hx; cases hx
      | some o => exact hE a o q
    | _ => trivial
  · have := q a H' hE ha
    rw [hk, List.take_length]; exact this
  · refine hs x (List.mem_of_getElem? hxk) H' hE _ fun H'' hE' => ⟨hE.trans hE', ?_⟩
    rw [take_snoc hxk, List.filterMap_append]
    cases hf : f x <;> simp [hf]

/-! ## the program's small defs -/
noncomputable def tableFn : Fn := ⟨1, ["names", "table", "name"], [
  .assign (.var 1) (.dict [] []),
  .for (.var 2) (.var 0) [.assign (.sub (.var 1) (.var 2)) (.lit (.bool true))],
  .ret (.var 1)]⟩
noncomputable def metFn : Fn := ⟨4, ["names", "needs", "kept", "done", "found", "name"], [
  .assign (.var 4) (.list []),
  .for (.var 5) (.var 0) [.ite (.cmp .Eq (.comp (.var 6) 1 false (.sub (.var 1) (.var 5)) (some (.ao true [(.cmp .NotIn (.var 6) (.var 2)), (.cmp .NotIn (.var 6) (.var 3))]))) (.list [])) [.expr (.meth (.var 4) "append" [(.var 5)])] []],
  .ret (.var 4)]⟩
noncomputable def greatestFn : Fn := ⟨3, ["full", "needs", "done", "ready", "names", "found"], [
  .assign (.var 3) (.call "table_of" [(.var 2)]),
  .assign (.var 4) (.prim "list" [(.var 0)]),
  .assign (.var 5) (.call "are_met" [(.var 4), (.var 1), (.call "table_of" [(.var 4)]), (.var 3)]),
  .while (.cmp .Lt (.prim "len" [(.var 5)]) (.prim "len" [(.var 4)])) [.assign (.var 4) (.var 5),
    .assign (.var 5) (.call "are_met" [(.var 4), (.var 1), (.call "table_of" [(.var 4)]), (.var 3)])],
  .ret (.var 5)]⟩
noncomputable def mixedFn : Fn := ⟨2, ["_law_number", "_law_k"], [
  .ret (.bin .Mod (.bin .Add (.bin .Add (.bin .Mult (.var 0) (.lit (.int 6364136223846793005))) (.bin .Mult (.var 1) (.lit (.int 1442695040888963407)))) (.lit (.int 1013904223))) (.lit (.int 2305843009213693951)))]⟩

section
variable {c : Cx} {P : Pg} (G : Gd c P) {n : Nat} {md : Bool} {Q : AV → AHeap → Prop} {E : String → AHeap → Prop} {H : AHeap}

noncomputable def mixed (a b : Int) : Int := (a * 6364136223846793005 + b * 1442695040888963407 + 1013904223).fmod 2305843009213693951
theorem mixed_lo {a b : Int} : 0 ≤ mixed a b := fmod_lo (by omega)
theorem mixed_hi {a b : Int} : mixed a b < 2305843009213693951 := fmod_hi (by omega)
include G in
theorem mixed_ok (hf : P.fns.lookup "_law_mixed" = some mixedFn) {a b : Int} (q : Q (.int (mixed a b)) H) : CallOK c (n + 1) md "_law_mixed" [.int a, .int b] Q E H := by
  refine G.call (F := mixedFn) hf rfl ?_
  simp [mixedFn, initV, ss_e0, ss_e1, st_e0, st_e1, st_e2, st_e3, st_e4, st_e5, st_e6, x_e0, x_e1, x_e2, x_e3, x_e4, x_e5, x_e6, x_e7, x_e8, x_e9, x_e10, x_e11, x_e12, x_e13, x_d0, x_d1, x_e15, xs_e0, xs_e1, ao_e0, ao_e1, xo_e0, xo_e1, xc_e0, xc_e1, wpT, wtg, b_add, b_sub, b_mul, b_div, b_mod, b_adds, c_lt, c_le, c_gt, c_ge, c_eq, c_ne, c_eqs, c_nes, c_in, c_nin, t_bool, t_int, t_none, txs_length, txs_nil]
  exact ⟨IntMulOk.of_right (by decide +kernel), IntMulOk.of_right (by decide +kernel), q⟩

/-- a dict that holds just these names -/
noncomputable def TabIs (H : AHeap) (z : Addr) (l : List Str) : Prop := ∃ ep es, H z = some (.dict ep es) ∧ es.length ≤ l.length ∧ ∀ k, (lookS es k).isSome = decide (k ∈ l)
theorem TabIs.ext {H H' : AHeap} {z : Addr} {l : List Str} (h : TabIs H z l) (e : Ext H H') : TabIs H' z l := by
  obtain ⟨ep, es, h1, h2⟩ := h; exact ⟨ep, es, e _ _ h1, h2⟩
theorem win_tab {no : Bool} {x : Str} {a : Addr} {l : List Str} (h : TabIs H a l) (q : Q (.bool (decide (x ∈ l) != no)) H) : win no (.str x) (.ref a) Q H := by
  obtain ⟨ep, es, h1, h2, h3⟩ := h
  refine win_dict h1 ?_
  rw [h3]; exact q

include G in
theorem table_ok (hf : P.fns.lookup "table_of" = some tableFn) {a : Addr} {l : List Str} (ha : H a = some (.list (txs l))) (hl : l.length ≤ 1000)
    (q : ∀ z H', Ext H H' → H z = none → TabIs H' z l → Q (.ref z) H') : CallOK c (n + 1) true "table_of" [.ref a] Q E H := by
  refine G.call (F := tableFn) hf rfl ?_
  simp [tableFn, initV, ss_e0, ss_e1, st_e0, st_e1, st_e2, st_e3, st_e4, st_e5, st_e6, x_e0, x_e1, x_e2, x_e3, x_e4, x_e5, x_e6, x_e7, x_e8, x_e9, x_e10, x_e11, x_e12, x_e13, x_d0, x_d1, x_e15, xs_e0, xs_e1, ao_e0, ao_e1, xo_e0, xo_e1, xc_e0, xc_e1, wpT, wtg, b_add, b_sub, b_mul, b_div, b_mod, b_adds, c_lt, c_le, c_gt, c_ge, c_eq, c_ne, c_eqs, c_nes, c_in, c_nin, t_bool, t_int, t_none, txs_length, txs_nil]
  intro z hz
  refine wforI (xs := txs l) (by simp [itemsOf, up_ne ha hz]) (fun k V' H' => ∃ ep es x, V' = [some (.ref a), some (.ref z), x] ∧ Ext H H' ∧ H' z = some (.dict ep es) ∧ es.length ≤ k ∧ es.map (·.1) = keysOf (l.take k))
    ⟨0, [], none, rfl, Ext.refl.own hz, up_same, Nat.le_refl _, rfl⟩ ?_
  rintro I hI k V' H' ⟨ep, es, x, rfl, hE, hz', hlen, hk⟩
  refine ⟨by simp [sameIt, hE a _ ha, up_ne ha hz], fun hkl => ?_, fun y hy => ?_⟩
  · simp
    rw [hkl, txs_length, List.take_length] at hk
    rw [hkl, txs_length] at hlen
    exact q z H' hE hz ⟨ep, es, hz', hlen, fun key => by rw [look_mem, hk]; simp [mem_keysOf]⟩
  · obtain ⟨s, rfl, hs⟩ := txs_get hy
    have hkl : k < l.length := (List.getElem?_eq_some_iff.mp hs).1
    simp [hz']
    refine ⟨by simp [sizeLine, txs_length]; omega, fun ep' => hI _ _ _ ⟨ep', putS es s (.bool true), _, rfl, hE.own hz, up_same, ?_, ?_⟩⟩
    · have := put_len (es := es) (k := s) (v := .bool true); omega
    · rw [put_keys, hk, take_snoc hs, keysOf_snoc]

/-- the needs that a dict holds for these names -/
noncomputable def NeedsAt (H : AHeap) (d : Addr) (nd : Str → List Str) (l : List Str) : Prop := ∃ ep es, H d = some (.dict ep es) ∧ ∀ x ∈ l, ∃ r, lookS es x = some (.ref r) ∧ H r = some (.list (txs (nd x))) ∧ (nd x).length ≤ 1000
theorem NeedsAt.ext {H H' : AHeap} {z : Addr} {l : List Str} {nd : Str → List Str} (h : NeedsAt H z nd l) (e : Ext H H') : NeedsAt H' z nd l := by
  obtain ⟨ep, es, h1, h2⟩ := h
  refine ⟨ep, es, e _ _ h1, fun x hx => ?_⟩
  obtain ⟨r, h3, h4, h5⟩ := h2 x hx
  exact ⟨r, h3, e _ _ h4, h5⟩
theorem NeedsAt.sub {H : AHeap} {z : Addr} {l l' : List Str} {nd : Str → List Str} (h : NeedsAt H z nd l) (e : ∀ x ∈ l', x ∈ l) : NeedsAt H z nd l' := by
  obtain ⟨ep, es, h1, h2⟩ := h
  exact ⟨ep, es, h1, fun x hx => h2 x (e x hx)⟩

noncomputable def metB (nd : Str → List Str) (K D : List Str) (x : Str) : Bool := (nd x).all fun o => decide (o ∈ K) || decide (o ∈ D)

include G in
theorem met_ok (hf : P.fns.lookup "are_met" = some metFn) {a d kt dt : Addr} {l K D : List Str} {nd : Str → List Str} (ha : H a = some (.list (txs l))) (hd : NeedsAt H d nd l) (hk : TabIs H kt K) (ht : TabIs H dt D) (hl : l.length ≤ 1000)
    (q : ∀ z H', Ext H H' → H z = none → H' z = some (.list (txs (l.filter (metB nd K D)))) → Q (.ref z) H') : CallOK c (n + 1) true "are_met" [.ref a, .ref d, .ref kt, .ref dt] Q E H := by
  refine G.call (F := metFn) hf rfl ?_
  show wpSs _ (_ :: _ :: _ :: []) _ _ _ [some (.ref a), some (.ref d), some (.ref kt), some (.ref dt), none, none] _
  rw [w_cons, w_asg]
  simp [x_e0, x_e1, x_e2, x_e3, x_e4, x_e5, x_e6, x_e7, x_e8, x_e9, x_e10, x_e11, x_e12, x_e13, x_d0, x_d1, x_e15, xs_e0, xs_e1, ao_e0, ao_e1, xo_e0, xo_e1, xc_e0, xc_e1, wpT, wtg, b_add, b_sub, b_mul, b_div, b_mod, b_adds, c_lt, c_le, c_gt, c_ge, c_eq, c_ne, c_eqs, c_nes, c_in, c_nin, t_bool, t_int, t_none, txs_length, txs_nil]
  intro z hz
  rw [w_cons, w_for]
  refine ⟨rfl, ?_⟩
  simp [x_e0, x_e1, x_e2, x_e3, x_e4, x_e5, x_e6, x_e7, x_e8, x_e9, x_e10, x_e11, x_e12, x_e13, x_d0, x_d1, x_e15, xs_e0, xs_e1, ao_e0, ao_e1, xo_e0, xo_e1, xc_e0, xc_e1, wpT, wtg, b_add, b_sub, b_mul, b_div, b_mod, b_adds, c_lt, c_le, c_gt, c_ge, c_eq, c_ne, c_eqs, c_nes, c_in, c_nin, t_bool, t_int, t_none, txs_length, txs_nil]
  refine wforI (xs := txs l) (by simp [itemsOf, up_ne ha hz]) (fun k V' H' => ∃ x, V' = [some (.ref a), some (.ref d), some (.ref kt), some (.ref dt), some (.ref z), x] ∧ Ext H H' ∧ H' z = some (.list (txs ((l.take k).filter (metB nd K D)))))
    ⟨none, rfl, Ext.refl.own hz, by simp [up_same, txs_nil]⟩ ?_
  rintro I hI k V' H' ⟨x, rfl, hE, hz'⟩
  refine ⟨by simp [sameIt, hE a _ ha, up_ne ha hz], fun hkl => ?_, fun y hy => ?_⟩
  · rw [w_cons, w_ret]
    simp [x_e0, x_e1, x_e2, x_e3, x_e4, x_e5, x_e6, x_e7, x_e8, x_e9, x_e10, x_e11, x_e12, x_e13, x_d0, x_d1, x_e15, xs_e0, xs_e1, ao_e0, ao_e1, xo_e0, xo_e1, xc_e0, xc_e1, wpT, wtg, b_add, b_sub, b_mul, b_div, b_mod, b_adds, c_lt, c_le, c_gt, c_ge, c_eq, c_ne, c_eqs, c_nes, c_in, c_nin, t_bool, t_int, t_none, txs_length, txs_nil]
    rw [hkl, txs_length, List.take_length] at hz'
    exact q z H' hE hz hz'
  · obtain ⟨s, rfl, hs⟩ := txs_get hy
    have hkl : k < l.length := (List.getElem?_eq_some_iff.mp hs).1
    obtain ⟨ep, es, hd1, hd2⟩ := hd.ext hE
    obtain ⟨r, hr1, hr2, hr3⟩ := hd2 s (List.mem_of_getElem? hs)
    refine ⟨by simp, ?_⟩
    rw [w_cons, w_ite]
    simp [x_e0, x_e1, x_e2, x_e3, x_e4, x_e5, x_e6, x_e7, x_e8, x_e9, x_e10, x_e11, x_e12, x_e13, x_d0, x_d1, x_e15, xs_e0, xs_e1, ao_e0, ao_e1, xo_e0, xo_e1, xc_e0, xc_e1, wpT, wtg, b_add, b_sub, b_mul, b_div, b_mod, b_adds, c_lt, c_le, c_gt, c_ge, c_eq, c_ne, c_eqs, c_nes, c_in, c_nin, t_bool, t_int, t_none, txs_length, txs_nil]
    simp only [wsub, hd1]
    refine ⟨_, hr1, ?_⟩
    refine wcomp_ext (xs := txs (nd s)) (by simp [itemsOf, hr2]) (by simp [sizeLine, txs_length]; omega) (fun v => match v with | .str o => if (decide (o ∈ K) || decide (o ∈ D)) then none else some (.str o) | _ => none) ?_ ?_
    · intro v hv H₁ hE₁ nx hnx
      obtain ⟨o, ho, rfl⟩ : ∃ o, o ∈ nd s ∧ v = .str o := by
        unfold txs at hv; rw [List.mem_map] at hv; obtain ⟨o, h1, h2⟩ := hv; exact ⟨o, h1, h2.symm⟩
      show win _ _ _ _ _
      refine win_tab ((hk.ext hE).ext hE₁) ?_
      have hn := hnx H₁ .refl
      by_cases h1 : o ∈ K
      · simp [h1, t_bool] at hn ⊢; exact hn
      · simp [h1, t_bool] at hn ⊢
        refine win_tab ((ht.ext hE).ext hE₁) ?_
        by_cases h2 : o ∈ D
        · simp [h2, t_bool] at hn ⊢; exact hn
        · simp [h2, t_bool] at hn ⊢; exact hn
    · intro b H₁ hE₁ hb
      have hfm : ∀ l : List Str, (txs l).filterMap (fun v => match v with | .str o => if (decide (o ∈ K) || decide (o ∈ D)) then none else some (AV.str o) | _ => none) = txs (l.filter fun o => !decide (o ∈ K) && !decide (o ∈ D)) := by
        intro l
        induction l with
        | nil => rfl
        | cons t r ih =>
          show List.filterMap _ (AV.str t :: txs r) = _
          rw [List.filterMap_cons, ih, List.filter_cons]
          by_cases h1 : t ∈ K <;> by_cases h2 : t ∈ D <;> simp [txs, h1, h2]
      rw [hfm]
      intro b' hb'
      rw [c_eqr]
      refine weq_txs (l := (nd s).filter fun o => !decide (o ∈ K) && !decide (o ∈ D)) (l' := []) (up_ne up_same hb') up_same ?_
      have hz₁ : H₁ z = some (.list (txs ((l.take k).filter (metB nd K D)))) := hE₁ _ _ hz'
      have hbz : z ≠ b := ne_of hz₁ hb
      have hb1 : H₁ b' = none := by
        have : b' ≠ b := fun w => by rw [w, up_same] at hb'; cases hb'
        rwa [up_other this] at hb'
      have hbz' : z ≠ b' := ne_of hz₁ hb1
      have hz₂ : (up (up H₁ b (.list (txs ((nd s).filter fun o => !decide (o ∈ K) && !decide (o ∈ D))))) b' (.list [])) z = some (.list (txs ((l.take k).filter (metB nd K D)))) := by
        rw [up_other hbz', up_other hbz]; exact hz₁
      have hE₂ : Ext H (up (up H₁ b (.list (txs ((nd s).filter fun o => !decide (o ∈ K) && !decide (o ∈ D))))) b' (.list [])) := ((hE.trans hE₁).new hb).new hb'
      have hm : decide ((nd s).filter (fun o => !decide (o ∈ K) && !decide (o ∈ D)) = []) = metB nd K D s := by
        unfold metB
        rw [Bool.eq_iff_iff]
        simp only [decide_eq_true_eq, List.filter_eq_nil_iff, List.all_eq_true, Bool.or_eq_true, Bool.and_eq_true, Bool.not_eq_true', decide_eq_false_iff_not]
        constructor
        · intro h o ho
          by_cases h1 : o ∈ K
          · exact .inl h1
          · exact .inr (Classical.byContradiction fun h2 => h o ho ⟨h1, h2⟩)
        · rintro h o ho ⟨h1, h2⟩
          rcases h o ho with z | z
          · exact h1 z
          · exact h2 z
      rw [hm]
      cases h : metB nd K D s with
      | true =>
        simp [t_bool]
        rw [w_cons, w_expr]
        simp [x_e0, x_e1, x_e2, x_e3, x_e4, x_e5, x_e6, x_e7, x_e8, x_e9, x_e10, x_e11, x_e12, x_e13, x_d0, x_d1, x_e15, xs_e0, xs_e1, ao_e0, ao_e1, xo_e0, xo_e1, xc_e0, xc_e1, wpT, wtg, b_add, b_sub, b_mul, b_div, b_mod, b_adds, c_lt, c_le, c_gt, c_ge, c_eq, c_ne, c_eqs, c_nes, c_in, c_nin, t_bool, t_int, t_none, txs_length, txs_nil, hz₂, lmeths]
        refine m_append hz₂ (by have := List.length_filter_le (metB nd K D) (l.take k); rw [List.length_take] at this; rw [txs_length]; omega) ?_
        refine ⟨by simp, ?_⟩
        rw [w_nil, w_nil]
        refine hI _ _ _ ⟨_, rfl, hE₂.own hz, ?_⟩
        rw [up_same, take_snoc hs, List.filter_append, txs_snoc]
        simp [h]
      | false =>
        simp [t_bool]
        rw [w_nil, w_nil]
        refine hI _ _ _ ⟨_, rfl, hE₂, ?_⟩
        rw [hz₂, take_snoc hs, List.filter_append]
        simp [h]
end
end Mine

namespace Mine

/-! ## the greatest set that stands -/
noncomputable def Closed (full : List Str) (nd : Str → List Str) (done : List Str) (S : Str → Prop) : Prop := ∀ x, S x → x ∈ full ∧ ∀ o ∈ nd x, S o ∨ o ∈ done
structure Grt (full : List Str) (nd : Str → List Str) (done g : List Str) : Prop where
  sub : g.Sublist full
  met : ∀ x ∈ g, ∀ o ∈ nd x, o ∈ g ∨ o ∈ done
  top : ∀ S, Closed full nd done S → ∀ x, S x → x ∈ g

theorem filter_full {α : Type} {p : α → Bool} {l : List α} (h : l.length ≤ (l.filter p).length) : l.filter p = l := by
  apply List.Sublist.eq_of_length List.filter_sublist
  have := List.length_filter_le p l
  omega

section
variable {c : Cx} {P : Pg} (G : Gd c P) {n : Nat} {Q : AV → AHeap → Prop} {E : String → AHeap → Prop} {H : AHeap}

noncomputable def GInv (H : AHeap) (full done : List Str) (nd : Str → List Str) (fu d dn rd : Addr) (k : Nat) (V' : VV) (H' : AHeap) : Prop :=
  ∃ na fo nl, V' = [some (.ref fu), some (.ref d), some (.ref dn), some (.ref rd), some (.ref na), some (.ref fo)] ∧ Ext H H' ∧ TabIs H' rd done ∧ H' na = some (.list (txs nl)) ∧ k = nl.length ∧ nl.Sublist full ∧
    (∀ S, Closed full nd done S → ∀ x, S x → x ∈ nl) ∧ H' fo = some (.list (txs (nl.filter (metB nd nl done)))) ∧ H fo = none

theorem met_keeps {full done nl : List Str} {nd : Str → List Str} (h : ∀ S, Closed full nd done S → ∀ x, S x → x ∈ nl) : ∀ S, Closed full nd done S → ∀ x, S x → x ∈ nl.filter (metB nd nl done) := by
  intro S hS x hx
  rw [List.mem_filter]
  refine ⟨h S hS x hx, ?_⟩
  unfold metB
  rw [List.all_eq_true]
  intro o ho
  rcases (hS x hx).2 o ho with z | z
  · simp [h S hS o z]
  · simp [z]

include G in
theorem greatest_ok (h1 : P.fns.lookup "greatest" = some greatestFn) (h2 : P.fns.lookup "are_met" = some metFn) (h3 : P.fns.lookup "table_of" = some tableFn) {fu d dn : Addr} {full done : List Str} {nd : Str → List Str}
    (hf : H fu = some (.list (txs full))) (hd : NeedsAt H d nd full) (hn : H dn = some (.list (txs done))) (lf : full.length ≤ 1000) (ld : done.length ≤ 1000)
    (q : ∀ z H' g, Ext H H' → H z = none → H' z = some (.list (txs g)) → Grt full nd done g → Q (.ref z) H') : CallOK c (n + 2) true "greatest" [.ref fu, .ref d, .ref dn] Q E H := by
  refine G.call (F := greatestFn) h1 rfl ?_
  show wpSs _ (_ :: _ :: _ :: _ :: _ :: []) _ _ _ [some (.ref fu), some (.ref d), some (.ref dn), none, none, none] _
  rw [w_cons, w_asg]
  simp [x_e0, x_e1, x_e2, x_e3, x_e4, x_e5, x_e6, x_e7, x_e8, x_e9, x_e10, x_e11, x_e12, x_e13, x_d0, x_d1, x_e15, xs_e0, xs_e1, ao_e0, ao_e1, xo_e0, xo_e1, xc_e0, xc_e1, wpT, wtg, b_add, b_sub, b_mul, b_div, b_mod, b_adds, c_lt, c_le, c_gt, c_ge, c_eq, c_ne, c_eqs, c_nes, c_in, c_nin, t_bool, t_int, t_none, txs_length, txs_nil]
  refine table_ok G h3 hn ld fun rd H₁ hE₁ hrd ht₁ => ?_
  rw [w_cons, w_asg]
  simp [x_e0, x_e1, x_e2, x_e3, x_e4, x_e5, x_e6, x_e7, x_e8, x_e9, x_e10, x_e11, x_e12, x_e13, x_d0, x_d1, x_e15, xs_e0, xs_e1, ao_e0, ao_e1, xo_e0, xo_e1, xc_e0, xc_e1, wpT, wtg, b_add, b_sub, b_mul, b_div, b_mod, b_adds, c_lt, c_le, c_gt, c_ge, c_eq, c_ne, c_eqs, c_nes, c_in, c_nin, t_bool, t_int, t_none, txs_length, txs_nil]
  refine p_list (hE₁ _ _ hf) (by simp [txs_length]; omega) fun na hna => ?_
  have hE₂ := hE₁.new (o := .list (txs full)) hna
  rw [w_cons, w_asg]
  simp [x_e0, x_e1, x_e2, x_e3, x_e4, x_e5, x_e6, x_e7, x_e8, x_e9, x_e10, x_e11, x_e12, x_e13, x_d0, x_d1, x_e15, xs_e0, xs_e1, ao_e0, ao_e1, xo_e0, xo_e1, xc_e0, xc_e1, wpT, wtg, b_add, b_sub, b_mul, b_div, b_mod, b_adds, c_lt, c_le, c_gt, c_ge, c_eq, c_ne, c_eqs, c_nes, c_in, c_nin, t_bool, t_int, t_none, txs_length, txs_nil]
  refine table_ok G h3 (a := na) (l := full) up_same lf fun kt H₃ hE₃ hkt ht₃ => ?_
  have hE : Ext H H₃ := hE₂.trans hE₃
  have hE₁₃ : Ext H₁ H₃ := (Ext.refl.new hna).trans hE₃
  have hna₃ : H₃ na = some (.list (txs full)) := hE₃ _ _ up_same
  refine met_ok G h2 hna₃ (hd.ext hE) ht₃ (ht₁.ext hE₁₃) lf fun fo H₄ hE₄ hfo hfo' => ?_
  rw [w_cons, w_while]
  refine ⟨rfl, ?_⟩
  refine ⟨GInv H full done nd fu d dn rd, ⟨full.length, na, fo, full, rfl, hE.trans hE₄, (ht₁.ext hE₁₃).ext hE₄, hE₄ _ _ hna₃, rfl, List.Sublist.refl _, fun S hS x hx => (hS x hx).1, hfo', hE.none hfo⟩, ?_⟩
  rintro k V' H' ⟨na', fo', nl, rfl, hX, hR, hN, rfl, hS, hT, hF, hFn⟩
  have hlen : nl.length ≤ full.length := hS.length_le
  have hlen' := List.length_filter_le (metB nd nl done) nl
  have hS' : (nl.filter (metB nd nl done)).Sublist full := List.filter_sublist.trans hS
  have hT' := met_keeps hT
  generalize hfl : nl.filter (metB nd nl done) = fl at hF hlen' hS' hT'
  simp [x_e0, x_e1, x_e2, x_e3, x_e4, x_e5, x_e6, x_e7, x_e8, x_e9, x_e10, x_e11, x_e12, x_e13, x_d0, x_d1, x_e15, xs_e0, xs_e1, ao_e0, ao_e1, xo_e0, xo_e1, xc_e0, xc_e1, wpT, wtg, b_add, b_sub, b_mul, b_div, b_mod, b_adds, c_lt, c_le, c_gt, c_ge, c_eq, c_ne, c_eqs, c_nes, c_in, c_nin, t_bool, t_int, t_none, txs_length, txs_nil]
  refine p_len hF (by simp [txs_length]; omega) ?_
  refine p_len hN (by simp [txs_length]; omega) ?_
  simp [x_e0, x_e1, x_e2, x_e3, x_e4, x_e5, x_e6, x_e7, x_e8, x_e9, x_e10, x_e11, x_e12, x_e13, x_d0, x_d1, x_e15, xs_e0, xs_e1, ao_e0, ao_e1, xo_e0, xo_e1, xc_e0, xc_e1, wpT, wtg, b_add, b_sub, b_mul, b_div, b_mod, b_adds, c_lt, c_le, c_gt, c_ge, c_eq, c_ne, c_eqs, c_nes, c_in, c_nin, t_bool, t_int, t_none, txs_length, txs_nil]
  by_cases hlt : fl.length < nl.length
  · simp [hlt]
    rw [w_cons, w_asg]
    simp [x_e0, x_e1, x_e2, x_e3, x_e4, x_e5, x_e6, x_e7, x_e8, x_e9, x_e10, x_e11, x_e12, x_e13, x_d0, x_d1, x_e15, xs_e0, xs_e1, ao_e0, ao_e1, xo_e0, xo_e1, xc_e0, xc_e1, wpT, wtg, b_add, b_sub, b_mul, b_div, b_mod, b_adds, c_lt, c_le, c_gt, c_ge, c_eq, c_ne, c_eqs, c_nes, c_in, c_nin, t_bool, t_int, t_none, txs_length, txs_nil]
    rw [w_cons, w_asg]
    simp [x_e0, x_e1, x_e2, x_e3, x_e4, x_e5, x_e6, x_e7, x_e8, x_e9, x_e10, x_e11, x_e12, x_e13, x_d0, x_d1, x_e15, xs_e0, xs_e1, ao_e0, ao_e1, xo_e0, xo_e1, xc_e0, xc_e1, wpT, wtg, b_add, b_sub, b_mul, b_div, b_mod, b_adds, c_lt, c_le, c_gt, c_ge, c_eq, c_ne, c_eqs, c_nes, c_in, c_nin, t_bool, t_int, t_none, txs_length, txs_nil]
    refine table_ok G h3 hF (by omega) fun kt' H₅ hE₅ _ ht₅ => ?_
    refine met_ok G h2 (hE₅ _ _ hF) (((hd.ext hX).ext hE₅).sub fun x hx => hS'.subset hx) ht₅ (hR.ext hE₅) (by omega) fun fo₂ H₆ hE₆ hfo₂ hfo₂' => ?_
    rw [w_nil]
    exact ⟨_, hlt, fo', fo₂, _, rfl, (hX.trans hE₅).trans hE₆, (hR.ext hE₅).ext hE₆, hE₆ _ _ (hE₅ _ _ hF), rfl, hS', hT', hfo₂', (hX.trans hE₅).none hfo₂⟩
  · simp [hlt]
    rw [w_cons, w_ret]
    simp [x_e0, x_e1, x_e2, x_e3, x_e4, x_e5, x_e6, x_e7, x_e8, x_e9, x_e10, x_e11, x_e12, x_e13, x_d0, x_d1, x_e15, xs_e0, xs_e1, ao_e0, ao_e1, xo_e0, xo_e1, xc_e0, xc_e1, wpT, wtg, b_add, b_sub, b_mul, b_div, b_mod, b_adds, c_lt, c_le, c_gt, c_ge, c_eq, c_ne, c_eqs, c_nes, c_in, c_nin, t_bool, t_int, t_none, txs_length, txs_nil]
    have he : fl = nl := by
      rw [← hfl] at hlt ⊢
      exact filter_full (by omega)
    rw [he] at hF
    refine q fo' H' nl hX hFn hF ⟨hS, fun x hx o ho => ?_, hT⟩
    rw [← he, ← hfl, List.mem_filter] at hx
    have := hx.2
    unfold metB at this
    rw [List.all_eq_true] at this
    simpa using this o ho
end

/-! ## the law's words -/
noncomputable def letters : Str := Str.ofString "abcdefghijklmnopqrstuvwxyz"
noncomputable def wordTail : List S := [
  .assign (.var 5) (.lit (.str (Str.ofString ""))),
  .for (.var 6) (.prim "range" [(.bin .Mod (.bin .FloorDiv (.var 4) (.lit (.int 12))) (.lit (.int 11)))]) [.assign (.var 5) (.bin .Add (.var 5) (.sub (.var 2) (.bin .Mod (.bin .FloorDiv (.var 4) (.lit (.int 300))) (.lit (.int 26))))),
    .assign (.var 4) (.bin .FloorDiv (.var 4) (.lit (.int 26)))],
  .ite (.cmp .Eq (.bin .Mod (.var 1) (.lit (.int 2))) (.lit (.int 1))) [.ret (.bin .Add (.var 3) (.var 5))] [],
  .assign (.var 7) (.bin .Mod (.bin .FloorDiv (.var 1) (.lit (.int 2))) (.bin .Add (.prim "len" [(.var 5)]) (.lit (.int 1)))),
  .ret (.bin .Add (.bin .Add (.slice (.var 5) none (some (.var 7)) none) (.var 3)) (.slice (.var 5) (some (.var 7)) none none))]
noncomputable def wordFn : Fn := ⟨2, ["_law_k", "_law_cell", "_law_letters", "_law_told", "_law_rest", "_law_more", "_law_j", "_law_at"],
  .assign (.var 2) (.lit (.str (Str.ofString "abcdefghijklmnopqrstuvwxyz"))) ::
  .assign (.var 3) (.bin .Add (.sub (.var 2) (.bin .Mod (.bin .FloorDiv (.var 0) (.lit (.int 26))) (.lit (.int 26)))) (.sub (.var 2) (.bin .Mod (.var 0) (.lit (.int 26))))) ::
  .assign (.var 4) (.call "_law_mixed" [(.var 1), (.lit (.int 0))]) ::
  .ite (.cmp .Eq (.bin .Mod (.var 1) (.lit (.int 2))) (.lit (.int 1))) [.assign (.var 4) (.call "_law_mixed" [(.var 1), (.var 0)]),
    .ite (.ao true [(.cmp .Eq (.bin .Mod (.var 4) (.lit (.int 12))) (.lit (.int 11))), (.cmp .Lt (.var 0) (.lit (.int 26)))]) [.ret (.sub (.var 2) (.var 0))] []] [] ::
  wordTail⟩

/-- the letter at a place, the place as the program reckons it -/
noncomputable def chI (i : Int) : Nat := (letters.cps[i.toNat]?).getD 0
noncomputable def toldL (k : Int) : List Nat := [chI ((k.fdiv 26).fmod 26), chI (k.fmod 26)]
noncomputable def moreP (r : Int) : Nat → List Nat × Int
  | 0 => ([], r)
  | j + 1 => ((moreP r j).1 ++ [chI (((moreP r j).2.fdiv 300).fmod 26)], (moreP r j).2.fdiv 26)
theorem moreP_len (r : Int) : ∀ j, (moreP r j).1.length = j
  | 0 => rfl
  | j + 1 => by simp [moreP, moreP_len r j]
noncomputable def wordL (k cl : Int) : List Nat :=
  if cl.fmod 2 = 1 then
    let r := mixed cl k
    if r.fmod 12 = 11 ∧ k < 26 then [chI k] else toldL k ++ (moreP r ((r.fdiv 12).fmod 11).toNat).1
  else
    let r := mixed cl 0
    let m := (moreP r ((r.fdiv 12).fmod 11).toNat).1
    let a := ((cl.fdiv 2).fmod (m.length + 1)).toNat
    m.take a ++ toldL k ++ m.drop a
noncomputable def word (k cl : Int) : Str := ⟨(wordL k cl).toArray⟩

theorem letters_size : letters.cps.size = 26 := by decide +kernel
theorem sub_let {Q : AV → AHeap → Prop} {H : AHeap} {i : Int} (h0 : 0 ≤ i) (h1 : i < 26) (q : Q (.str ⟨#[chI i]⟩) H) : wsub (.str letters) (.int i) Q H := by
  have hlt : i.toNat < letters.cps.size := by rw [letters_size]; omega
  refine ⟨h0, by omega, letters.cps[i.toNat], by simp [hlt], ?_⟩
  have : chI i = letters.cps[i.toNat] := by simp [chI, hlt]
  rw [← this]; exact q

theorem str_app {a b : List Nat} : (⟨a.toArray⟩ ++ ⟨b.toArray⟩ : Str) = ⟨(a ++ b).toArray⟩ := by
  show Str.mk _ = Str.mk _
  simp
theorem str_len {a : List Nat} : (⟨a.toArray⟩ : Str).length = a.length := by show a.toArray.size = _; simp

section
variable {c : Cx} {P : Pg} (G : Gd c P) {n : Nat} {Q : AV → AHeap → Prop} {E : String → AHeap → Prop} {H : AHeap}

theorem more_for {r : Int} {w : Nat} {V : VV} {QN : VV → AHeap → Prop} {QR : AV → AHeap → Prop} {EE : String → VV → AHeap → Prop} {x0 x1 x3 x7 : Option AV} {z : Addr} (hw : w ≤ 10) (hz : H z = some (.range 0 w)) 
    (hV : V = [x0, x1, some (.str letters), x3, some (.int r), some (.str (Str.ofString "")), none, x7])
    (q : ∀ a b, QN [x0, x1, some (.str letters), x3, some (.int a), some (.str ⟨(moreP r w).1.toArray⟩), b, x7] H) :
    WFor QN (fun x nx V H => wtg (.var 6) x V H fun V => wpSs ⟨c, n, true⟩ [.assign (.var 5) (.bin .Add (.var 5) (.sub (.var 2) (.bin .Mod (.bin .FloorDiv (.var 4) (.lit (.int 300))) (.lit (.int 26))))),
      .assign (.var 4) (.bin .FloorDiv (.var 4) (.lit (.int 26)))] nx QR EE V H) (.ref z) V H := by
  subst hV
  have hlen : (((w : Int) - 0).toNat) = w := by omega
  refine wforI (xs := (List.range ((w : Int) - 0).toNat).map fun (k : Nat) => AV.int (0 + k)) (by simp [itemsOf, hz]) (fun k V' H' => H' = H ∧ ∃ b, V' = [x0, x1, some (.str letters), x3, some (.int (moreP r k).2), some (.str ⟨(moreP r k).1.toArray⟩), b, x7]) ⟨rfl, none, rfl⟩ ?_
  rintro I hI k V' H' ⟨rfl, b, rfl⟩
  refine ⟨by simp [sameIt], fun hk => ?_, fun y hy => ?_⟩
  · simp at hk; subst hk; exact q _ _
  · have hk : k < w := by
      have := (List.getElem?_eq_some_iff.mp hy).1
      simpa using this
    simp [ss_e0, ss_e1, st_e0, st_e1, st_e2, st_e3, st_e4, st_e5, st_e6, x_e0, x_e1, x_e2, x_e3, x_e4, x_e5, x_e6, x_e7, x_e8, x_e9, x_e10, x_e11, x_e12, x_e13, x_d0, x_d1, x_e15, xs_e0, xs_e1, ao_e0, ao_e1, xo_e0, xo_e1, xc_e0, xc_e1, wpT, wtg, b_add, b_sub, b_mul, b_div, b_mod, b_adds, c_lt, c_le, c_gt, c_ge, c_eq, c_ne, c_eqs, c_nes, c_in, c_nin, t_bool, t_int, t_none, txs_length, txs_nil]
    refine sub_let (fmod_lo (by omega)) (fmod_hi (by omega)) ?_
    simp [ss_e0, ss_e1, st_e0, st_e1, st_e2, st_e3, st_e4, st_e5, st_e6, x_e0, x_e1, x_e2, x_e3, x_e4, x_e5, x_e6, x_e7, x_e8, x_e9, x_e10, x_e11, x_e12, x_e13, x_d0, x_d1, x_e15, xs_e0, xs_e1, ao_e0, ao_e1, xo_e0, xo_e1, xc_e0, xc_e1, wpT, wtg, b_add, b_sub, b_mul, b_div, b_mod, b_adds, c_lt, c_le, c_gt, c_ge, c_eq, c_ne, c_eqs, c_nes, c_in, c_nin, t_bool, t_int, t_none, txs_length, txs_nil]
    refine ⟨?_, ?_⟩
    · have := moreP_len r k
      show (moreP r k).1.toArray.size + 1 ≤ sizeLine
      simp [this, sizeLine]; omega
    · refine hI _ _ _ ⟨rfl, some y, ?_⟩
      simp [moreP]
      exact str_app

theorem word_tail {k cl r : Int} {EE : String → VV → AHeap → Prop} {QN : VV → AHeap → Prop} (q : ∀ H', Ext H H' → Q (.str (if cl.fmod 2 = 1 then ⟨(toldL k ++ (moreP r ((r.fdiv 12).fmod 11).toNat).1).toArray⟩ else
      ⟨((moreP r ((r.fdiv 12).fmod 11).toNat).1.take ((cl.fdiv 2).fmod ((moreP r ((r.fdiv 12).fmod 11).toNat).1.length + 1)).toNat ++ toldL k ++ (moreP r ((r.fdiv 12).fmod 11).toNat).1.drop ((cl.fdiv 2).fmod ((moreP r ((r.fdiv 12).fmod 11).toNat).1.length + 1)).toNat).toArray⟩)) H') :
    wpSs ⟨c, n, true⟩ wordTail QN Q EE [some (.int k), some (.int cl), some (.str letters), some (.str ⟨(toldL k).toArray⟩), some (.int r), none, none, none] H := by
  simp only [wordTail]
  rw [w_cons, w_asg]
  simp only [x_e0, x_e1, x_e2, x_e3, x_e4, x_e5, x_e6, x_e7, x_e8, x_e9, x_e10, x_e11, x_e12, x_e13, x_d0, x_d1, x_e15, wpT]
  refine ⟨by simp, ?_⟩
  rw [w_cons, w_for]
  simp [x_e0, x_e1, x_e2, x_e3, x_e4, x_e5, x_e6, x_e7, x_e8, x_e9, x_e10, x_e11, x_e12, x_e13, x_d0, x_d1, x_e15, xs_e0, xs_e1, ao_e0, ao_e1, xo_e0, xo_e1, xc_e0, xc_e1, wpT, wtg, b_add, b_sub, b_mul, b_div, b_mod, b_adds, c_lt, c_le, c_gt, c_ge, c_eq, c_ne, c_eqs, c_nes, c_in, c_nin, t_bool, t_int, t_none, txs_length, txs_nil, p_lens, p_range, p_range2]
  have h0 : 0 ≤ (r.fdiv 12).fmod 11 := fmod_lo (by omega)
  have h1 : (r.fdiv 12).fmod 11 < 11 := fmod_hi (by omega)
  obtain ⟨w, hw⟩ : ∃ w : Nat, (r.fdiv 12).fmod 11 = w := ⟨((r.fdiv 12).fmod 11).toNat, by omega⟩
  rw [hw] at q h1 ⊢
  simp only [Int.toNat_natCast] at q
  refine ⟨⟨by omega, by omega⟩, fun z hz => ?_⟩
  refine more_for (r := r) (w := w) (by omega) up_same rfl fun a b => ?_
  have hE : Ext H (up H z (.range 0 w)) := Ext.refl.new hz
  have q' := q _ hE
  have hml := moreP_len r w
  generalize hm : (moreP r w).1 = m at q' hml ⊢
  by_cases hc : cl.fmod 2 = 1
  · simp [hc, t_bool, ss_e0, ss_e1, st_e0, st_e1, st_e2, st_e3, st_e4, st_e5, st_e6, x_e0, x_e1, x_e2, x_e3, x_e4, x_e5, x_e6, x_e7, x_e8, x_e9, x_e10, x_e11, x_e12, x_e13, x_d0, x_d1, x_e15, xs_e0, xs_e1, ao_e0, ao_e1, xo_e0, xo_e1, xc_e0, xc_e1, wpT, wtg, b_add, b_sub, b_mul, b_div, b_mod, b_adds, c_lt, c_le, c_gt, c_ge, c_eq, c_ne, c_eqs, c_nes, c_in, c_nin, t_bool, t_int, t_none, txs_length, txs_nil] at q' ⊢
    rw [str_app]
    refine ⟨by simp [str_len, toldL, sizeLine]; omega, ?_⟩
    simpa using q'
  · simp [hc, t_bool, ss_e0, ss_e1, st_e0, st_e1, st_e2, st_e3, st_e4, st_e5, st_e6, x_e0, x_e1, x_e2, x_e3, x_e4, x_e5, x_e6, x_e7, x_e8, x_e9, x_e10, x_e11, x_e12, x_e13, x_d0, x_d1, x_e15, xs_e0, xs_e1, ao_e0, ao_e1, xo_e0, xo_e1, xc_e0, xc_e1, wpT, wtg, b_add, b_sub, b_mul, b_div, b_mod, b_adds, c_lt, c_le, c_gt, c_ge, c_eq, c_ne, c_eqs, c_nes, c_in, c_nin, t_bool, t_int, t_none, txs_length, txs_nil, wprim] at q' ⊢
    have ha0 : 0 ≤ (cl.fdiv 2).fmod ((m.length : Int) + 1) := fmod_lo (by omega)
    have ha1 : (cl.fdiv 2).fmod ((m.length : Int) + 1) < (m.length : Int) + 1 := fmod_hi (by omega)
    simp [str_len]
    generalize (cl.fdiv 2).fmod ((m.length : Int) + 1) = a' at q' ha0 ha1 ⊢
    refine ⟨by omega, by omega, ?_⟩
    simp [wslice, str_len]
    refine ⟨ha0, by omega, by simp [sizeLine, txs_length]; omega, ?_⟩
    rw [b_adds, str_app]
    refine ⟨by simp [str_len, toldL, sizeLine]; omega, ha0, by omega, by simp [sizeLine, txs_length]; omega, ?_⟩
    rw [b_adds, str_app]
    refine ⟨by simp [str_len, toldL, sizeLine]; omega, ?_⟩
    simpa using q'

include G in
theorem word_ok (h1 : P.fns.lookup "_law_word" = some wordFn) (h2 : P.fns.lookup "_law_mixed" = some mixedFn) {k cl : Int} (hk : 0 ≤ k) (hk' : k < 600) (q : ∀ H', Ext H H' → Q (.str (word k cl)) H') : CallOK c (n + 2) true "_law_word" [.int k, .int cl] Q E H := by
  refine G.call (F := wordFn) h1 rfl ?_
  have hl : Str.ofString "abcdefghijklmnopqrstuvwxyz" = letters := rfl
  simp only [wordFn, hl]
  show wpSs _ (_ :: _ :: _ :: _ :: wordTail) _ _ _ [some (.int k), some (.int cl), none, none, none, none, none, none] _
  rw [w_cons, w_asg]
  simp [x_e0, x_e1, x_e2, x_e3, x_e4, x_e5, x_e6, x_e7, x_e8, x_e9, x_e10, x_e11, x_e12, x_e13, x_d0, x_d1, x_e15, xs_e0, xs_e1, ao_e0, ao_e1, xo_e0, xo_e1, xc_e0, xc_e1, wpT, wtg, b_add, b_sub, b_mul, b_div, b_mod, b_adds, c_lt, c_le, c_gt, c_ge, c_eq, c_ne, c_eqs, c_nes, c_in, c_nin, t_bool, t_int, t_none, txs_length, txs_nil]
  rw [w_cons, w_asg]
  simp [x_e0, x_e1, x_e2, x_e3, x_e4, x_e5, x_e6, x_e7, x_e8, x_e9, x_e10, x_e11, x_e12, x_e13, x_d0, x_d1, x_e15, xs_e0, xs_e1, ao_e0, ao_e1, xo_e0, xo_e1, xc_e0, xc_e1, wpT, wtg, b_add, b_sub, b_mul, b_div, b_mod, b_adds, c_lt, c_le, c_gt, c_ge, c_eq, c_ne, c_eqs, c_nes, c_in, c_nin, t_bool, t_int, t_none, txs_length, txs_nil]
  refine sub_let (fmod_lo (by omega)) (fmod_hi (by omega)) ?_
  refine sub_let (fmod_lo (by omega)) (fmod_hi (by omega)) ?_
  rw [b_adds]
  have htold : (⟨#[chI ((k.fdiv 26).fmod 26)]⟩ ++ ⟨#[chI (k.fmod 26)]⟩ : Str) = ⟨(toldL k).toArray⟩ := rfl
  rw [htold]
  refine ⟨by show 1 + 1 ≤ sizeLine; simp [sizeLine], ?_⟩
  rw [w_cons, w_asg]
  simp [x_e0, x_e1, x_e2, x_e3, x_e4, x_e5, x_e6, x_e7, x_e8, x_e9, x_e10, x_e11, x_e12, x_e13, x_d0, x_d1, x_e15, xs_e0, xs_e1, ao_e0, ao_e1, xo_e0, xo_e1, xc_e0, xc_e1, wpT, wtg, b_add, b_sub, b_mul, b_div, b_mod, b_adds, c_lt, c_le, c_gt, c_ge, c_eq, c_ne, c_eqs, c_nes, c_in, c_nin, t_bool, t_int, t_none, txs_length, txs_nil]
  refine mixed_ok G h2 ?_
  rw [w_cons, w_ite]
  simp [x_e0, x_e1, x_e2, x_e3, x_e4, x_e5, x_e6, x_e7, x_e8, x_e9, x_e10, x_e11, x_e12, x_e13, x_d0, x_d1, x_e15, xs_e0, xs_e1, ao_e0, ao_e1, xo_e0, xo_e1, xc_e0, xc_e1, wpT, wtg, b_add, b_sub, b_mul, b_div, b_mod, b_adds, c_lt, c_le, c_gt, c_ge, c_eq, c_ne, c_eqs, c_nes, c_in, c_nin, t_bool, t_int, t_none, txs_length, txs_nil]
  by_cases hc : cl.fmod 2 = 1
  · simp [hc, t_bool]
    rw [w_cons, w_asg]
    simp [x_e0, x_e1, x_e2, x_e3, x_e4, x_e5, x_e6, x_e7, x_e8, x_e9, x_e10, x_e11, x_e12, x_e13, x_d0, x_d1, x_e15, xs_e0, xs_e1, ao_e0, ao_e1, xo_e0, xo_e1, xc_e0, xc_e1, wpT, wtg, b_add, b_sub, b_mul, b_div, b_mod, b_adds, c_lt, c_le, c_gt, c_ge, c_eq, c_ne, c_eqs, c_nes, c_in, c_nin, t_bool, t_int, t_none, txs_length, txs_nil]
    refine mixed_ok G h2 ?_
    rw [w_cons, w_ite]
    simp [x_e0, x_e1, x_e2, x_e3, x_e4, x_e5, x_e6, x_e7, x_e8, x_e9, x_e10, x_e11, x_e12, x_e13, x_d0, x_d1, x_e15, xs_e0, xs_e1, ao_e0, ao_e1, xo_e0, xo_e1, xc_e0, xc_e1, wpT, wtg, b_add, b_sub, b_mul, b_div, b_mod, b_adds, c_lt, c_le, c_gt, c_ge, c_eq, c_ne, c_eqs, c_nes, c_in, c_nin, t_bool, t_int, t_none, txs_length, txs_nil]
    by_cases hr : (mixed cl k).fmod 12 = 11
    · by_cases hk2 : k < 26
      · simp [hr, hk2, t_bool]
        rw [w_cons, w_ret]
        simp [x_e0, x_e1, x_e2, x_e3, x_e4, x_e5, x_e6, x_e7, x_e8, x_e9, x_e10, x_e11, x_e12, x_e13, x_d0, x_d1, x_e15, xs_e0, xs_e1, ao_e0, ao_e1, xo_e0, xo_e1, xc_e0, xc_e1, wpT, wtg, b_add, b_sub, b_mul, b_div, b_mod, b_adds, c_lt, c_le, c_gt, c_ge, c_eq, c_ne, c_eqs, c_nes, c_in, c_nin, t_bool, t_int, t_none, txs_length, txs_nil]
        refine sub_let hk hk2 ?_
        have := q H .refl
        simpa [word, wordL, hc, hr, hk2] using this
      · simp [hr, hk2, t_bool]
        rw [w_nil, w_nil]
        refine word_tail fun H' hE => ?_
        have := q H' hE
        simpa [word, wordL, hc, hr, hk2] using this
    · simp [hr, t_bool]
      rw [w_nil, w_nil]
      refine word_tail fun H' hE => ?_
      have := q H' hE
      simpa [word, wordL, hc, hr] using this
  · simp [hc, t_bool]
    rw [w_nil]
    refine word_tail fun H' hE => ?_
    have := q H' hE
    simpa [word, wordL, hc] using this

/-! ## words, needs -/
noncomputable def wordsFn (m : Int) : Fn := ⟨1, ["_law_script", "_law_count"], [
  .assign (.var 1) (.bin .Add (.lit (.int 2)) (.bin .Mod (.call "_law_cell_at" [(.var 0), (.lit (.int 0))]) (.lit (.int 6)))),
  .ite (.cmp .Eq (.bin .Mod (.bin .FloorDiv (.call "_law_cell_at" [(.var 0), (.lit (.int 0))]) (.lit (.int 6))) (.lit (.int 5))) (.lit (.int 1))) [.assign (.var 1) (.bin .Add (.lit (.int 10)) (.bin .Mod (.bin .FloorDiv (.call "_law_cell_at" [(.var 0), (.lit (.int 0))]) (.lit (.int 30))) (.lit (.int m))))] [],
  .ret (.comp (.call "_law_word" [(.var 2), (.call "_law_cell_at" [(.var 0), (.lit (.int 1))])]) 1 false (.prim "range" [(.var 1)]) none)]⟩
noncomputable def wcount (m : Int) (ns : List Int) : Nat := (if ((cell ns 0).fdiv 6).fmod 5 = 1 then 10 + ((cell ns 0).fdiv 30).fmod m else 2 + (cell ns 0).fmod 6).toNat
noncomputable def wordsL (m : Int) (ns : List Int) : List Str := (List.range (wcount m ns)).map fun (k : Nat) => word k (cell ns 1)
theorem wcount_ge {m : Int} {ns : List Int} (hm : 0 < m) : 2 ≤ wcount m ns := by
  unfold wcount
  have h1 := fmod_lo (x := (cell ns 0).fdiv 30) hm
  have h2 := fmod_lo (x := cell ns 0) (m := 6) (by omega)
  split <;> omega
theorem wcount_le {m : Int} {ns : List Int} (hm : 0 < m) (hm' : m ≤ 31) : wcount m ns ≤ 40 := by
  unfold wcount
  have h1 := fmod_hi (x := (cell ns 0).fdiv 30) hm
  have h2 := fmod_hi (x := cell ns 0) (m := 6) (by omega)
  split <;> omega
theorem wordsL_len {m : Int} {ns : List Int} : (wordsL m ns).length = wcount m ns := by simp [wordsL]

theorem words_comp {w : Nat} {cl : Int} {ns : List Int} {sp z : Addr} {V : VV} (h1 : P.fns.lookup "_law_word" = some wordFn) (h2 : P.fns.lookup "_law_mixed" = some mixedFn) (h3 : P.fns.lookup "_law_cell_at" = some cellFn) (G : Gd c P) (hs : H sp = some (.script ns)) (hl : ns.length < 2 ^ 62)
    (hw : w ≤ 40) (hz : H z = some (.range 0 w)) (q : ∀ a H', Ext H H' → H' a = none → Q (.ref a) (up H' a (.list (txs ((List.range w).map fun (k : Nat) => word k (cell ns 1)))))) :
    WComp Q (fun x nx H => wpX ⟨c, n + 2, true⟩ (.call "_law_word" [(.var 2), (.call "_law_cell_at" [(.var 0), (.lit (.int 1))])]) [some (.ref sp), some (.int w), some x] (fun y H => nx (some y) H) (fun _ _ => False) H) (.ref z) H := by
  refine wcomp_ext (xs := (List.range ((w : Int) - 0).toNat).map fun (k : Nat) => AV.int (0 + k)) (by simp [itemsOf, hz]) (by simp [sizeLine, txs_length]; omega) (fun v => match v with | .int i => some (.str (word i (cell ns 1))) | _ => none) ?_ ?_
  · intro x hx H' hE nx hnx
    simp at hx
    obtain ⟨k, hk, rfl⟩ := hx
    simp [ss_e0, ss_e1, st_e0, st_e1, st_e2, st_e3, st_e4, st_e5, st_e6, x_e0, x_e1, x_e2, x_e3, x_e4, x_e5, x_e6, x_e7, x_e8, x_e9, x_e10, x_e11, x_e12, x_e13, x_d0, x_d1, x_e15, xs_e0, xs_e1, ao_e0, ao_e1, xo_e0, xo_e1, xc_e0, xc_e1, wpT, wtg, b_add, b_sub, b_mul, b_div, b_mod, b_adds, c_lt, c_le, c_gt, c_ge, c_eq, c_ne, c_eqs, c_nes, c_in, c_nin, t_bool, t_int, t_none, txs_length, txs_nil]
    refine (cell_ok (n := n + 1) G h3 (by omega) (hE _ _ hs) hl ?_)
    refine word_ok (n := n) G h1 h2 (by omega) (by omega) fun H'' hE' => ?_
    exact hnx H'' hE'
  · intro a H' hE ha
    have := q a H' hE ha
    have e : (List.filterMap (fun v => match v with | AV.int i => some (AV.str (word i (cell ns 1))) | _ => none) ((List.range ((w : Int) - 0).toNat).map fun (k : Nat) => AV.int (0 + k))) = txs ((List.range w).map fun (k : Nat) => word k (cell ns 1)) := by
      simp [txs, List.filterMap_map, Function.comp_def]
    rw [e]; exact this

include G in
theorem words_ok {m : Int} (hm : 0 < m) (hm' : m ≤ 31) (h0 : P.fns.lookup "_law_words" = some (wordsFn m)) (h1 : P.fns.lookup "_law_word" = some wordFn) (h2 : P.fns.lookup "_law_mixed" = some mixedFn) (h3 : P.fns.lookup "_law_cell_at" = some cellFn) {ns : List Int} {sp : Addr} (hs : H sp = some (.script ns)) (hl : ns.length < 2 ^ 62)
    (q : ∀ z H', Ext H H' → H z = none → H' z = some (.list (txs (wordsL m ns))) → Q (.ref z) H') : CallOK c (n + 3) true "_law_words" [.ref sp] Q E H := by
  refine G.call (F := wordsFn m) h0 rfl ?_
  have hm0 : m ≠ 0 := by omega
  have fin : ∀ w : Nat, w = wcount m ns → w ≤ 40 → wpX ⟨c, n + 2, true⟩ (.comp (.call "_law_word" [(.var 2), (.call "_law_cell_at" [(.var 0), (.lit (.int 1))])]) 1 false (.prim "range" [(.var 1)]) none) [some (.ref sp), some (.int w)] Q (fun cl H => E cl H) H := by
    intro w hw hw'
    refine ⟨rfl, ?_⟩
    show wprim "range" [.int w] _ _
    rw [p_range]
    refine ⟨⟨by omega, by omega⟩, fun z hz => ?_⟩
    have hE := Ext.refl.new (o := .range 0 (w : Int)) hz
    exact words_comp (n := n) (cl := 0) (V := []) (Q := Q) (w := w) h1 h2 h3 G (hE _ _ hs) hl hw' up_same fun a H' hE' ha => by
      have := q a (up H' a (.list (txs (wordsL m ns)))) ((hE.trans hE').new ha) ((hE.trans hE').none ha) up_same
      rw [hw]; exact this
  show wpSs _ (_ :: _ :: _ :: []) _ _ _ [some (.ref sp), none] _
  rw [w_cons, w_asg]
  simp [x_e0, x_e1, x_e2, x_e3, x_e4, x_e5, x_e6, x_e7, x_e8, x_e9, x_e10, x_e11, x_e12, x_e13, x_d0, x_d1, x_e15, xs_e0, xs_e1, ao_e0, ao_e1, xo_e0, xo_e1, xc_e0, xc_e1, wpT, wtg, b_add, b_sub, b_mul, b_div, b_mod, b_adds, c_lt, c_le, c_gt, c_ge, c_eq, c_ne, c_eqs, c_nes, c_in, c_nin, t_bool, t_int, t_none, txs_length, txs_nil]
  refine cell_ok (n := n + 1) G h3 (by omega) hs hl ?_
  simp [x_e0, x_e1, x_e2, x_e3, x_e4, x_e5, x_e6, x_e7, x_e8, x_e9, x_e10, x_e11, x_e12, x_e13, x_d0, x_d1, x_e15, xs_e0, xs_e1, ao_e0, ao_e1, xo_e0, xo_e1, xc_e0, xc_e1, wpT, wtg, b_add, b_sub, b_mul, b_div, b_mod, b_adds, c_lt, c_le, c_gt, c_ge, c_eq, c_ne, c_eqs, c_nes, c_in, c_nin, t_bool, t_int, t_none, txs_length, txs_nil]
  rw [w_cons, w_ite]
  simp [x_e0, x_e1, x_e2, x_e3, x_e4, x_e5, x_e6, x_e7, x_e8, x_e9, x_e10, x_e11, x_e12, x_e13, x_d0, x_d1, x_e15, xs_e0, xs_e1, ao_e0, ao_e1, xo_e0, xo_e1, xc_e0, xc_e1, wpT, wtg, b_add, b_sub, b_mul, b_div, b_mod, b_adds, c_lt, c_le, c_gt, c_ge, c_eq, c_ne, c_eqs, c_nes, c_in, c_nin, t_bool, t_int, t_none, txs_length, txs_nil]
  refine cell_ok (n := n + 1) G h3 (by omega) hs hl ?_
  simp [x_e0, x_e1, x_e2, x_e3, x_e4, x_e5, x_e6, x_e7, x_e8, x_e9, x_e10, x_e11, x_e12, x_e13, x_d0, x_d1, x_e15, xs_e0, xs_e1, ao_e0, ao_e1, xo_e0, xo_e1, xc_e0, xc_e1, wpT, wtg, b_add, b_sub, b_mul, b_div, b_mod, b_adds, c_lt, c_le, c_gt, c_ge, c_eq, c_ne, c_eqs, c_nes, c_in, c_nin, t_bool, t_int, t_none, txs_length, txs_nil]
  by_cases hc : ((cell ns 0).fdiv 6).fmod 5 = 1
  · simp [hc, t_bool]
    rw [w_cons, w_asg]
    simp [x_e0, x_e1, x_e2, x_e3, x_e4, x_e5, x_e6, x_e7, x_e8, x_e9, x_e10, x_e11, x_e12, x_e13, x_d0, x_d1, x_e15, xs_e0, xs_e1, ao_e0, ao_e1, xo_e0, xo_e1, xc_e0, xc_e1, wpT, wtg, b_add, b_sub, b_mul, b_div, b_mod, b_adds, c_lt, c_le, c_gt, c_ge, c_eq, c_ne, c_eqs, c_nes, c_in, c_nin, t_bool, t_int, t_none, txs_length, txs_nil]
    refine cell_ok (n := n + 1) G h3 (by omega) hs hl ?_
    simp [x_e0, x_e1, x_e2, x_e3, x_e4, x_e5, x_e6, x_e7, x_e8, x_e9, x_e10, x_e11, x_e12, x_e13, x_d0, x_d1, x_e15, xs_e0, xs_e1, ao_e0, ao_e1, xo_e0, xo_e1, xc_e0, xc_e1, wpT, wtg, b_add, b_sub, b_mul, b_div, b_mod, b_adds, c_lt, c_le, c_gt, c_ge, c_eq, c_ne, c_eqs, c_nes, c_in, c_nin, t_bool, t_int, t_none, txs_length, txs_nil, hm0]
    have h5 := fmod_lo (x := (cell ns 0).fdiv 30) hm
    have h6 := fmod_hi (x := (cell ns 0).fdiv 30) hm
    obtain ⟨w, hw⟩ : ∃ w : Nat, 10 + ((cell ns 0).fdiv 30).fmod m = w := ⟨(10 + ((cell ns 0).fdiv 30).fmod m).toNat, by omega⟩
    rw [hw, w_nil, w_cons, w_ret]
    exact fin w (by simp [wcount, hc]; omega) (by omega)
  · simp [hc, t_bool]
    have h5 := fmod_lo (x := cell ns 0) (m := 6) (by omega)
    have h6 := fmod_hi (x := cell ns 0) (m := 6) (by omega)
    obtain ⟨w, hw⟩ : ∃ w : Nat, 2 + (cell ns 0).fmod 6 = w := ⟨(2 + (cell ns 0).fmod 6).toNat, by omega⟩
    rw [hw, w_nil, w_cons, w_ret]
    exact fin w (by simp [wcount, hc]; omega) (by omega)

noncomputable def needsFn : Fn := ⟨2, ["_law_cell", "_law_words_here", "_law_size", "_law_rest", "_law_needs", "_law_j"], [
  .assign (.var 2) (.bin .Mod (.var 0) (.lit (.int 4))),
  .ite (.cmp .Eq (.bin .Mod (.bin .FloorDiv (.var 0) (.lit (.int 4))) (.lit (.int 4))) (.lit (.int 1))) [.assign (.var 2) (.bin .Mod (.bin .FloorDiv (.var 0) (.lit (.int 16))) (.lit (.int 9)))] [],
  .assign (.var 3) (.bin .FloorDiv (.var 0) (.lit (.int 144))),
  .assign (.var 4) (.list []),
  .for (.var 5) (.prim "range" [(.var 2)]) [.expr (.meth (.var 4) "append" [(.sub (.var 1) (.bin .Mod (.var 3) (.prim "len" [(.var 1)])))]),
    .assign (.var 3) (.bin .FloorDiv (.var 3) (.lit (.int 7)))],
  .ret (.var 4)]⟩

include G in
theorem needs_ok (h0 : P.fns.lookup "_law_needs_by" = some needsFn) {cl : Int} {wa : Addr} {ws : List Str} (hw : H wa = some (.list (txs ws))) (hw0 : ws ≠ []) (hw1 : ws.length ≤ 1000)
    (q : ∀ z H' l, Ext H H' → H z = none → H' z = some (.list (txs l)) → (∀ x ∈ l, x ∈ ws) → l.length ≤ 8 → Q (.ref z) H') : CallOK c (n + 1) true "_law_needs_by" [.int cl, .ref wa] Q E H := by
  refine G.call (F := needsFn) h0 rfl ?_
  have hpos : 0 < ws.length := List.length_pos_iff.mpr hw0
  have fin : ∀ (w : Nat) (r : Int), w ≤ 8 → wpSs ⟨c, n, true⟩ [.assign (.var 4) (.list []),
      .for (.var 5) (.prim "range" [(.var 2)]) [.expr (.meth (.var 4) "append" [(.sub (.var 1) (.bin .Mod (.var 3) (.prim "len" [(.var 1)])))]),
        .assign (.var 3) (.bin .FloorDiv (.var 3) (.lit (.int 7)))],
      .ret (.var 4)] (fun _ H => Q .none H) Q (fun cl _ H => E cl H) [some (.int cl), some (.ref wa), some (.int w), some (.int r), none, none] H := by
    intro w r hw8
    rw [w_cons, w_asg]
    simp [x_e0, x_e1, x_e2, x_e3, x_e4, x_e5, x_e6, x_e7, x_e8, x_e9, x_e10, x_e11, x_e12, x_e13, x_d0, x_d1, x_e15, xs_e0, xs_e1, ao_e0, ao_e1, xo_e0, xo_e1, xc_e0, xc_e1, wpT, wtg, b_add, b_sub, b_mul, b_div, b_mod, b_adds, c_lt, c_le, c_gt, c_ge, c_eq, c_ne, c_eqs, c_nes, c_in, c_nin, t_bool, t_int, t_none, txs_length, txs_nil, p_lens, p_range, p_range2]
    intro z hz
    rw [w_cons, w_for]
    refine ⟨rfl, ?_⟩
    simp [x_e0, x_e1, x_e2, x_e3, x_e4, x_e5, x_e6, x_e7, x_e8, x_e9, x_e10, x_e11, x_e12, x_e13, x_d0, x_d1, x_e15, xs_e0, xs_e1, ao_e0, ao_e1, xo_e0, xo_e1, xc_e0, xc_e1, wpT, wtg, b_add, b_sub, b_mul, b_div, b_mod, b_adds, c_lt, c_le, c_gt, c_ge, c_eq, c_ne, c_eqs, c_nes, c_in, c_nin, t_bool, t_int, t_none, txs_length, txs_nil, p_lens, p_range, p_range2]
    refine ⟨⟨by omega, by omega⟩, fun y hy => ?_⟩
    have hyz : z ≠ y := fun e => by rw [← e, up_same] at hy; cases hy
    have hy' : H y = none := by rwa [up_other (Ne.symm hyz)] at hy
    have hyw : y ≠ wa := fun e => by rw [e, hw] at hy'; cases hy'
    have hzw : z ≠ wa := fun e => by rw [e, hw] at hz; cases hz
    refine wforI (xs := (List.range ((w : Int) - 0).toNat).map fun (k : Nat) => AV.int (0 + k)) (by simp [itemsOf, up_same]) (fun k V' H' => ∃ r b l, V' = [some (.int cl), some (.ref wa), some (.int w), some (.int r), some (.ref z), b] ∧ Ext H H' ∧ H' y = some (.range 0 w) ∧ H' z = some (.list (txs l)) ∧ l.length = k ∧ ∀ x ∈ l, x ∈ ws)
      ⟨r, none, [], rfl, (Ext.refl.new hz).new hy, up_same, by rw [up_other hyz, up_same]; rfl, rfl, by simp⟩ ?_
    rintro I hI k V' H' ⟨r', b, l, rfl, hE, hy2, hz2, hlk, hin⟩
    refine ⟨by simp [sameIt, hy2, up_same], fun hk => ?_, fun x hx => ?_⟩
    · simp at hk ⊢
      exact q z H' l hE hz hz2 hin (by omega)
    · have hk : k < w := by
        have := (List.getElem?_eq_some_iff.mp hx).1
        simpa using this
      simp [ss_e0, ss_e1, st_e0, st_e1, st_e2, st_e3, st_e4, st_e5, st_e6, x_e0, x_e1, x_e2, x_e3, x_e4, x_e5, x_e6, x_e7, x_e8, x_e9, x_e10, x_e11, x_e12, x_e13, x_d0, x_d1, x_e15, xs_e0, xs_e1, ao_e0, ao_e1, xo_e0, xo_e1, xc_e0, xc_e1, wpT, wtg, b_add, b_sub, b_mul, b_div, b_mod, b_adds, c_lt, c_le, c_gt, c_ge, c_eq, c_ne, c_eqs, c_nes, c_in, c_nin, t_bool, t_int, t_none, txs_length, txs_nil, hz2, lmeths]
      refine p_len (hE _ _ hw) (by simp [txs_length]; omega) ?_
      simp [ss_e0, ss_e1, st_e0, st_e1, st_e2, st_e3, st_e4, st_e5, st_e6, x_e0, x_e1, x_e2, x_e3, x_e4, x_e5, x_e6, x_e7, x_e8, x_e9, x_e10, x_e11, x_e12, x_e13, x_d0, x_d1, x_e15, xs_e0, xs_e1, ao_e0, ao_e1, xo_e0, xo_e1, xc_e0, xc_e1, wpT, wtg, b_add, b_sub, b_mul, b_div, b_mod, b_adds, c_lt, c_le, c_gt, c_ge, c_eq, c_ne, c_eqs, c_nes, c_in, c_nin, t_bool, t_int, t_none, txs_length, txs_nil, hw0]
      refine sub_txsI (hE _ _ hw) (fmod_lo (by omega)) (fmod_hi (by omega)) hw1 fun s hs => ?_
      refine m_append hz2 (by simp [txs_length]; omega) ?_
      simp [ss_e0, ss_e1, st_e0, st_e1, st_e2, st_e3, st_e4, st_e5, st_e6, x_e0, x_e1, x_e2, x_e3, x_e4, x_e5, x_e6, x_e7, x_e8, x_e9, x_e10, x_e11, x_e12, x_e13, x_d0, x_d1, x_e15, xs_e0, xs_e1, ao_e0, ao_e1, xo_e0, xo_e1, xc_e0, xc_e1, wpT, wtg, b_add, b_sub, b_mul, b_div, b_mod, b_adds, c_lt, c_le, c_gt, c_ge, c_eq, c_ne, c_eqs, c_nes, c_in, c_nin, t_bool, t_int, t_none, txs_length, txs_nil]
      refine hI _ _ _ ⟨_, _, l ++ [s], rfl, hE.own hz, by rw [up_other (Ne.symm hyz)]; exact hy2, by rw [up_same, txs_snoc], by simp [hlk], ?_⟩
      intro x hx
      rcases List.mem_append.mp hx with h | h
      · exact hin x h
      · simp at h; subst h; exact hs
  show wpSs _ (_ :: _ :: _ :: _ :: _ :: _ :: []) _ _ _ [some (.int cl), some (.ref wa), none, none, none, none] _
  rw [w_cons, w_asg]
  simp [x_e0, x_e1, x_e2, x_e3, x_e4, x_e5, x_e6, x_e7, x_e8, x_e9, x_e10, x_e11, x_e12, x_e13, x_d0, x_d1, x_e15, xs_e0, xs_e1, ao_e0, ao_e1, xo_e0, xo_e1, xc_e0, xc_e1, wpT, wtg, b_add, b_sub, b_mul, b_div, b_mod, b_adds, c_lt, c_le, c_gt, c_ge, c_eq, c_ne, c_eqs, c_nes, c_in, c_nin, t_bool, t_int, t_none, txs_length, txs_nil]
  rw [w_cons, w_ite]
  simp [x_e0, x_e1, x_e2, x_e3, x_e4, x_e5, x_e6, x_e7, x_e8, x_e9, x_e10, x_e11, x_e12, x_e13, x_d0, x_d1, x_e15, xs_e0, xs_e1, ao_e0, ao_e1, xo_e0, xo_e1, xc_e0, xc_e1, wpT, wtg, b_add, b_sub, b_mul, b_div, b_mod, b_adds, c_lt, c_le, c_gt, c_ge, c_eq, c_ne, c_eqs, c_nes, c_in, c_nin, t_bool, t_int, t_none, txs_length, txs_nil]
  by_cases hc : (cl.fdiv 4).fmod 4 = 1
  · simp [hc, t_bool]
    have h5 := fmod_lo (x := cl.fdiv 16) (m := 9) (by omega)
    have h6 := fmod_hi (x := cl.fdiv 16) (m := 9) (by omega)
    obtain ⟨w, hw'⟩ : ∃ w : Nat, (cl.fdiv 16).fmod 9 = w := ⟨((cl.fdiv 16).fmod 9).toNat, by omega⟩
    rw [w_cons, w_asg]
    simp [x_e0, x_e1, x_e2, x_e3, x_e4, x_e5, x_e6, x_e7, x_e8, x_e9, x_e10, x_e11, x_e12, x_e13, x_d0, x_d1, x_e15, xs_e0, xs_e1, ao_e0, ao_e1, xo_e0, xo_e1, xc_e0, xc_e1, wpT, wtg, b_add, b_sub, b_mul, b_div, b_mod, b_adds, c_lt, c_le, c_gt, c_ge, c_eq, c_ne, c_eqs, c_nes, c_in, c_nin, t_bool, t_int, t_none, txs_length, txs_nil]
    rw [w_nil, w_cons, w_asg]
    simp [x_e0, x_e1, x_e2, x_e3, x_e4, x_e5, x_e6, x_e7, x_e8, x_e9, x_e10, x_e11, x_e12, x_e13, x_d0, x_d1, x_e15, xs_e0, xs_e1, ao_e0, ao_e1, xo_e0, xo_e1, xc_e0, xc_e1, wpT, wtg, b_add, b_sub, b_mul, b_div, b_mod, b_adds, c_lt, c_le, c_gt, c_ge, c_eq, c_ne, c_eqs, c_nes, c_in, c_nin, t_bool, t_int, t_none, txs_length, txs_nil]
    rw [hw']
    exact fin w (cl.fdiv 144) (by omega)
  · simp [hc, t_bool]
    have h5 := fmod_lo (x := cl) (m := 4) (by omega)
    have h6 := fmod_hi (x := cl) (m := 4) (by omega)
    obtain ⟨w, hw'⟩ : ∃ w : Nat, cl.fmod 4 = w := ⟨(cl.fmod 4).toNat, by omega⟩
    rw [w_nil, w_cons, w_asg]
    simp [x_e0, x_e1, x_e2, x_e3, x_e4, x_e5, x_e6, x_e7, x_e8, x_e9, x_e10, x_e11, x_e12, x_e13, x_d0, x_d1, x_e15, xs_e0, xs_e1, ao_e0, ao_e1, xo_e0, xo_e1, xc_e0, xc_e1, wpT, wtg, b_add, b_sub, b_mul, b_div, b_mod, b_adds, c_lt, c_le, c_gt, c_ge, c_eq, c_ne, c_eqs, c_nes, c_in, c_nin, t_bool, t_int, t_none, txs_length, txs_nil]
    rw [hw']
    exact fin w (cl.fdiv 144) (by omega)
end
end Mine

namespace Mine

theorem w_append {g : Gx} {QR : AV → AHeap → Prop} {E : String → VV → AHeap → Prop} {b : List S} : ∀ {a : List S} {QN : VV → AHeap → Prop} {V : VV} {H : AHeap}, wpSs g (a ++ b) QN QR E V H = wpSs g a (fun V H => wpSs g b QN QR E V H) QR E V H
  | [], _, _, _ => by simp only [List.nil_append, w_nil]
  | s :: r, QN, V, H => by
    rw [List.cons_append, w_cons, w_cons]
    congr 1
    funext V H
    exact w_append

/-! ## the case that laws 3 to 6 build -/
noncomputable def buildS (c1 c2 : Int) : List S := [
  .assign (.var 2) (.list []),
  .assign (.var 3) (.list []),
  .assign (.var 4) (.dict [] []),
  .for (.var 5) (.prim "range" [(.prim "len" [(.var 1)])]) [.assign (.var 6) (.call "_law_mixed" [(.call "_law_cell_at" [(.var 0), (.bin .Add (.lit (.int c1)) (.bin .Mod (.var 5) (.lit (.int c2))))]), (.var 5)]),
    .ite (.cmp .Lt (.bin .Mod (.var 6) (.lit (.int 6))) (.lit (.int 4))) [.expr (.meth (.var 2) "append" [(.sub (.var 1) (.var 5))]),
      .assign (.sub (.var 4) (.sub (.var 1) (.var 5))) (.call "_law_needs_by" [(.bin .FloorDiv (.var 6) (.lit (.int 6))), (.var 1)])] [.ite (.cmp .Eq (.bin .Mod (.var 6) (.lit (.int 6))) (.lit (.int 4))) [.expr (.meth (.var 3) "append" [(.sub (.var 1) (.var 5))])] []]]]

structure Blt (H₀ H : AHeap) (ws tk : List Str) (fu dn nd : Addr) (full done : List Str) (f : Str → List Str) : Prop where
  ext : Ext H₀ H
  ffu : H₀ fu = none
  fdn : H₀ dn = none
  fnd : H₀ nd = none
  n1 : fu ≠ dn
  hfu : H fu = some (.list (txs full))
  hdn : H dn = some (.list (txs done))
  hnd : ∃ ep es, H nd = some (.dict ep es) ∧ es.map (·.1) = keysOf full ∧ ∀ p ∈ es, ∃ r, p.2 = .ref r ∧ H r = some (.list (txs (f p.1))) ∧ r ≠ fu ∧ r ≠ dn
  fin : ∀ x ∈ full, (f x).length ≤ 8 ∧ ∀ o ∈ f x, o ∈ ws
  sfu : full.Sublist tk
  sdn : done.Sublist tk
  dj : tk.Nodup → ∀ x ∈ full, x ∉ done

section
variable {H₀ H H' : AHeap} {ws tk : List Str} {fu dn nd : Addr} {full done : List Str} {f : Str → List Str}

theorem Blt.grow (B : Blt H₀ H ws tk fu dn nd full done f) (e : Ext H H') : Blt H₀ H' ws tk fu dn nd full done f := by
  obtain ⟨b1, b2, b3, b4, b5, b6, b7, ⟨ep, es, e1, e2, e3⟩, b9, b10, b11, b12⟩ := B
  refine ⟨b1.trans e, b2, b3, b4, b5, e _ _ b6, e _ _ b7, ⟨ep, es, e _ _ e1, e2, fun p hp => ?_⟩, b9, b10, b11, b12⟩
  obtain ⟨r, h1, h2, h3⟩ := e3 p hp
  exact ⟨r, h1, e _ _ h2, h3⟩
theorem Blt.needs (B : Blt H₀ H ws tk fu dn nd full done f) : NeedsAt H nd f full := by
  obtain ⟨ep, es, e1, e2, e3⟩ := B.hnd
  refine ⟨ep, es, e1, fun x hx => ?_⟩
  have hs : (lookS es x).isSome = true := by rw [look_mem, e2]; simpa [mem_keysOf] using hx
  obtain ⟨v, hv⟩ := Option.isSome_iff_exists.mp hs
  obtain ⟨r, h1, h2, _⟩ := e3 _ (look_in hv)
  dsimp only at h1 h2
  subst h1
  exact ⟨r, hv, h2, by have := (B.fin x hx).1; omega⟩
theorem Blt.skip {w : Str} (B : Blt H₀ H ws tk fu dn nd full done f) (hw : (tk ++ [w]).Nodup → tk.Nodup) : Blt H₀ H ws (tk ++ [w]) fu dn nd full done f :=
  { B with sfu := B.sfu.trans (List.sublist_append_left _ _), sdn := B.sdn.trans (List.sublist_append_left _ _), dj := fun h => B.dj (hw h) }
theorem nodup_left {w : Str} (h : (tk ++ [w]).Nodup) : tk.Nodup ∧ w ∉ tk := by
  rw [List.nodup_append] at h
  exact ⟨h.1, fun hw => h.2.2 w hw w (.head _) rfl⟩
theorem Blt.doneAdd {w : Str} (B : Blt H₀ H ws tk fu dn nd full done f) : Blt H₀ (up H dn (.list (txs (done ++ [w])))) ws (tk ++ [w]) fu dn nd full (done ++ [w]) f := by
  obtain ⟨b1, b2, b3, b4, b5, b6, b7, ⟨ep, es, e1, e2, e3⟩, b9, b10, b11, b12⟩ := B
  have hnd : nd ≠ dn := fun z => by rw [z, b7] at e1; cases e1
  refine ⟨b1.own b3, b2, b3, b4, b5, by rw [up_other b5]; exact b6, up_same, ⟨ep, es, by rw [up_other hnd]; exact e1, e2, fun p hp => ?_⟩, b9, b10.trans (List.sublist_append_left _ _), b11.append (List.Sublist.refl _), fun hn x hx => ?_⟩
  · obtain ⟨r, h1, h2, h3, h4⟩ := e3 p hp
    exact ⟨r, h1, by rw [up_other h4]; exact h2, h3, h4⟩
  · obtain ⟨h1, h2⟩ := nodup_left hn
    rw [List.mem_append, List.mem_singleton]
    rintro (z | z)
    · exact b12 h1 x hx z
    · exact h2 (by rw [← z]; exact b10.subset hx)
theorem Blt.fullAdd {w : Str} {l : List Str} {r : Addr} {ep : Nat} {es : List (Str × AV)} (B : Blt H₀ H ws tk fu dn nd full done f) (hE : Ext (up H fu (.list (txs (full ++ [w])))) H') (hr : (up H fu (.list (txs (full ++ [w])))) r = none)
    (hr' : H' r = some (.list (txs l))) (hl : l.length ≤ 8) (hin : ∀ o ∈ l, o ∈ ws) (hd : H' nd = some (.dict ep es)) : ∃ es', H nd = some (.dict ep es') ∧ es' = es ∧ ∀ ep', Blt H₀ (up H' nd (.dict ep' (putS es w (.ref r)))) ws (tk ++ [w]) fu dn nd (full ++ [w]) done (fun x => if x = w then l else f x) := by
  obtain ⟨b1, b2, b3, b4, b5, b6, b7, ⟨ep₀, es₀, e1, e2, e3⟩, b9, b10, b11, b12⟩ := B
  have hnf : nd ≠ fu := fun z => by rw [z, b6] at e1; cases e1
  have hnd : nd ≠ dn := fun z => by rw [z, b7] at e1; cases e1
  have hd' : H' nd = some (.dict ep₀ es₀) := hE _ _ (by rw [up_other hnf]; exact e1)
  rw [hd] at hd'; cases hd'
  refine ⟨es, e1, rfl, fun ep' => ?_⟩
  have hrf : r ≠ fu := fun z => by rw [z, up_same] at hr; cases hr
  have hrH : H r = none := by rwa [up_other hrf] at hr
  have hrn : r ≠ nd := fun z => by rw [z, e1] at hrH; cases hrH
  have hrd : r ≠ dn := fun z => by rw [z, b7] at hrH; cases hrH
  have hu : ∀ a o, a ≠ fu → H a = some o → H' a = some o := fun a o ha h => hE _ _ (by rw [up_other ha]; exact h)
  refine ⟨fun a o h => ?_, b2, b3, b4, b5, ?_, ?_, ⟨ep', _, up_same, ?_, fun p hp => ?_⟩, fun x hx => ?_, b10.append (List.Sublist.refl _), b11.trans (List.sublist_append_left _ _), fun hn x hx => ?_⟩
  · have h1 : a ≠ nd := fun z => by rw [z, b4] at h; cases h
    have h2 : a ≠ fu := fun z => by rw [z, b2] at h; cases h
    rw [up_other h1]; exact hu a o h2 (b1 a o h)
  · rw [up_other (Ne.symm hnf)]; exact hE _ _ up_same
  · rw [up_other (Ne.symm hnd)]; exact hu _ _ (Ne.symm b5) b7
  · rw [put_keys, e2, keysOf_snoc]
  · rcases put_mem hp with rfl | ⟨hp, hne⟩
    · exact ⟨r, rfl, by rw [up_other hrn]; simpa using hr', hrf, hrd⟩
    · obtain ⟨r₁, h1, h2, h3, h4⟩ := e3 p hp
      have h5 : r₁ ≠ nd := fun z => by rw [z, e1] at h2; cases h2
      exact ⟨r₁, h1, by rw [up_other h5]; simp only [hne, if_false]; exact hu _ _ h3 h2, h3, h4⟩
  · split
    · exact ⟨hl, hin⟩
    · rename_i hne
      rw [List.mem_append, List.mem_singleton] at hx
      exact b9 x (hx.resolve_right hne)
  · obtain ⟨h1, h2⟩ := nodup_left hn
    rw [List.mem_append, List.mem_singleton] at hx
    rcases hx with hx | rfl
    · exact b12 h1 x hx
    · exact fun z => h2 (b11.subset z)
end

section
variable {c : Cx} {P : Pg} (G : Gd c P) {n : Nat} {H : AHeap} {QN : VV → AHeap → Prop} {QR : AV → AHeap → Prop} {EE : String → VV → AHeap → Prop}

include G in
theorem build_ok {c1 c2 : Int} (h1 : 0 ≤ c1) (h2 : 0 < c2) (f1 : P.fns.lookup "_law_mixed" = some mixedFn) (f2 : P.fns.lookup "_law_cell_at" = some cellFn) (f3 : P.fns.lookup "_law_needs_by" = some needsFn) {sp wa : Addr} {ns : List Int} {ws : List Str} {rest : VV}
    (hs : H sp = some (.script ns)) (hl : ns.length < 2 ^ 62) (hw : H wa = some (.list (txs ws))) (hw0 : ws ≠ []) (hwl : ws.length ≤ 1000)
    (q : ∀ fu dn nd x5 x6 H' full done f, Blt H H' ws ws fu dn nd full done f → QN (some (.ref sp) :: some (.ref wa) :: some (.ref fu) :: some (.ref dn) :: some (.ref nd) :: x5 :: x6 :: rest) H') :
    wpSs ⟨c, n + 1, true⟩ (buildS c1 c2) QN QR EE (some (.ref sp) :: some (.ref wa) :: none :: none :: none :: none :: none :: rest) H := by
  have hc2 : c2 ≠ 0 := by omega
  simp only [buildS]
  rw [w_cons, w_asg]
  simp [x_e0, x_e1, x_e2, x_e3, x_e4, x_e5, x_e6, x_e7, x_e8, x_e9, x_e10, x_e11, x_e12, x_e13, x_d0, x_d1, x_e15, xs_e0, xs_e1, ao_e0, ao_e1, xo_e0, xo_e1, xc_e0, xc_e1, wpT, wtg, b_add, b_sub, b_mul, b_div, b_mod, b_adds, c_lt, c_le, c_gt, c_ge, c_eq, c_ne, c_eqs, c_nes, c_in, c_nin, t_bool, t_int, t_none, txs_length, txs_nil, p_lens, p_range, p_range2]
  intro fu hfu
  rw [w_cons, w_asg]
  simp [x_e0, x_e1, x_e2, x_e3, x_e4, x_e5, x_e6, x_e7, x_e8, x_e9, x_e10, x_e11, x_e12, x_e13, x_d0, x_d1, x_e15, xs_e0, xs_e1, ao_e0, ao_e1, xo_e0, xo_e1, xc_e0, xc_e1, wpT, wtg, b_add, b_sub, b_mul, b_div, b_mod, b_adds, c_lt, c_le, c_gt, c_ge, c_eq, c_ne, c_eqs, c_nes, c_in, c_nin, t_bool, t_int, t_none, txs_length, txs_nil, p_lens, p_range, p_range2]
  intro dn hdn
  rw [w_cons, w_asg]
  simp [x_e0, x_e1, x_e2, x_e3, x_e4, x_e5, x_e6, x_e7, x_e8, x_e9, x_e10, x_e11, x_e12, x_e13, x_d0, x_d1, x_e15, xs_e0, xs_e1, ao_e0, ao_e1, xo_e0, xo_e1, xc_e0, xc_e1, wpT, wtg, b_add, b_sub, b_mul, b_div, b_mod, b_adds, c_lt, c_le, c_gt, c_ge, c_eq, c_ne, c_eqs, c_nes, c_in, c_nin, t_bool, t_int, t_none, txs_length, txs_nil, p_lens, p_range, p_range2]
  intro nd hnd
  have n1 : fu ≠ dn := fun z => by rw [← z, up_same] at hdn; cases hdn
  have hdn' : H dn = none := by rwa [up_other (Ne.symm n1)] at hdn
  have n3 : dn ≠ nd := fun z => by rw [← z, up_same] at hnd; cases hnd
  rw [up_other (Ne.symm n3)] at hnd
  have n2 : fu ≠ nd := fun z => by rw [← z, up_same] at hnd; cases hnd
  have hnd' : H nd = none := by rwa [up_other (Ne.symm n2)] at hnd
  have hE : Ext H (up (up (up H fu (.list [])) dn (.list [])) nd (.dict 0 [])) := ((Ext.refl.own hfu).own hdn').own hnd'
  rw [w_cons, w_for]
  simp [x_e0, x_e1, x_e2, x_e3, x_e4, x_e5, x_e6, x_e7, x_e8, x_e9, x_e10, x_e11, x_e12, x_e13, x_d0, x_d1, x_e15, xs_e0, xs_e1, ao_e0, ao_e1, xo_e0, xo_e1, xc_e0, xc_e1, wpT, wtg, b_add, b_sub, b_mul, b_div, b_mod, b_adds, c_lt, c_le, c_gt, c_ge, c_eq, c_ne, c_eqs, c_nes, c_in, c_nin, t_bool, t_int, t_none, txs_length, txs_nil, p_lens, p_range, p_range2]
  refine p_len (hE _ _ hw) (by simp [txs_length]; omega) ?_
  simp [x_e0, x_e1, x_e2, x_e3, x_e4, x_e5, x_e6, x_e7, x_e8, x_e9, x_e10, x_e11, x_e12, x_e13, x_d0, x_d1, x_e15, xs_e0, xs_e1, ao_e0, ao_e1, xo_e0, xo_e1, xc_e0, xc_e1, wpT, wtg, b_add, b_sub, b_mul, b_div, b_mod, b_adds, c_lt, c_le, c_gt, c_ge, c_eq, c_ne, c_eqs, c_nes, c_in, c_nin, t_bool, t_int, t_none, txs_length, txs_nil, p_lens, p_range, p_range2]
  refine ⟨⟨by omega, by omega⟩, fun y hy => ?_⟩
  have hfu₁ : (up (up (up H fu (.list [])) dn (.list [])) nd (.dict 0 [])) fu = some (.list []) := by rw [up_other n2, up_other n1, up_same]
  have hdn₁ : (up (up (up H fu (.list [])) dn (.list [])) nd (.dict 0 [])) dn = some (.list []) := by rw [up_other n3, up_same]
  have hnd₁ : (up (up (up H fu (.list [])) dn (.list [])) nd (.dict 0 [])) nd = some (.dict 0 []) := up_same
  generalize (up (up (up H fu (.list [])) dn (.list [])) nd (.dict 0 [])) = H₁ at hE hy hfu₁ hdn₁ hnd₁ ⊢
  have yf : y ≠ fu := fun z => by rw [z, hfu₁] at hy; cases hy
  have yd : y ≠ dn := fun z => by rw [z, hdn₁] at hy; cases hy
  have yn : y ≠ nd := fun z => by rw [z, hnd₁] at hy; cases hy
  have hEy : Ext H₁ (up H₁ y (.range 0 ws.length)) := Ext.refl.new hy
  refine wforI (xs := (List.range ((ws.length : Int) - 0).toNat).map fun (k : Nat) => AV.int (0 + k)) (by simp [itemsOf, up_same])
    (fun k V' H' => ∃ x5 x6 full done f, V' = some (.ref sp) :: some (.ref wa) :: some (.ref fu) :: some (.ref dn) :: some (.ref nd) :: x5 :: x6 :: rest ∧ H' y = some (.range 0 ws.length) ∧ Blt H H' ws (ws.take k) fu dn nd full done f)
    ⟨none, none, [], [], fun _ => [], rfl, up_same, ⟨hE.trans hEy, hfu, hdn', hnd', n1, hEy _ _ hfu₁, hEy _ _ hdn₁, ⟨0, [], hEy _ _ hnd₁, rfl, by simp⟩, by simp, by simp, by simp, by simp⟩⟩ ?_
  rintro I hI k V' H' ⟨x5, x6, full, done, f, rfl, hy', B⟩
  refine ⟨by simp [sameIt, hy', up_same], fun hk => ?_, fun x hx => ?_⟩
  · simp at hk
    subst hk
    rw [List.take_length] at B
    exact q fu dn nd x5 x6 H' full done f B
  · have hk : k < ws.length := by
      have := (List.getElem?_eq_some_iff.mp hx).1
      simpa using this
    have hx' : x = .int k := by simpa [hk] using hx.symm
    subst hx'
    obtain ⟨w, hwk⟩ : ∃ w, ws[k]? = some w := ⟨ws[k], by simp [hk]⟩
    have htk := take_snoc hwk
    have hlt : full.length ≤ ws.length := (B.sfu.trans (List.take_sublist _ _)).length_le
    have hld : done.length ≤ ws.length := (B.sdn.trans (List.take_sublist _ _)).length_le
    have hws := B.ext _ _ hw
    simp [ss_e0, ss_e1, st_e0, st_e1, st_e2, st_e3, st_e4, st_e5, st_e6, x_e0, x_e1, x_e2, x_e3, x_e4, x_e5, x_e6, x_e7, x_e8, x_e9, x_e10, x_e11, x_e12, x_e13, x_d0, x_d1, x_e15, xs_e0, xs_e1, ao_e0, ao_e1, xo_e0, xo_e1, xc_e0, xc_e1, wpT, wtg, b_add, b_sub, b_mul, b_div, b_mod, b_adds, c_lt, c_le, c_gt, c_ge, c_eq, c_ne, c_eqs, c_nes, c_in, c_nin, t_bool, t_int, t_none, txs_length, txs_nil, hc2]
    have h5 : 0 ≤ c1 + (k : Int).fmod c2 := by have := fmod_lo (x := (k : Int)) h2; omega
    refine cell_ok G f2 h5 (B.ext _ _ hs) hl ?_
    refine mixed_ok G f1 ?_
    generalize mixed (cell ns (c1 + (k : Int).fmod c2).toNat) k = m
    simp [ss_e0, ss_e1, st_e0, st_e1, st_e2, st_e3, st_e4, st_e5, st_e6, x_e0, x_e1, x_e2, x_e3, x_e4, x_e5, x_e6, x_e7, x_e8, x_e9, x_e10, x_e11, x_e12, x_e13, x_d0, x_d1, x_e15, xs_e0, xs_e1, ao_e0, ao_e1, xo_e0, xo_e1, xc_e0, xc_e1, wpT, wtg, b_add, b_sub, b_mul, b_div, b_mod, b_adds, c_lt, c_le, c_gt, c_ge, c_eq, c_ne, c_eqs, c_nes, c_in, c_nin, t_bool, t_int, t_none, txs_length, txs_nil]
    by_cases hm : m.fmod 6 < 4
    · simp [hm, t_bool, ss_e0, ss_e1, st_e0, st_e1, st_e2, st_e3, st_e4, st_e5, st_e6, x_e0, x_e1, x_e2, x_e3, x_e4, x_e5, x_e6, x_e7, x_e8, x_e9, x_e10, x_e11, x_e12, x_e13, x_d0, x_d1, x_e15, xs_e0, xs_e1, ao_e0, ao_e1, xo_e0, xo_e1, xc_e0, xc_e1, wpT, wtg, b_add, b_sub, b_mul, b_div, b_mod, b_adds, c_lt, c_le, c_gt, c_ge, c_eq, c_ne, c_eqs, c_nes, c_in, c_nin, t_bool, t_int, t_none, txs_length, txs_nil, B.hfu, lmeths]
      refine sub_txs hws hwk hwl ?_
      refine m_append B.hfu (by simp [txs_length]; omega) ?_
      simp [ss_e0, ss_e1, st_e0, st_e1, st_e2, st_e3, st_e4, st_e5, st_e6, x_e0, x_e1, x_e2, x_e3, x_e4, x_e5, x_e6, x_e7, x_e8, x_e9, x_e10, x_e11, x_e12, x_e13, x_d0, x_d1, x_e15, xs_e0, xs_e1, ao_e0, ao_e1, xo_e0, xo_e1, xc_e0, xc_e1, wpT, wtg, b_add, b_sub, b_mul, b_div, b_mod, b_adds, c_lt, c_le, c_gt, c_ge, c_eq, c_ne, c_eqs, c_nes, c_in, c_nin, t_bool, t_int, t_none, txs_length, txs_nil]
      have hwf : wa ≠ fu := fun z => by have := B.ffu; rw [← z, hw] at this; cases this
      have hws' : (up H' fu (.list (txs full ++ [.str w]))) wa = some (.list (txs ws)) := by rw [up_other hwf]; exact hws
      refine needs_ok (n := n) G f3 hws' hw0 hwl fun r H₂ l hE₂ hr hr' hin hl8 => ?_
      refine sub_txs (hE₂ _ _ hws') hwk hwl ?_
      have hnd₂ : ∃ ep es, H₂ nd = some (.dict ep es) ∧ es.length ≤ full.length := by
        obtain ⟨ep, es, e1, e2, _⟩ := B.hnd
        have hnf : nd ≠ fu := fun z => by have := B.hfu; rw [← z, e1] at this; cases this
        refine ⟨ep, es, hE₂ _ _ (by rw [up_other hnf]; exact e1), ?_⟩
        have := congrArg List.length e2
        simp at this
        have := keysOf_len (l := full)
        omega
      obtain ⟨ep, es, hd₂, hle⟩ := hnd₂
      rw [txs_snoc] at hE₂ hr
      obtain ⟨_, _, rfl, B'⟩ := B.fullAdd hE₂ hr hr' hl8 hin hd₂
      simp [hd₂]
      refine ⟨by simp [sizeLine, txs_length]; omega, fun ep' => hI _ _ _ ⟨_, _, full ++ [w], done, (fun x => if x = w then l else f x), rfl, ?_, ?_⟩⟩
      · rw [up_other yn]; exact hE₂ _ _ (by rw [up_other yf]; exact hy')
      · rw [htk]; exact B' ep'
    · simp [hm, t_bool, ss_e0, ss_e1, st_e0, st_e1, st_e2, st_e3, st_e4, st_e5, st_e6, x_e0, x_e1, x_e2, x_e3, x_e4, x_e5, x_e6, x_e7, x_e8, x_e9, x_e10, x_e11, x_e12, x_e13, x_d0, x_d1, x_e15, xs_e0, xs_e1, ao_e0, ao_e1, xo_e0, xo_e1, xc_e0, xc_e1, wpT, wtg, b_add, b_sub, b_mul, b_div, b_mod, b_adds, c_lt, c_le, c_gt, c_ge, c_eq, c_ne, c_eqs, c_nes, c_in, c_nin, t_bool, t_int, t_none, txs_length, txs_nil]
      by_cases hm4 : m.fmod 6 = 4
      · simp [hm4, t_bool, ss_e0, ss_e1, st_e0, st_e1, st_e2, st_e3, st_e4, st_e5, st_e6, x_e0, x_e1, x_e2, x_e3, x_e4, x_e5, x_e6, x_e7, x_e8, x_e9, x_e10, x_e11, x_e12, x_e13, x_d0, x_d1, x_e15, xs_e0, xs_e1, ao_e0, ao_e1, xo_e0, xo_e1, xc_e0, xc_e1, wpT, wtg, b_add, b_sub, b_mul, b_div, b_mod, b_adds, c_lt, c_le, c_gt, c_ge, c_eq, c_ne, c_eqs, c_nes, c_in, c_nin, t_bool, t_int, t_none, txs_length, txs_nil, B.hdn, lmeths]
        refine sub_txs hws hwk hwl ?_
        refine m_append B.hdn (by simp [txs_length]; omega) ?_
        simp [ss_e0, ss_e1, st_e0, st_e1, st_e2, st_e3, st_e4, st_e5, st_e6, x_e0, x_e1, x_e2, x_e3, x_e4, x_e5, x_e6, x_e7, x_e8, x_e9, x_e10, x_e11, x_e12, x_e13, x_d0, x_d1, x_e15, xs_e0, xs_e1, ao_e0, ao_e1, xo_e0, xo_e1, xc_e0, xc_e1, wpT, wtg, b_add, b_sub, b_mul, b_div, b_mod, b_adds, c_lt, c_le, c_gt, c_ge, c_eq, c_ne, c_eqs, c_nes, c_in, c_nin, t_bool, t_int, t_none, txs_length, txs_nil]
        refine hI _ _ _ ⟨_, _, full, done ++ [w], f, rfl, ?_, ?_⟩
        · rw [up_other yd]; exact hy'
        · rw [htk, txs_snoc]; exact B.doneAdd
      · simp [hm4, t_bool, ss_e0, ss_e1, st_e0, st_e1, st_e2, st_e3, st_e4, st_e5, st_e6, x_e0, x_e1, x_e2, x_e3, x_e4, x_e5, x_e6, x_e7, x_e8, x_e9, x_e10, x_e11, x_e12, x_e13, x_d0, x_d1, x_e15, xs_e0, xs_e1, ao_e0, ao_e1, xo_e0, xo_e1, xc_e0, xc_e1, wpT, wtg, b_add, b_sub, b_mul, b_div, b_mod, b_adds, c_lt, c_le, c_gt, c_ge, c_eq, c_ne, c_eqs, c_nes, c_in, c_nin, t_bool, t_int, t_none, txs_length, txs_nil]
        refine hI _ _ _ ⟨_, _, full, done, f, rfl, hy', ?_⟩
        rw [htk]; exact B.skip fun h => (nodup_left h).1
end
end Mine

namespace Mine

section
variable {H₀ H H' : AHeap} {ws tk : List Str} {fu dn nd d d' : Addr} {full done : List Str} {f : Str → List Str}
/-- what is needed under a name -/
theorem sub_needs {Q : AV → AHeap → Prop} {x : Str} (h : NeedsAt H d f full) (hx : x ∈ full) (q : ∀ r, H r = some (.list (txs (f x))) → (f x).length ≤ 1000 → Q (.ref r) H) : wsub (.ref d) (.str x) Q H := by
  obtain ⟨ep, es, e1, e2⟩ := h
  obtain ⟨r, h1, h2, h3⟩ := e2 x hx
  simp only [wsub, e1]
  exact ⟨_, h1, q r h2 h3⟩
end

section
variable {g : Gx} {H₀ H : AHeap} {QN : VV → AHeap → Prop} {QR : AV → AHeap → Prop} {EE : String → VV → AHeap → Prop} {ws tk : List Str} {fu dn nd : Addr} {full done : List Str} {f : Str → List Str} {x0 x1 x5 x6 : Option AV} {rest : VV}

end
end Mine

namespace Mine

/-! ## the search for a way out -/
noncomputable def lastD (w : List Str) : Str := w.getLast?.getD ⟨#[]⟩
noncomputable def bstep (done w : List Str) (p : List (List Str) × List Str) (o : Str) : List (List Str) × List Str := if o ∈ p.2 ∨ o ∈ done then p else (p.1 ++ [w ++ [o]], p.2 ++ [o])
noncomputable def bfs (full : List Str) (nd : Str → List Str) (done : List Str) : Nat → List (List Str) → List Str → Nat → List Str
  | 0, _, _, _ => []
  | fuel + 1, W, seen, place => match W[place]? with
    | none => []
    | some w => if lastD w ∈ full then bfs full nd done fuel ((nd (lastD w)).foldl (bstep done w) (W, seen)).1 ((nd (lastD w)).foldl (bstep done w) (W, seen)).2 (place + 1) else w
noncomputable def bfsOf (full : List Str) (nd : Str → List Str) (done : List Str) (N : Nat) (name : Str) : List Str := bfs full nd done (N + 1) [[name]] [name] 0

/-- what always holds of the ways -/
structure WaysOk (dom : List Str) (W : List (List Str)) (seen : List Str) : Prop where
  len : W.length = seen.length
  nodup : seen.Nodup
  dom : ∀ x ∈ seen, x ∈ dom
  last : ∀ (i : Nat) w, W[i]? = some w → w ≠ [] ∧ w.length ≤ i + 1 ∧ seen[i]? = some (lastD w)
theorem len_sub : ∀ {l m : List Str}, l.Nodup → (∀ x ∈ l, x ∈ m) → l.length ≤ m.length
  | [], m, _, _ => Nat.zero_le _
  | x :: t, m, h, k => by
    rw [List.nodup_cons] at h
    have hx := k x (.head _)
    have := len_sub (l := t) (m := m.erase x) h.2 fun y hy => by
      rw [List.mem_erase_of_ne (fun z => h.1 (by rw [← z]; exact hy))]
      exact k y (.tail _ hy)
    rw [List.length_erase_of_mem hx] at this
    have := List.length_pos_of_mem hx
    simp only [List.length_cons]; omega
theorem WaysOk.small {dom : List Str} {W : List (List Str)} {seen : List Str} (h : WaysOk dom W seen) : W.length ≤ dom.length := by
  rw [h.len]
  exact len_sub h.nodup h.dom
theorem lastD_snoc {w : List Str} {o : Str} : lastD (w ++ [o]) = o := by simp [lastD]
theorem WaysOk.step {dom done : List Str} {W : List (List Str)} {seen w : List Str} {o : Str} {k : Nat} (h : WaysOk dom W seen) (ho : o ∈ dom) (hw : w.length ≤ k + 1) (hk : k < W.length) : WaysOk dom (bstep done w (W, seen) o).1 (bstep done w (W, seen) o).2 := by
  unfold bstep
  split
  · exact h
  · rename_i hn
    simp only [not_or] at hn
    refine ⟨by simp [h.len], ?_, ?_, ?_⟩
    · rw [List.nodup_append]
      exact ⟨h.nodup, by simp, by rintro a ha b hb rfl; simp at hb; subst hb; exact hn.1 ha⟩
    · intro x hx
      rcases List.mem_append.mp hx with hx | hx
      · exact h.dom x hx
      · simp at hx; subst hx; exact ho
    · intro i w' hi
      rcases Nat.lt_or_ge i W.length with hlt | hge
      · rw [List.getElem?_append_left hlt] at hi
        obtain ⟨h1, h2, h3⟩ := h.last i w' hi
        exact ⟨h1, h2, by rw [List.getElem?_append_left (by rw [← h.len]; exact hlt)]; exact h3⟩
      · rw [List.getElem?_append_right hge] at hi
        have : i - W.length = 0 := by
          have := (List.getElem?_eq_some_iff.mp hi).1
          simp at this; omega
        rw [this] at hi
        simp at hi
        subst hi
        refine ⟨by simp, by simp [txs_length]; omega, ?_⟩
        rw [lastD_snoc, List.getElem?_append_right (by rw [← h.len]; exact hge), ← h.len, this]; rfl
theorem bstep_mono {done w : List Str} {p : List (List Str) × List Str} {o : Str} : p.1 <+: (bstep done w p o).1 ∧ p.2 <+: (bstep done w p o).2 := by
  unfold bstep; split
  · exact ⟨List.prefix_refl _, List.prefix_refl _⟩
  · exact ⟨List.prefix_append _ _, List.prefix_append _ _⟩
theorem bfold_mono {done w : List Str} : ∀ {ns : List Str} {p : List (List Str) × List Str}, p.1 <+: (ns.foldl (bstep done w) p).1 ∧ p.2 <+: (ns.foldl (bstep done w) p).2
  | [], p => ⟨List.prefix_refl _, List.prefix_refl _⟩
  | o :: r, p => by
    obtain ⟨h1, h2⟩ := bstep_mono (done := done) (w := w) (p := p) (o := o)
    obtain ⟨h3, h4⟩ := bfold_mono (done := done) (w := w) (ns := r) (p := bstep done w p o)
    exact ⟨h1.trans h3, h2.trans h4⟩
theorem WaysOk.fold {dom done w : List Str} {k : Nat} : ∀ {ns : List Str} {p : List (List Str) × List Str}, WaysOk dom p.1 p.2 → (∀ o ∈ ns, o ∈ dom) → w.length ≤ k + 1 → k < p.1.length → WaysOk dom (ns.foldl (bstep done w) p).1 (ns.foldl (bstep done w) p).2
  | [], p, h, _, _, _ => h
  | o :: r, p, h, hn, hw, hk => by
    have h1 := h.step (done := done) (w := w) (hn o (.head _)) hw hk
    exact WaysOk.fold (ns := r) (p := bstep done w p o) h1 (fun o ho => hn o (.tail _ ho)) hw (Nat.lt_of_lt_of_le hk (bstep_mono (done := done)).1.length_le)

theorem grt_exists (full : List Str) (nd : Str → List Str) (done : List Str) : ∃ g, Grt full nd done g := by
  classical
  refine ⟨full.filter fun x => decide (∃ S, Closed full nd done S ∧ S x), List.filter_sublist, fun x hx o ho => ?_, fun S hS x hx => ?_⟩
  · rw [List.mem_filter, decide_eq_true_eq] at hx
    obtain ⟨_, S, hS, hx⟩ := hx
    rcases (hS x hx).2 o ho with z | z
    · left; rw [List.mem_filter, decide_eq_true_eq]; exact ⟨(hS o z).1, S, hS, z⟩
    · exact .inr z
  · rw [List.mem_filter, decide_eq_true_eq]; exact ⟨(hS x hx).1, S, hS, hx⟩

noncomputable def chainFn : Fn := ⟨4, ["name", "full", "needs", "done", "ready", "whole", "ways", "seen", "place", "way", "last", "one"], [
  .assign (.var 4) (.call "table_of" [(.var 3)]),
  .ite (.ao false [(.cmp .In (.var 0) (.var 4)), (.cmp .In (.var 0) (.call "greatest" [(.var 1), (.var 2), (.var 3)]))]) [.ret (.list [])] [],
  .assign (.var 5) (.call "table_of" [(.var 1)]),
  .assign (.var 6) (.list [(.list [(.var 0)])]),
  .assign (.var 7) (.dict [(.var 0)] [(.lit (.bool true))]),
  .assign (.var 8) (.lit (.int 0)),
  .while (.cmp .Lt (.var 8) (.prim "len" [(.var 6)])) [.assign (.var 9) (.sub (.var 6) (.var 8)),
    .assign (.var 10) (.sub (.var 9) (.neg (.lit (.int 1)))),
    .ite (.cmp .NotIn (.var 10) (.var 5)) [.ret (.prim "list" [(.var 9)])] [],
    .for (.var 11) (.sub (.var 2) (.var 10)) [.ite (.ao true [(.cmp .NotIn (.var 11) (.var 7)), (.cmp .NotIn (.var 11) (.var 4))]) [.assign (.sub (.var 7) (.var 11)) (.lit (.bool true)),
        .expr (.meth (.var 6) "append" [(.bin .Add (.var 9) (.list [(.var 11)]))])] []],
    .assign (.var 8) (.bin .Add (.var 8) (.lit (.int 1)))],
  .ret (.list [])]⟩

/-- the ways as they lie on the heap -/
structure RowsAt (H : AHeap) (wy : Addr) (W : List (List Str)) : Prop where
  at' : ∃ refs, H wy = some (.list refs) ∧ refs.length = W.length ∧ ∀ (i : Nat) w, W[i]? = some w → ∃ a, refs[i]? = some (.ref a) ∧ H a = some (.list (txs w)) ∧ a ≠ wy

theorem RowsAt.ext {H H' : AHeap} {wy : Addr} {W : List (List Str)} (h : RowsAt H wy W) (e : Ext H H') : RowsAt H' wy W := by
  obtain ⟨refs, h1, h2, h3⟩ := h
  refine ⟨refs, e _ _ h1, h2, fun i w hi => ?_⟩
  obtain ⟨a, h4, h5, h6⟩ := h3 i w hi
  exact ⟨a, h4, e _ _ h5, h6⟩
theorem RowsAt.put {H : AHeap} {wy sn : Addr} {W : List (List Str)} {ep ep' : Nat} {es es' : List (Str × AV)} (h : RowsAt H wy W) (hs : H sn = some (.dict ep es)) : RowsAt (up H sn (.dict ep' es')) wy W := by
  obtain ⟨refs, h1, h2, h3⟩ := h
  refine ⟨refs, by rw [up_other (fun z => by rw [z, hs] at h1; cases h1)]; exact h1, h2, fun i w hi => ?_⟩
  obtain ⟨a, h4, h5, h6⟩ := h3 i w hi
  exact ⟨a, h4, by rw [up_other (fun z => by rw [z, hs] at h5; cases h5)]; exact h5, h6⟩
theorem RowsAt.push {H : AHeap} {wy z : Addr} {W : List (List Str)} {w : List Str} {refs : List AV} (h : RowsAt H wy W) (hw : H wy = some (.list refs)) (hz : H z = some (.list (txs w))) (hne : z ≠ wy) : RowsAt (up H wy (.list (refs ++ [.ref z]))) wy (W ++ [w]) := by
  obtain ⟨refs', h1, h2, h3⟩ := h
  rw [hw] at h1; cases h1
  refine ⟨_, up_same, by simp [h2], fun i w' hi => ?_⟩
  rcases Nat.lt_or_ge i W.length with hlt | hge
  · rw [List.getElem?_append_left hlt] at hi
    obtain ⟨a, h4, h5, h6⟩ := h3 i w' hi
    exact ⟨a, by rw [List.getElem?_append_left (by rw [h2]; exact hlt)]; exact h4, by rw [up_other h6]; exact h5, h6⟩
  · rw [List.getElem?_append_right hge] at hi
    have : i - W.length = 0 := by
      have := (List.getElem?_eq_some_iff.mp hi).1
      simp at this; omega
    rw [this] at hi
    simp at hi
    subst hi
    exact ⟨z, by rw [List.getElem?_append_right (by rw [h2]; exact hge), h2, this]; rfl, by rw [up_other hne]; exact hz, hne⟩
theorem TabIs.own {H : AHeap} {z a : Addr} {o : AObj} {l : List Str} (h : TabIs H z l) (hz : z ≠ a) : TabIs (up H a o) z l := by
  obtain ⟨ep, es, h1, h2⟩ := h
  exact ⟨ep, es, by rw [up_other hz]; exact h1, h2⟩
theorem TabIs.ne {H : AHeap} {z a : Addr} {xs : List AV} {l : List Str} (h : TabIs H z l) (ha : H a = some (.list xs)) : z ≠ a := fun e => by
  obtain ⟨ep, es, h1, h2⟩ := h
  rw [e, ha] at h1; cases h1

section
variable {c : Cx} {P : Pg} (G : Gd c P) {n : Nat} {Q : AV → AHeap → Prop} {E : String → AHeap → Prop} {H : AHeap}

theorem sub_at {a : Addr} {xs : List AV} {k : Nat} {v : AV} (h : H a = some (.list xs)) (hk : xs[k]? = some v) (hl : xs.length ≤ 100000) (q : Q v H) : wsub (.ref a) (.int k) Q H := by
  have hlt : k < xs.length := (List.getElem?_eq_some_iff.mp hk).1
  simp only [wsub, h]
  exact ⟨k, v, by simp [pyIdx, hlt], by omega, by omega, hk, q⟩
theorem sub_last {a : Addr} {w : List Str} (h : H a = some (.list (txs w))) (hw : w ≠ []) (hl : w.length ≤ 100000) (q : Q (.str (lastD w)) H) : wsub (.ref a) (.int (-1)) Q H := by
  have hp : 0 < w.length := List.length_pos_iff.mpr hw
  simp only [wsub, h]
  refine ⟨w.length - 1, .str (lastD w), ?_, by omega, by omega, ?_, q⟩
  · simp only [pyIdx, txs_length]
    rw [if_neg (by omega), if_pos (by omega)]
    congr 1; omega
  · have e : (txs w)[w.length - 1]? = (w[w.length - 1]?).map AV.str := by simp [txs]
    rw [e]
    simp [lastD, List.getLast?_eq_getElem?, List.getElem?_eq_getElem (show w.length - 1 < w.length by omega)]
theorem sub_needs' {H' : AHeap} {d : Addr} {f : Str → List Str} {full : List Str} {x : Str} (h : NeedsAt H d f full) (hE : Ext H H') (hx : x ∈ full) (q : ∀ r, H r = some (.list (txs (f x))) → (f x).length ≤ 1000 → Q (.ref r) H') : wsub (.ref d) (.str x) Q H' := by
  obtain ⟨ep, es, e1, e2⟩ := h
  obtain ⟨r, h1, h2, h3⟩ := e2 x hx
  simp only [wsub, hE _ _ e1]
  exact ⟨_, h1, q r h2 h3⟩

noncomputable def CInv (H : AHeap) (R dom full done : List Str) (nd : Str → List Str) (name : Str) (fu d dn rd wh wy sn : Addr) (m : Nat) (V' : VV) (H' : AHeap) : Prop :=
  ∃ W seen place x9 x10 x11, V' = [some (.str name), some (.ref fu), some (.ref d), some (.ref dn), some (.ref rd), some (.ref wh), some (.ref wy), some (.ref sn), some (.int (place : Nat)), x9, x10, x11] ∧
    Ext H H' ∧ TabIs H' rd done ∧ TabIs H' wh full ∧ TabIs H' sn seen ∧ RowsAt H' wy W ∧ WaysOk dom W seen ∧ place ≤ W.length ∧ m + place = dom.length + 1 ∧ bfs full nd done m W seen place = R

theorem put_tab {H : AHeap} {sn : Addr} {ep' : Nat} {es : List (Str × AV)} {seen : List Str} {o : Str} {v : AV} (h2 : es.length ≤ seen.length) (h3 : ∀ k, (lookS es k).isSome = decide (k ∈ seen)) : TabIs (up H sn (.dict ep' (putS es o v))) sn (seen ++ [o]) := by
  refine ⟨ep', _, up_same, by have := put_len (es := es) (k := o) (v := v); simp; omega, fun k => ?_⟩
  rw [look_mem, put_keys, Bool.eq_iff_iff]
  simp only [decide_eq_true_eq, mem_addKey, List.mem_append, List.mem_singleton]
  have := h3 k
  rw [look_mem, Bool.eq_iff_iff] at this
  simp only [decide_eq_true_eq] at this
  rw [this]
include G in
theorem chain_ok (h0 : P.fns.lookup "chain" = some chainFn) (h1 : P.fns.lookup "greatest" = some greatestFn) (h2 : P.fns.lookup "are_met" = some metFn) (h3 : P.fns.lookup "table_of" = some tableFn) {fu d dn : Addr} {full done dom : List Str} {nd : Str → List Str} {name : Str}
    (hf : H fu = some (.list (txs full))) (hd : NeedsAt H d nd full) (hn : H dn = some (.list (txs done))) (lf : full.length ≤ 1000) (ld : done.length ≤ 1000) (hdom : name ∈ dom) (hdom' : ∀ x ∈ full, ∀ o ∈ nd x, o ∈ dom) (hdl : dom.length ≤ 1000)
    (q : ∀ z H' g, Ext H H' → H z = none → Grt full nd done g → H' z = some (.list (txs (if name ∈ done ∨ name ∈ g then [] else bfsOf full nd done dom.length name))) → Q (.ref z) H') : CallOK c (n + 3) true "chain" [.str name, .ref fu, .ref d, .ref dn] Q E H := by
  refine G.call (F := chainFn) h0 rfl ?_
  show wpSs _ (_ :: _ :: _ :: _ :: _ :: _ :: _ :: _ :: []) _ _ _ [some (.str name), some (.ref fu), some (.ref d), some (.ref dn), none, none, none, none, none, none, none, none] _
  (try subst hK); refine w_gen fun K hK => ?_; rw [w_asg]
  simp [x_e0, x_e1, x_e2, x_e3, x_e4, x_e5, x_e6, x_e7, x_e8, x_e9, x_e10, x_e11, x_e12, x_e13, x_d0, x_d1, x_e15, xs_e0, xs_e1, ao_e0, ao_e1, xo_e0, xo_e1, xc_e0, xc_e1, wpT, wtg, b_add, b_sub, b_mul, b_div, b_mod, b_adds, c_lt, c_le, c_gt, c_ge, c_eq, c_ne, c_eqs, c_nes, c_in, c_nin, t_bool, t_int, t_none, txs_length, txs_nil, p_lens, p_range, p_range2]
  refine table_ok (n := n + 1) G h3 hn ld fun rd H₁ hE₁ hrd ht₁ => ?_
  (try subst hK); refine w_gen fun K hK => ?_; rw [w_ite]
  simp [x_e0, x_e1, x_e2, x_e3, x_e4, x_e5, x_e6, x_e7, x_e8, x_e9, x_e10, x_e11, x_e12, x_e13, x_d0, x_d1, x_e15, xs_e0, xs_e1, ao_e0, ao_e1, xo_e0, xo_e1, xc_e0, xc_e1, wpT, wtg, b_add, b_sub, b_mul, b_div, b_mod, b_adds, c_lt, c_le, c_gt, c_ge, c_eq, c_ne, c_eqs, c_nes, c_in, c_nin, t_bool, t_int, t_none, txs_length, txs_nil]
  refine win_tab ht₁ ?_
  by_cases hnd : name ∈ done
  · simp [hnd, t_bool]
    (try subst hK); refine w_gen fun K hK => ?_; rw [w_ret]
    simp [x_e0, x_e1, x_e2, x_e3, x_e4, x_e5, x_e6, x_e7, x_e8, x_e9, x_e10, x_e11, x_e12, x_e13, x_d0, x_d1, x_e15, xs_e0, xs_e1, ao_e0, ao_e1, xo_e0, xo_e1, xc_e0, xc_e1, wpT, wtg, b_add, b_sub, b_mul, b_div, b_mod, b_adds, c_lt, c_le, c_gt, c_ge, c_eq, c_ne, c_eqs, c_nes, c_in, c_nin, t_bool, t_int, t_none, txs_length, txs_nil]
    intro z hz
    obtain ⟨g, Gr⟩ := grt_exists full nd done
    refine q z _ g (hE₁.new hz) (hE₁.none hz) Gr ?_
    simp [hnd, up_same, txs_nil]
  · simp [hnd, t_bool]
    refine greatest_ok (n := n) G h1 h2 h3 (hE₁ _ _ hf) (hd.ext hE₁) (hE₁ _ _ hn) lf ld fun go H₂ g hE₂ _ hgo Gr => ?_
    refine win_txs hgo ?_
    have hE := hE₁.trans hE₂
    by_cases hng : name ∈ g
    · simp [hng, t_bool]
      (try subst hK); refine w_gen fun K hK => ?_; rw [w_ret]
      simp [x_e0, x_e1, x_e2, x_e3, x_e4, x_e5, x_e6, x_e7, x_e8, x_e9, x_e10, x_e11, x_e12, x_e13, x_d0, x_d1, x_e15, xs_e0, xs_e1, ao_e0, ao_e1, xo_e0, xo_e1, xc_e0, xc_e1, wpT, wtg, b_add, b_sub, b_mul, b_div, b_mod, b_adds, c_lt, c_le, c_gt, c_ge, c_eq, c_ne, c_eqs, c_nes, c_in, c_nin, t_bool, t_int, t_none, txs_length, txs_nil]
      intro z hz
      refine q z _ g (hE.new hz) (hE.none hz) Gr ?_
      simp [hng, up_same, txs_nil]
    · simp [hng, t_bool]
      (try subst hK); (try show wpSs _ _ _ _ _ _ _); rw [w_nil]; refine w_gen fun K hK => ?_; rw [w_asg]
      simp [x_e0, x_e1, x_e2, x_e3, x_e4, x_e5, x_e6, x_e7, x_e8, x_e9, x_e10, x_e11, x_e12, x_e13, x_d0, x_d1, x_e15, xs_e0, xs_e1, ao_e0, ao_e1, xo_e0, xo_e1, xc_e0, xc_e1, wpT, wtg, b_add, b_sub, b_mul, b_div, b_mod, b_adds, c_lt, c_le, c_gt, c_ge, c_eq, c_ne, c_eqs, c_nes, c_in, c_nin, t_bool, t_int, t_none, txs_length, txs_nil, p_lens, p_range, p_range2]
      refine table_ok (n := n + 1) G h3 (hE _ _ hf) lf fun wh H₃ hE₃ hwh hw₃ => ?_
      have hE' := hE.trans hE₃
      have hr₃ := (ht₁.ext hE₂).ext hE₃
      (try subst hK); refine w_gen fun K hK => ?_; rw [w_asg]
      simp [x_e0, x_e1, x_e2, x_e3, x_e4, x_e5, x_e6, x_e7, x_e8, x_e9, x_e10, x_e11, x_e12, x_e13, x_d0, x_d1, x_e15, xs_e0, xs_e1, ao_e0, ao_e1, xo_e0, xo_e1, xc_e0, xc_e1, wpT, wtg, b_add, b_sub, b_mul, b_div, b_mod, b_adds, c_lt, c_le, c_gt, c_ge, c_eq, c_ne, c_eqs, c_nes, c_in, c_nin, t_bool, t_int, t_none, txs_length, txs_nil, p_lens, p_range, p_range2]
      intro a ha wy hwy
      have hwya : a ≠ wy := fun z => by rw [← z, up_same] at hwy; cases hwy
      have hwy' : H₃ wy = none := by rwa [up_other (Ne.symm hwya)] at hwy
      (try subst hK); refine w_gen fun K hK => ?_; rw [w_asg]
      simp [x_e0, x_e1, x_e2, x_e3, x_e4, x_e5, x_e6, x_e7, x_e8, x_e9, x_e10, x_e11, x_e12, x_e13, x_d0, x_d1, x_e15, xs_e0, xs_e1, ao_e0, ao_e1, xo_e0, xo_e1, xc_e0, xc_e1, wpT, wtg, b_add, b_sub, b_mul, b_div, b_mod, b_adds, c_lt, c_le, c_gt, c_ge, c_eq, c_ne, c_eqs, c_nes, c_in, c_nin, t_bool, t_int, t_none, txs_length, txs_nil, p_lens, p_range, p_range2]
      intro sn ep hsn
      have hsna : a ≠ sn := fun z => by rw [← z, up_other hwya, up_same] at hsn; cases hsn
      have hsnw : wy ≠ sn := fun z => by rw [← z, up_same] at hsn; cases hsn
      have hsn' : H₃ sn = none := by rwa [up_other (Ne.symm hsnw), up_other (Ne.symm hsna)] at hsn
      (try subst hK); refine w_gen fun K hK => ?_; rw [w_asg]
      simp [x_e0, x_e1, x_e2, x_e3, x_e4, x_e5, x_e6, x_e7, x_e8, x_e9, x_e10, x_e11, x_e12, x_e13, x_d0, x_d1, x_e15, xs_e0, xs_e1, ao_e0, ao_e1, xo_e0, xo_e1, xc_e0, xc_e1, wpT, wtg, b_add, b_sub, b_mul, b_div, b_mod, b_adds, c_lt, c_le, c_gt, c_ge, c_eq, c_ne, c_eqs, c_nes, c_in, c_nin, t_bool, t_int, t_none, txs_length, txs_nil, p_lens, p_range, p_range2]
      have E₄ : Ext H₃ (up (up (up H₃ a (.list [.str name])) wy (.list [.ref a])) sn (.dict ep [(name, .bool true)])) := ((Ext.refl.own ha).own hwy').own hsn'
      (try subst hK); refine w_gen fun K hK => ?_; rw [w_while]
      refine ⟨rfl, ?_⟩
      refine ⟨CInv H (bfsOf full nd done dom.length name) dom full done nd name fu d dn rd wh wy sn, ⟨dom.length + 1, [[name]], [name], 0, none, none, none, rfl, hE'.trans E₄, hr₃.ext E₄, hw₃.ext E₄, ?_, ?_, ?_, by simp, by simp, rfl⟩, ?_⟩
      · exact ⟨ep, _, up_same, by simp, fun k => by rw [look_mem]; simp⟩
      · refine ⟨[.ref a], by rw [up_other hsnw, up_same], rfl, fun i w hi => ?_⟩
        have : i = 0 := by have := (List.getElem?_eq_some_iff.mp hi).1; simp at this; omega
        subst this
        simp at hi
        subst hi
        exact ⟨a, rfl, by rw [up_other hsna, up_other hwya, up_same]; rfl, hwya⟩
      · refine ⟨rfl, by simp, by simpa using hdom, fun i w hi => ?_⟩
        have : i = 0 := by have := (List.getElem?_eq_some_iff.mp hi).1; simp at this; omega
        subst this
        simp at hi
        subst hi
        exact ⟨by simp, by simp, by simp [lastD]⟩
      · have hwyH : H wy = none := hE'.none hwy'
        have hsnH : H sn = none := hE'.none hsn'
        clear hwya hsna E₄ hwy hsn ha
        rintro m V' H' ⟨W, seen, place, x9, x10, x11, rfl, hX, hR, hW, hS, ⟨refs, r1, r2, r3⟩, wk, hpl, hm, hres⟩
        have hsm := wk.small
        have hmne : m ≠ 0 := by omega
        obtain ⟨m', rfl⟩ := Nat.exists_eq_succ_of_ne_zero hmne
        simp [x_e0, x_e1, x_e2, x_e3, x_e4, x_e5, x_e6, x_e7, x_e8, x_e9, x_e10, x_e11, x_e12, x_e13, x_d0, x_d1, x_e15, xs_e0, xs_e1, ao_e0, ao_e1, xo_e0, xo_e1, xc_e0, xc_e1, wpT, wtg, b_add, b_sub, b_mul, b_div, b_mod, b_adds, c_lt, c_le, c_gt, c_ge, c_eq, c_ne, c_eqs, c_nes, c_in, c_nin, t_bool, t_int, t_none, txs_length, txs_nil, p_lens, p_range, p_range2]
        refine p_len r1 (by omega) ?_
        simp [x_e0, x_e1, x_e2, x_e3, x_e4, x_e5, x_e6, x_e7, x_e8, x_e9, x_e10, x_e11, x_e12, x_e13, x_d0, x_d1, x_e15, xs_e0, xs_e1, ao_e0, ao_e1, xo_e0, xo_e1, xc_e0, xc_e1, wpT, wtg, b_add, b_sub, b_mul, b_div, b_mod, b_adds, c_lt, c_le, c_gt, c_ge, c_eq, c_ne, c_eqs, c_nes, c_in, c_nin, t_bool, t_int, t_none, txs_length, txs_nil, p_lens, p_range, p_range2, r2]
        by_cases hlt : place < W.length
        · simp [hlt]
          obtain ⟨w, hw⟩ : ∃ w, W[place]? = some w := ⟨W[place], by simp [hlt]⟩
          obtain ⟨aw, ra, rb, rc⟩ := r3 place w hw
          obtain ⟨w1, w2, w3⟩ := wk.last place w hw
          have hb := hres
          unfold bfs at hb
          rw [hw] at hb
          simp only at hb
          have hrs : rd ≠ sn := by
            obtain ⟨_, _, e, _⟩ := hr₃; exact ne_of e hsn'
          have hws : wh ≠ sn := by
            obtain ⟨_, _, e, _⟩ := hw₃; exact ne_of e hsn'
          (try subst hK); refine w_gen fun K hK => ?_; rw [w_asg]
          simp [x_e0, x_e1, x_e2, x_e3, x_e4, x_e5, x_e6, x_e7, x_e8, x_e9, x_e10, x_e11, x_e12, x_e13, x_d0, x_d1, x_e15, xs_e0, xs_e1, ao_e0, ao_e1, xo_e0, xo_e1, xc_e0, xc_e1, wpT, wtg, b_add, b_sub, b_mul, b_div, b_mod, b_adds, c_lt, c_le, c_gt, c_ge, c_eq, c_ne, c_eqs, c_nes, c_in, c_nin, t_bool, t_int, t_none, txs_length, txs_nil, p_lens, p_range, p_range2]
          refine sub_at r1 ra (by omega) ?_
          (try subst hK); refine w_gen fun K hK => ?_; rw [w_asg]
          simp [x_e0, x_e1, x_e2, x_e3, x_e4, x_e5, x_e6, x_e7, x_e8, x_e9, x_e10, x_e11, x_e12, x_e13, x_d0, x_d1, x_e15, xs_e0, xs_e1, ao_e0, ao_e1, xo_e0, xo_e1, xc_e0, xc_e1, wpT, wtg, b_add, b_sub, b_mul, b_div, b_mod, b_adds, c_lt, c_le, c_gt, c_ge, c_eq, c_ne, c_eqs, c_nes, c_in, c_nin, t_bool, t_int, t_none, txs_length, txs_nil, p_lens, p_range, p_range2]
          refine sub_last rb w1 (by omega) ?_
          (try subst hK); refine w_gen fun K hK => ?_; rw [w_ite]
          simp [x_e0, x_e1, x_e2, x_e3, x_e4, x_e5, x_e6, x_e7, x_e8, x_e9, x_e10, x_e11, x_e12, x_e13, x_d0, x_d1, x_e15, xs_e0, xs_e1, ao_e0, ao_e1, xo_e0, xo_e1, xc_e0, xc_e1, wpT, wtg, b_add, b_sub, b_mul, b_div, b_mod, b_adds, c_lt, c_le, c_gt, c_ge, c_eq, c_ne, c_eqs, c_nes, c_in, c_nin, t_bool, t_int, t_none, txs_length, txs_nil]
          refine win_tab hW ?_
          by_cases hin : lastD w ∈ full
          · simp [hin, t_bool]
            simp only [hin, if_true] at hb
            (try subst hK); (try show wpSs _ _ _ _ _ _ _); rw [w_nil]; refine w_gen fun K hK => ?_; rw [w_for]
            simp [x_e0, x_e1, x_e2, x_e3, x_e4, x_e5, x_e6, x_e7, x_e8, x_e9, x_e10, x_e11, x_e12, x_e13, x_d0, x_d1, x_e15, xs_e0, xs_e1, ao_e0, ao_e1, xo_e0, xo_e1, xc_e0, xc_e1, wpT, wtg, b_add, b_sub, b_mul, b_div, b_mod, b_adds, c_lt, c_le, c_gt, c_ge, c_eq, c_ne, c_eqs, c_nes, c_in, c_nin, t_bool, t_int, t_none, txs_length, txs_nil, p_lens, p_range, p_range2]
            refine sub_needs' hd hX hin fun r hr hr8 => ?_
            refine wforI (xs := txs (nd (lastD w))) (by simp [itemsOf, hX _ _ hr]) (fun k V'' H'' => ∃ x11, V'' = [some (.str name), some (.ref fu), some (.ref d), some (.ref dn), some (.ref rd), some (.ref wh), some (.ref wy), some (.ref sn), some (.int (place : Nat)), some (.ref aw), some (.str (lastD w)), x11] ∧
              Ext H H'' ∧ TabIs H'' rd done ∧ TabIs H'' wh full ∧ H'' aw = some (.list (txs w)) ∧ TabIs H'' sn (((nd (lastD w)).take k).foldl (bstep done w) (W, seen)).2 ∧ RowsAt H'' wy (((nd (lastD w)).take k).foldl (bstep done w) (W, seen)).1)
              ⟨x11, rfl, hX, hR, hW, rb, hS, ⟨refs, r1, r2, r3⟩⟩ ?_
            rintro I hI k V'' H'' ⟨x11', rfl, hX₂, hR₂, hW₂, hA₂, hS₂, hRow⟩
            refine ⟨by simp [sameIt, hX₂ _ _ hr, hX _ _ hr], fun hk => ?_, fun y hy => ?_⟩
            · rw [hk, txs_length, List.take_length] at hS₂ hRow
              (try subst hK); refine w_gen fun K hK => ?_; rw [w_asg]
              simp [x_e0, x_e1, x_e2, x_e3, x_e4, x_e5, x_e6, x_e7, x_e8, x_e9, x_e10, x_e11, x_e12, x_e13, x_d0, x_d1, x_e15, xs_e0, xs_e1, ao_e0, ao_e1, xo_e0, xo_e1, xc_e0, xc_e1, wpT, wtg, b_add, b_sub, b_mul, b_div, b_mod, b_adds, c_lt, c_le, c_gt, c_ge, c_eq, c_ne, c_eqs, c_nes, c_in, c_nin, t_bool, t_int, t_none, txs_length, txs_nil, p_lens, p_range, p_range2]
              (try subst hK); (try show wpSs _ _ _ _ _ _ _); rw [w_nil]
              have hpre := bfold_mono (done := done) (w := w) (ns := nd (lastD w)) (p := (W, seen))
              exact ⟨m', by omega, _, _, place + 1, _, _, _, rfl, hX₂, hR₂, hW₂, hS₂, hRow, WaysOk.fold (p := (W, seen)) wk (hdom' _ hin) w2 hlt, Nat.lt_of_lt_of_le hlt hpre.1.length_le, by omega, hb⟩
            · obtain ⟨o, rfl, ho⟩ := txs_get hy
              have htk : ((nd (lastD w)).take (k + 1)).foldl (bstep done w) (W, seen) = bstep done w (((nd (lastD w)).take k).foldl (bstep done w) (W, seen)) o := by
                rw [take_snoc ho, List.foldl_append]; rfl
              have wk₂ : WaysOk dom _ _ := WaysOk.fold (p := (W, seen)) (done := done) (w := w) wk (ns := (nd (lastD w)).take k) (fun o ho => hdom' _ hin o (List.mem_of_mem_take ho)) w2 hlt
              replace hI := hI (k + 1)
              rw [htk] at hI
              generalize ((nd (lastD w)).take k).foldl (bstep done w) (W, seen) = p at hS₂ hRow wk₂ hI
              obtain ⟨W₂, seen₂⟩ := p
              have hsm₂ := wk₂.small
              simp only at hS₂ hRow wk₂ hsm₂
              simp [x_e0, x_e1, x_e2, x_e3, x_e4, x_e5, x_e6, x_e7, x_e8, x_e9, x_e10, x_e11, x_e12, x_e13, x_d0, x_d1, x_e15, xs_e0, xs_e1, ao_e0, ao_e1, xo_e0, xo_e1, xc_e0, xc_e1, wpT, wtg, b_add, b_sub, b_mul, b_div, b_mod, b_adds, c_lt, c_le, c_gt, c_ge, c_eq, c_ne, c_eqs, c_nes, c_in, c_nin, t_bool, t_int, t_none, txs_length, txs_nil]
              rw [w_cons, w_ite]
              simp [x_e0, x_e1, x_e2, x_e3, x_e4, x_e5, x_e6, x_e7, x_e8, x_e9, x_e10, x_e11, x_e12, x_e13, x_d0, x_d1, x_e15, xs_e0, xs_e1, ao_e0, ao_e1, xo_e0, xo_e1, xc_e0, xc_e1, wpT, wtg, b_add, b_sub, b_mul, b_div, b_mod, b_adds, c_lt, c_le, c_gt, c_ge, c_eq, c_ne, c_eqs, c_nes, c_in, c_nin, t_bool, t_int, t_none, txs_length, txs_nil]
              refine win_tab hS₂ ?_
              by_cases ho1 : o ∈ seen₂
              · simp [ho1, t_bool, w_nil]
                exact hI _ _ ⟨_, rfl, hX₂, hR₂, hW₂, hA₂, by simpa [bstep, ho1] using hS₂, by simpa [bstep, ho1] using hRow⟩
              · simp [ho1, t_bool]
                refine win_tab hR₂ ?_
                by_cases ho2 : o ∈ done
                · simp [ho2, t_bool, w_nil]
                  exact hI _ _ ⟨_, rfl, hX₂, hR₂, hW₂, hA₂, by simpa [bstep, ho2] using hS₂, by simpa [bstep, ho2] using hRow⟩
                · simp [ho2, t_bool]
                  obtain ⟨epS, esS, s1, s2, s3⟩ := hS₂
                  have hls := wk₂.len
                  rw [w_cons, w_asg]
                  simp [x_e0, x_e1, x_e2, x_e3, x_e4, x_e5, x_e6, x_e7, x_e8, x_e9, x_e10, x_e11, x_e12, x_e13, x_d0, x_d1, x_e15, xs_e0, xs_e1, ao_e0, ao_e1, xo_e0, xo_e1, xc_e0, xc_e1, wpT, wtg, b_add, b_sub, b_mul, b_div, b_mod, b_adds, c_lt, c_le, c_gt, c_ge, c_eq, c_ne, c_eqs, c_nes, c_in, c_nin, t_bool, t_int, t_none, txs_length, txs_nil, p_lens, p_range, p_range2, s1]
                  refine ⟨by simp [sizeLine, txs_length]; omega, fun ep' => ?_⟩
                  have hX₃ : Ext H (up H'' sn (.dict ep' (putS esS o (.bool true)))) := hX₂.own hsnH
                  have hR₃ : TabIs (up H'' sn (.dict ep' (putS esS o (.bool true)))) rd done := hR₂.own hrs
                  have hW₃ : TabIs (up H'' sn (.dict ep' (putS esS o (.bool true)))) wh full := hW₂.own hws
                  have hS₃ : TabIs (up H'' sn (.dict ep' (putS esS o (.bool true)))) sn (seen₂ ++ [o]) := put_tab s2 s3
                  have hRow₃ := hRow.put (ep' := ep') (es' := putS esS o (.bool true)) s1
                  have hA₃ : (up H'' sn (.dict ep' (putS esS o (.bool true)))) aw = some (.list (txs w)) := by
                    rw [up_other (fun z => by rw [z, s1] at hA₂; cases hA₂)]; exact hA₂
                  generalize (up H'' sn (.dict ep' (putS esS o (.bool true)))) = H₅ at hX₃ hR₃ hW₃ hS₃ hRow₃ hA₃ ⊢
                  obtain ⟨refs₂, q1, q2, q3⟩ := hRow₃.at'
                  rw [w_cons, w_expr]
                  simp [x_e0, x_e1, x_e2, x_e3, x_e4, x_e5, x_e6, x_e7, x_e8, x_e9, x_e10, x_e11, x_e12, x_e13, x_d0, x_d1, x_e15, xs_e0, xs_e1, ao_e0, ao_e1, xo_e0, xo_e1, xc_e0, xc_e1, wpT, wtg, b_add, b_sub, b_mul, b_div, b_mod, b_adds, c_lt, c_le, c_gt, c_ge, c_eq, c_ne, c_eqs, c_nes, c_in, c_nin, t_bool, t_int, t_none, txs_length, txs_nil, p_lens, p_range, p_range2, q1, lmeths]
                  intro b hb'
                  have e1 := Ext.refl.new (o := .list [.str o]) hb'
                  simp only [wbin, e1 _ _ hA₃, up_same]
                  refine ⟨by simp [txs_length, sizeLine]; omega, fun z hz => ?_⟩
                  have e2 := Ext.refl.new (o := .list (txs w ++ [.str o])) hz
                  have e := e1.trans e2
                  refine m_append (e _ _ q1) (by omega) ?_
                  rw [w_nil]
                  have hzy : z ≠ wy := fun e3 => by rw [e3, e1 _ _ q1] at hz; cases hz
                  have hbs : bstep done w (W₂, seen₂) o = (W₂ ++ [w ++ [o]], seen₂ ++ [o]) := by simp [bstep, ho1, ho2]
                  rw [hbs] at hI
                  refine ⟨by simp, ?_⟩
                  refine hI _ _ ⟨_, rfl, (hX₃.trans e).own hwyH, (hR₃.ext e).own (hR₃.ne q1), (hW₃.ext e).own (hW₃.ne q1), by rw [up_other rc]; exact e _ _ hA₃, (hS₃.ext e).own (hS₃.ne q1), (hRow₃.ext e).push (e _ _ q1) (by rw [up_same, txs_snoc]) hzy⟩
          · simp [hin, t_bool]
            simp only [hin, if_false] at hb
            (try subst hK); refine w_gen fun K hK => ?_; rw [w_ret]
            simp [x_e0, x_e1, x_e2, x_e3, x_e4, x_e5, x_e6, x_e7, x_e8, x_e9, x_e10, x_e11, x_e12, x_e13, x_d0, x_d1, x_e15, xs_e0, xs_e1, ao_e0, ao_e1, xo_e0, xo_e1, xc_e0, xc_e1, wpT, wtg, b_add, b_sub, b_mul, b_div, b_mod, b_adds, c_lt, c_le, c_gt, c_ge, c_eq, c_ne, c_eqs, c_nes, c_in, c_nin, t_bool, t_int, t_none, txs_length, txs_nil]
            refine p_list rb (by simp [txs_length]; omega) fun z hz => ?_
            refine q z _ g (hX.new hz) (hX.none hz) Gr ?_
            simp [hnd, hng, up_same, ← hb]
        · simp [hlt]
          (try subst hK); refine w_gen fun K hK => ?_; rw [w_ret]
          simp [x_e0, x_e1, x_e2, x_e3, x_e4, x_e5, x_e6, x_e7, x_e8, x_e9, x_e10, x_e11, x_e12, x_e13, x_d0, x_d1, x_e15, xs_e0, xs_e1, ao_e0, ao_e1, xo_e0, xo_e1, xc_e0, xc_e1, wpT, wtg, b_add, b_sub, b_mul, b_div, b_mod, b_adds, c_lt, c_le, c_gt, c_ge, c_eq, c_ne, c_eqs, c_nes, c_in, c_nin, t_bool, t_int, t_none, txs_length, txs_nil]
          intro z hz
          refine q z _ g (hX.new hz) (hX.none hz) Gr ?_
          have hb := hres
          unfold bfs at hb
          rw [List.getElem?_eq_none (by omega)] at hb
          simp [hnd, hng, up_same, ← hb, txs_nil]
end
end Mine

namespace Mine

structure IsPath (full : List Str) (nd : Str → List Str) (done : List Str) (name : Str) (w : List Str) : Prop where
  ne : w ≠ []
  hd : w[0]? = some name
  st : ∀ (i : Nat) x y, w[i]? = some x → w[i + 1]? = some y → x ∈ full ∧ y ∈ nd x
  ls : lastD w ∉ done

section
variable {full : List Str} {nd : Str → List Str} {done dom : List Str} {name : Str}

theorem lastD_get {w : List Str} (h : w ≠ []) : w[w.length - 1]? = some (lastD w) := by
  have hp : 0 < w.length := List.length_pos_iff.mpr h
  simp [lastD, List.getLast?_eq_getElem?, List.getElem?_eq_getElem (show w.length - 1 < w.length by omega)]
theorem IsPath.more {w : List Str} {o : Str} (h : IsPath full nd done name w) (hf : lastD w ∈ full) (ho : o ∈ nd (lastD w)) (hd : o ∉ done) : IsPath full nd done name (w ++ [o]) := by
  have hp : 0 < w.length := List.length_pos_iff.mpr h.ne
  refine ⟨by simp, by rw [List.getElem?_append_left hp]; exact h.hd, fun i x y hx hy => ?_, by rw [lastD_snoc]; exact hd⟩
  have hlt : i + 1 < (w ++ [o]).length := (List.getElem?_eq_some_iff.mp hy).1
  simp only [List.length_append, List.length_singleton] at hlt
  rw [List.getElem?_append_left (by omega)] at hx
  by_cases hi : i + 1 < w.length
  · rw [List.getElem?_append_left hi] at hy
    exact h.st i x y hx hy
  · have e : i = w.length - 1 := by omega
    subst e
    rw [lastD_get h.ne] at hx
    cases hx
    rw [List.getElem?_append_right (by omega)] at hy
    have : w.length - 1 + 1 - w.length = 0 := by omega
    rw [this] at hy
    simp at hy
    subst hy
    exact ⟨hf, ho⟩
theorem fold_path {w : List Str} (h : IsPath full nd done name w) (hf : lastD w ∈ full) : ∀ {ns : List Str} {p : List (List Str) × List Str}, (∀ o ∈ ns, o ∈ nd (lastD w)) → (∀ v ∈ p.1, IsPath full nd done name v) → ∀ v ∈ (ns.foldl (bstep done w) p).1, IsPath full nd done name v
  | [], _, _, hp => hp
  | o :: r, p, hn, hp => by
    refine fold_path h hf (ns := r) (p := bstep done w p o) (fun o ho => hn o (.tail _ ho)) ?_
    unfold bstep
    split
    · exact hp
    · rename_i hq
      simp only [not_or] at hq
      intro v hv
      rcases List.mem_append.mp hv with hv | hv
      · exact hp v hv
      · simp at hv; subst hv; exact h.more hf (hn o (.head _)) hq.2
theorem ways_one (h : name ∈ dom) : WaysOk dom [[name]] [name] := by
  refine ⟨rfl, by simp, by simpa using h, fun i w hi => ?_⟩
  have : i = 0 := by have := (List.getElem?_eq_some_iff.mp hi).1; simp at this; omega
  subst this
  simp at hi
  subst hi
  exact ⟨by simp, by simp, by simp [lastD]⟩
end
end Mine

namespace Mine

/-! ## steps to a way out -/
structure Dist (full : List Str) (nd : Str → List Str) (done dom : List Str) (d : Str → Option Nat) : Prop where
  one : ∀ x, d x = some 1 ↔ x ∈ dom ∧ x ∉ full ∧ x ∉ done
  pos : ∀ x v, d x = some v → 1 ≤ v
  far : ∀ x v, d x = some v → v ≠ 1 → x ∈ full ∧ ∃ o ∈ nd x, d o = some (v - 1)
  near : ∀ x ∈ full, ∀ o ∈ nd x, ∀ s, d o = some s → ∃ v, d x = some v ∧ v ≤ s + 1

/-- a way on which each step is the first that comes nearer -/
structure GP (nd : Str → List Str) (d : Str → Option Nat) (T : Nat) (name : Str) (P : List Str) : Prop where
  hd : P[0]? = some name
  dv : ∀ (i : Nat) x, P[i]? = some x → d x = some (T - i)
  nx : ∀ (i : Nat) x y, P[i]? = some x → P[i + 1]? = some y → ∃ pre post, nd x = pre ++ y :: post ∧ ∀ o ∈ pre, d o ≠ some (T - i - 1)

section
variable {full : List Str} {nd : Str → List Str} {done dom : List Str} {name : Str} {d : Str → Option Nat} {T : Nat} {P : List Str}

theorem path_dist (D : Dist full nd done dom d) (hT : d name = some T) {w : List Str} (h : IsPath full nd done name w) : ∀ (k : Nat) s, k < w.length → d (lastD w) = some s → ∃ x v, w[w.length - 1 - k]? = some x ∧ d x = some v ∧ v ≤ s + k
  | 0, s, hk, hs => ⟨lastD w, s, by simpa using lastD_get h.ne, hs, Nat.le_refl _⟩
  | k + 1, s, hk, hs => by
    obtain ⟨x, v, h1, h2, h3⟩ := path_dist D hT h k s (by omega) hs
    obtain ⟨y, hy⟩ : ∃ y, w[w.length - 1 - (k + 1)]? = some y := ⟨w[w.length - 1 - (k + 1)]'(by omega), by rw [List.getElem?_eq_getElem]⟩
    have e : w.length - 1 - (k + 1) + 1 = w.length - 1 - k := by omega
    obtain ⟨a, b⟩ := h.st _ y x hy (by rw [e]; exact h1)
    obtain ⟨u, hu, hle⟩ := D.near y a x b v h2
    exact ⟨y, u, hy, hu, by omega⟩
theorem path_len (D : Dist full nd done dom d) (hT : d name = some T) {w : List Str} (h : IsPath full nd done name w) {s : Nat} (hs : d (lastD w) = some s) : T + 1 ≤ s + w.length := by
  have hp : 0 < w.length := List.length_pos_iff.mpr h.ne
  obtain ⟨x, v, h1, h2, h3⟩ := path_dist D hT h (w.length - 1) s (by omega) hs
  have e : w.length - 1 - (w.length - 1) = 0 := by omega
  rw [e, h.hd] at h1
  cases h1
  rw [hT] at h2; cases h2
  omega

theorem fold_app {done w : List Str} {ns ns' : List Str} {p : List (List Str) × List Str} : (ns ++ ns').foldl (bstep done w) p = ns'.foldl (bstep done w) (ns.foldl (bstep done w) p) := List.foldl_append ..
/-- what a fold brings -/
theorem fold_new {w : List Str} : ∀ {ns : List Str} {p : List (List Str) × List Str}, (∀ v ∈ (ns.foldl (bstep done w) p).1, v ∈ p.1 ∨ ∃ o ∈ ns, v = w ++ [o]) ∧ ∀ x ∈ (ns.foldl (bstep done w) p).2, x ∈ p.2 ∨ x ∈ ns
  | [], p => ⟨fun v hv => .inl hv, fun x hx => .inl hx⟩
  | o :: r, p => by
    obtain ⟨h1, h2⟩ := fold_new (w := w) (ns := r) (p := bstep done w p o)
    have hb : (∀ v ∈ (bstep done w p o).1, v ∈ p.1 ∨ v = w ++ [o]) ∧ ∀ x ∈ (bstep done w p o).2, x ∈ p.2 ∨ x = o := by
      unfold bstep
      split
      · exact ⟨fun v hv => .inl hv, fun x hx => .inl hx⟩
      · exact ⟨fun v hv => by simpa using hv, fun x hx => by simpa using hx⟩
    refine ⟨fun v hv => ?_, fun x hx => ?_⟩
    · rcases h1 v hv with h | ⟨o', ho', h⟩
      · rcases hb.1 v h with h | h
        · exact .inl h
        · exact .inr ⟨o, .head _, h⟩
      · exact .inr ⟨o', .tail _ ho', h⟩
    · rcases h2 x hx with h | h
      · rcases hb.2 x h with h | h
        · exact .inl h
        · exact .inr (by rw [h]; exact .head _)
      · exact .inr (.tail _ h)

structure KInv (full : List Str) (nd : Str → List Str) (done dom : List Str) (name : Str) (d : Str → Option Nat) (T : Nat) (P : List Str) (i idx : Nat) (W : List (List Str)) (seen : List Str) (place : Nat) : Prop where
  i1 : 1 ≤ i
  i2 : i ≤ T
  at' : W[idx]? = some (P.take i)
  pl : place ≤ idx
  wl : ∀ w ∈ W, w.length ≤ i + 1
  bf : ∀ (j : Nat) w, place ≤ j → j < idx → W[j]? = some w → w.length ≤ i ∧ (w.length = i → ∀ s, d (lastD w) = some s → T + 1 < i + s)
  se : ∀ x ∈ seen, ∀ s, d x = some s → T + 1 ≤ s + i
  wk : WaysOk dom W seen
  ph : ∀ w ∈ W, IsPath full nd done name w

theorem take_last {i : Nat} {x : Str} (h : P[i]? = some x) : P.take (i + 1) = P.take i ++ [x] ∧ lastD (P.take (i + 1)) = x := by
  have := take_snoc h
  exact ⟨this, by rw [this, lastD_snoc]⟩

theorem bfs_greedy (D : Dist full nd done dom d) (hdd : ∀ x ∈ done, d x = none) (hdom : ∀ x ∈ full, ∀ o ∈ nd x, o ∈ dom) (hT : d name = some T) (hP : GP nd d T name P) (hl : P.length = T) : ∀ (fuel : Nat) (W : List (List Str)) (seen : List Str) (place i idx : Nat),
    fuel + place = dom.length + 1 → KInv full nd done dom name d T P i idx W seen place → bfs full nd done fuel W seen place = P
  | 0, W, seen, place, i, idx, hfu, K => by
    have := K.wk.small
    have := (List.getElem?_eq_some_iff.mp K.at').1
    have := K.pl
    omega
  | fuel + 1, W, seen, place, i, idx, hfu, K => by
    have hidx := (List.getElem?_eq_some_iff.mp K.at').1
    have hpl := K.pl
    have hlt : place < W.length := by omega
    obtain ⟨w, hw⟩ : ∃ w, W[place]? = some w := ⟨W[place], by simp [hlt]⟩
    have hwm := List.mem_of_getElem? hw
    obtain ⟨w1, w2, w3⟩ := K.wk.last place w hw
    have hps := K.ph w hwm
    have hmono := bfold_mono (done := done) (w := w) (ns := nd (lastD w)) (p := (W, seen))
    have hgrow : ∀ (j : Nat) v, W[j]? = some v → ((nd (lastD w)).foldl (bstep done w) (W, seen)).1[j]? = some v := fun j v hj => by
      obtain ⟨t, ht⟩ := hmono.1
      rw [← ht, List.getElem?_append_left (List.getElem?_eq_some_iff.mp hj).1]; exact hj
    have hi1 := K.i1
    have hi2 := K.i2
    unfold bfs
    rw [hw]
    simp only
    have hold : lastD w ∈ dom := K.wk.dom _ (List.mem_of_getElem? w3)
    by_cases hpi : place < idx
    · obtain ⟨hwi, hst⟩ := K.bf place w (Nat.le_refl _) hpi hw
      have hin : lastD w ∈ full := by
        apply Classical.byContradiction
        intro hn
        have h1 : d (lastD w) = some 1 := (D.one _).mpr ⟨hold, hn, hps.ls⟩
        have h2 := path_len D hT hps h1
        by_cases h3 : w.length = i
        · have := hst h3 1 h1; omega
        · omega
      rw [if_pos hin]
      refine bfs_greedy D hdd hdom hT hP hl fuel _ _ _ i idx (by omega) ⟨hi1, hi2, hgrow _ _ K.at', hpi, fun v hv => ?_, fun j v hj1 hj2 hj => ?_, fun x hx s hs => ?_, WaysOk.fold (p := (W, seen)) K.wk (hdom _ hin) w2 hlt, fold_path hps hin (fun _ h => h) K.ph⟩
      · rcases fold_new.1 v hv with h | ⟨o, _, rfl⟩
        · exact K.wl v h
        · simp; omega
      · have e : W[j]? = some v := by
          have hjl : j < W.length := by omega
          obtain ⟨t, ht⟩ := hmono.1
          rw [← ht, List.getElem?_append_left hjl] at hj; exact hj
        exact K.bf j v (by omega) hj2 e
      · rcases fold_new.2 x hx with h | h
        · exact K.se x h s hs
        · obtain ⟨v, hv, hle⟩ := D.near _ hin x h s hs
          have h2 := path_len D hT hps hv
          by_cases h3 : w.length = i
          · have := hst h3 v hv; omega
          · omega
    · have : place = idx := by omega
      subst this
      have hwP : w = P.take i := by have := K.at'; rw [hw] at this; exact Option.some.inj this
      obtain ⟨i', rfl⟩ : ∃ i', i = i' + 1 := ⟨i - 1, by omega⟩
      obtain ⟨x, hx⟩ : ∃ x, P[i']? = some x := ⟨P[i']'(by omega), by rw [List.getElem?_eq_getElem]⟩
      obtain ⟨t1, t2⟩ := take_last hx
      have hlast : lastD w = x := by rw [hwP, t2]
      have hdx : d x = some (T - i') := hP.dv i' x hx
      have hwlen : w.length = i' + 1 := by rw [hwP, List.length_take]; omega
      by_cases hiT : i' + 1 = T
      · have hn : lastD w ∉ full := by
          have h1 : d x = some 1 := by rw [hdx]; congr 1; omega
          rw [hlast]; exact ((D.one x).mp h1).2.1
        rw [if_neg hn, hwP]
        exact List.take_of_length_le (by omega)
      · have hin : lastD w ∈ full := by
          rw [hlast]; exact (D.far x _ hdx (by omega)).1
        rw [if_pos hin]
        obtain ⟨y, hy⟩ : ∃ y, P[i' + 1]? = some y := ⟨P[i' + 1]'(by omega), by rw [List.getElem?_eq_getElem]⟩
        obtain ⟨pre, post, hnd, hpre⟩ := hP.nx i' x y hx hy
        have hdy : d y = some (T - i' - 1) := by rw [hP.dv (i' + 1) y hy]; congr 1
        obtain ⟨s1, s2⟩ := take_last hy
        -- the fold up to y
        have hfold : (nd (lastD w)).foldl (bstep done w) (W, seen) = post.foldl (bstep done w) (bstep done w (pre.foldl (bstep done w) (W, seen)) y) := by
          rw [hlast, hnd, fold_app]; rfl
        have hnew := fold_new (done := done) (w := w) (ns := pre) (p := (W, seen))
        have hpm := bfold_mono (done := done) (w := w) (ns := pre) (p := (W, seen))
        have hq : ∀ o ∈ nd (lastD w), ∀ s, d o = some s → T - i' ≤ s + 1 := fun o ho s hs => by
          obtain ⟨v, hv, hle⟩ := D.near _ hin o ho s hs
          rw [hlast, hdx] at hv
          cases hv; exact hle
        generalize hp1 : pre.foldl (bstep done w) (W, seen) = p1 at hfold hnew hpm
        have hy1 : y ∉ p1.2 := fun h => by
          rcases hnew.2 y h with h | h
          · have := K.se y h _ hdy; omega
          · exact hpre y h hdy
        have hy2 : y ∉ done := fun h => by rw [hdd y h] at hdy; cases hdy
        have hbs : bstep done w p1 y = (p1.1 ++ [w ++ [y]], p1.2 ++ [y]) := by simp [bstep, hy1, hy2]
        have hm2 := bfold_mono (done := done) (w := w) (ns := post) (p := bstep done w p1 y)
        have hat : ((nd (lastD w)).foldl (bstep done w) (W, seen)).1[p1.1.length]? = some (P.take (i' + 1 + 1)) := by
          rw [hfold]
          obtain ⟨t, ht⟩ := hm2.1
          rw [← ht, hbs, s1, ← hwP]
          rw [List.getElem?_append_left (by simp), List.getElem?_append_right (Nat.le_refl _)]
          simp
        have hW1 : W.length ≤ p1.1.length := hpm.1.length_le
        refine bfs_greedy D hdd hdom hT hP hl fuel _ _ _ (i' + 1 + 1) p1.1.length (by omega) ⟨by omega, by omega, hat, by omega, fun v hv => ?_, fun j v hj1 hj2 hj => ?_, fun z hz s hs => ?_, WaysOk.fold (p := (W, seen)) K.wk (hdom _ hin) w2 hlt, fold_path hps hin (fun _ h => h) K.ph⟩
        · rcases fold_new.1 v hv with h | ⟨o, _, rfl⟩
          · have := K.wl v h; omega
          · simp; omega
        · have e : p1.1[j]? = some v := by
            rw [hfold] at hj
            obtain ⟨t, ht⟩ := hm2.1
            rw [← ht, hbs, List.getElem?_append_left (by simp [txs_length]; omega), List.getElem?_append_left hj2] at hj
            exact hj
          rcases hnew.1 v (List.mem_of_getElem? e) with h | ⟨o, ho, rfl⟩
          · refine ⟨K.wl v h, fun _ s hs => ?_⟩
            obtain ⟨j', hj', rfl⟩ := List.mem_iff_getElem.mp h
            have h3 := (K.wk.last j' _ (List.getElem?_eq_getElem hj')).2.2
            have := K.se _ (List.mem_of_getElem? h3) s hs
            omega
          · refine ⟨by simp [txs_length]; omega, fun _ s hs => ?_⟩
            rw [lastD_snoc] at hs
            have h4 := hq o (by rw [hlast, hnd]; exact List.mem_append_left _ ho) s hs
            have h5 : s ≠ T - i' - 1 := fun e => hpre o ho (by rw [hs, e])
            omega
        · rcases fold_new.2 z hz with h | h
          · have := K.se z h s hs; omega
          · have := hq z h s hs; omega

theorem bfsOf_greedy (D : Dist full nd done dom d) (hdd : ∀ x ∈ done, d x = none) (hdom : ∀ x ∈ full, ∀ o ∈ nd x, o ∈ dom) (hn : name ∈ dom) (hT : d name = some T) (hP : GP nd d T name P) (hl : P.length = T) : bfsOf full nd done dom.length name = P := by
  have hnd : name ∉ done := fun h => by rw [hdd name h] at hT; cases hT
  have hT1 := D.pos name T hT
  have e1 : P.take 1 = [name] := by
    have := take_snoc hP.hd
    simpa using this
  refine bfs_greedy D hdd hdom hT hP hl (dom.length + 1) [[name]] [name] 0 1 0 rfl ⟨Nat.le_refl _, hT1, by rw [e1]; rfl, Nat.le_refl _, by simp, fun j w h1 h2 => by omega, ?_, ways_one hn, ?_⟩
  · intro x hx s hs
    simp at hx; subst hx
    rw [hT] at hs; cases hs; omega
  · intro w hw
    simp at hw; subst hw
    exact ⟨by simp, rfl, fun i x y _ hy => by simp at hy, by simpa [lastD] using hnd⟩
end
end Mine

namespace Mine
/-! ## the words are all different -/
theorem chI_is : ∀ i : Fin 26, chI ((i.val : Nat) : Int) = 97 + i.val := by decide +kernel
theorem chI_inj {i j : Int} (h0 : 0 ≤ i) (h1 : i < 26) (h2 : 0 ≤ j) (h3 : j < 26) (h : chI i = chI j) : i = j := by
  have a := chI_is ⟨i.toNat, by omega⟩
  have b := chI_is ⟨j.toNat, by omega⟩
  simp only [Int.toNat_of_nonneg h0, Int.toNat_of_nonneg h2] at a b
  omega
theorem told_inj {k k' : Int} (h0 : 0 ≤ k) (h1 : k < 600) (h2 : 0 ≤ k') (h3 : k' < 600) (h : toldL k = toldL k') : k = k' := by
  simp only [toldL, List.cons.injEq, and_true] at h
  have a := chI_inj (fmod_lo (by omega)) (fmod_hi (by omega)) (fmod_lo (by omega)) (fmod_hi (by omega)) h.1
  have b := chI_inj (fmod_lo (by omega)) (fmod_hi (by omega)) (fmod_lo (by omega)) (fmod_hi (by omega)) h.2
  rw [Int.fmod_eq_emod_of_nonneg _ (by omega), Int.fmod_eq_emod_of_nonneg _ (by omega), Int.fdiv_eq_ediv_of_nonneg _ (by omega), Int.fdiv_eq_ediv_of_nonneg _ (by omega)] at a
  rw [Int.fmod_eq_emod_of_nonneg _ (by omega), Int.fmod_eq_emod_of_nonneg _ (by omega)] at b
  omega
theorem word_inj {k k' cl : Int} (h0 : 0 ≤ k) (h1 : k < 600) (h2 : 0 ≤ k') (h3 : k' < 600) (h : word k cl = word k' cl) : k = k' := by
  have h : wordL k cl = wordL k' cl := by
    have := congrArg (fun s => s.cps.toList) h
    simpa [word] using this
  unfold wordL at h
  split at h
  · dsimp only at h
    split at h
    · rename_i ha
      split at h
      · rename_i hb
        simp only [List.cons.injEq, and_true] at h
        exact chI_inj h0 ha.2 h2 hb.2 h
      · have := congrArg List.length h
        simp [toldL] at this
    · split at h
      · have := congrArg List.length h
        simp [toldL] at this
      · have e : toldL k = toldL k' := by
          have := congrArg (List.take 2) h
          simpa [toldL] using this
        exact told_inj h0 h1 h2 h3 e
  · dsimp only at h
    rw [List.append_assoc, List.append_assoc] at h
    have := List.append_cancel_left h
    exact told_inj h0 h1 h2 h3 (List.append_cancel_right this)
theorem wordsL_nodup {m : Int} {ns : List Int} (hm : 0 < m) (hm' : m ≤ 31) : (wordsL m ns).Nodup := by
  have hw := wcount_le (ns := ns) hm hm'
  unfold wordsL
  unfold List.Nodup
  rw [List.pairwise_map]
  refine List.Pairwise.imp_of_mem ?_ List.nodup_range
  intro a b ha hb hne h
  rw [List.mem_range] at ha hb
  have := word_inj (by omega) (by omega) (by omega) (by omega) h
  omega
end Mine

namespace Mine
/-- the steps as they stand behind turn t -/
structure Lay (full : List Str) (nd : Str → List Str) (done dom : List Str) (d : Str → Option Nat) (t : Nat) : Prop where
  t1 : 1 ≤ t
  one : ∀ x, d x = some 1 ↔ x ∈ dom ∧ x ∉ full ∧ x ∉ done
  rng : ∀ x v, d x = some v → 1 ≤ v ∧ v ≤ t
  far : ∀ x v, d x = some v → v ≠ 1 → x ∈ full ∧ ∃ o ∈ nd x, d o = some (v - 1)
  low : ∀ x v, d x = some v → v ≠ 1 → ∀ o ∈ nd x, ∀ s, d o = some s → v ≤ s + 1
  cls : ∀ x ∈ full, ∀ o ∈ nd x, ∀ s, d o = some s → s < t → d x ≠ none
noncomputable def freshB (nd : Str → List Str) (d : Str → Option Nat) (x : Str) : Bool := !(d x).isSome && (nd x).any fun o => (d o).isSome
section
variable {full : List Str} {nd : Str → List Str} {done dom : List Str} {d : Str → Option Nat} {t : Nat}
theorem Lay.init : Lay full nd done dom (fun x => if x ∈ dom ∧ x ∉ full ∧ x ∉ done then some 1 else none) 1 := by
  refine ⟨Nat.le_refl _, fun x => ?_, fun x v h => ?_, fun x v h hv => ?_, fun x v h hv => ?_, fun x hx o ho s hs hlt => ?_⟩ <;> try dsimp only at *
  · split <;> simp_all
  · split at h
    · cases h; omega
    · cases h
  · split at h
    · cases h; exact absurd rfl hv
    · cases h
  · split at h
    · cases h; exact absurd rfl hv
    · cases h
  · split at hs
    · cases hs; omega
    · cases hs
theorem Lay.next (L : Lay full nd done dom d t) : Lay full nd done dom (fun x => if x ∈ full.filter (freshB nd d) then some (t + 1) else d x) (t + 1) := by
  have hfr : ∀ x, x ∈ full.filter (freshB nd d) ↔ x ∈ full ∧ d x = none ∧ ∃ o ∈ nd x, ∃ s, d o = some s := fun x => by
    rw [List.mem_filter]
    simp only [freshB, Bool.and_eq_true, Bool.not_eq_true', List.any_eq_true, Option.isSome_iff_exists, Option.isSome_eq_false_iff, Option.isNone_iff_eq_none]
  have hold : ∀ x s, d x = some s → (if x ∈ full.filter (freshB nd d) then some (t + 1) else d x) = some s := fun x s h => by
    rw [if_neg (fun z => by rw [((hfr x).mp z).2.1] at h; cases h)]; exact h
  have ht := L.t1
  have hge : ∀ x ∈ full, d x = none → ∀ o ∈ nd x, ∀ s, d o = some s → t ≤ s := fun x hx hn o ho s hs => by
    rcases Nat.lt_or_ge s t with h | h
    · exact absurd hn (L.cls x hx o ho s hs h)
    · exact h
  refine ⟨by omega, fun x => ?_, fun x v h => ?_, fun x v h hv => ?_, fun x v h hv o ho s hs => ?_, fun x hx o ho s hs hlt => ?_⟩ <;> try dsimp only at *
  · rw [← L.one]
    split
    · rename_i z
      have := ((hfr x).mp z).2.1
      rw [this]; simp; omega
    · exact Iff.rfl
  · split at h
    · cases h; omega
    · have := L.rng x v h; omega
  · split at h
    · rename_i z
      cases h
      obtain ⟨a, b, o, ho, s, hs⟩ := (hfr x).mp z
      refine ⟨a, o, ho, ?_⟩
      have h1 := hge x a b o ho s hs
      have h2 := (L.rng o s hs).2
      rw [hold o s hs]; congr 1; omega
    · obtain ⟨a, o, ho, hs⟩ := L.far x v h hv
      exact ⟨a, o, ho, hold o _ hs⟩
  · split at hs
    · cases hs
      split at h
      · cases h; omega
      · have := (L.rng x v h).2; omega
    · split at h
      · rename_i z
        cases h
        obtain ⟨a, b, _⟩ := (hfr x).mp z
        have := hge x a b o ho s hs; omega
      · exact L.low x v h hv o ho s hs
  · split at hs
    · cases hs; omega
    · split
      · simp
      · rename_i z
        intro hn
        exact z ((hfr x).mpr ⟨hx, hn, o, ho, s, hs⟩)
theorem Lay.chain (L : Lay full nd done dom d t) (hd : ∀ x ∈ full, x ∈ dom) : ∀ (v : Nat) x, d x = some v → ∃ l : List Str, l.length = v ∧ l.Nodup ∧ ∀ y ∈ l, y ∈ dom ∧ ∃ s, s ≤ v ∧ d y = some s
  | 0, x, h => by have := (L.rng x 0 h).1; omega
  | v + 1, x, h => by
    have hx : x ∈ dom := by
      by_cases h1 : v + 1 = 1
      · rw [h1] at h; exact ((L.one x).mp h).1
      · exact hd x (L.far x _ h h1).1
    by_cases h1 : v + 1 = 1
    · refine ⟨[x], by simp [txs_length]; omega, by simp, fun y hy => ?_⟩
      simp at hy; subst hy
      exact ⟨hx, _, Nat.le_refl _, h⟩
    · obtain ⟨_, o, ho, hs⟩ := L.far x _ h h1
      obtain ⟨l, a, b, c⟩ := Lay.chain L hd v o (by simpa using hs)
      refine ⟨x :: l, by simp [a], ?_, fun y hy => ?_⟩
      · rw [List.nodup_cons]
        refine ⟨fun hm => ?_, b⟩
        obtain ⟨_, s, h2, h3⟩ := c x hm
        rw [h] at h3; cases h3; omega
      · rcases List.mem_cons.mp hy with rfl | hy
        · exact ⟨hx, _, Nat.le_refl _, h⟩
        · obtain ⟨e, s, h2, h3⟩ := c y hy
          exact ⟨e, s, by omega, h3⟩
theorem Lay.dist (L : Lay full nd done dom d t) (hd : ∀ x ∈ full, x ∈ dom) (ht : dom.length < t) : Dist full nd done dom d := by
  refine ⟨L.one, fun x v h => (L.rng x v h).1, L.far, fun x hx o ho s hs => ?_⟩
  have hsm : s ≤ dom.length := by
    obtain ⟨l, a, b, c⟩ := L.chain hd s o hs
    rw [← a]; exact len_sub b fun y hy => (c y hy).1
  cases hv : d x with
  | none => exact absurd hv (L.cls x hx o ho s hs (by omega))
  | some v =>
    refine ⟨v, rfl, ?_⟩
    by_cases h1 : v = 1
    · omega
    · exact L.low x v hv h1 o ho s hs
theorem Lay.off (L : Lay full nd done dom d t) (hdj : ∀ x ∈ full, x ∉ done) : ∀ x ∈ done, d x = none := fun x hx => by
  cases h : d x with
  | none => rfl
  | some v =>
    by_cases h1 : v = 1
    · subst h1; exact absurd hx ((L.one x).mp h).2.2
    · exact absurd hx (hdj x (L.far x v h h1).1)
end

theorem look_put {es : List (Str × AV)} {k x : Str} {v : AV} : lookS (putS es k v) x = if x = k then some v else lookS es x := by
  by_cases hx : x = k
  · subst hx
    rw [if_pos rfl]
    have hs : (lookS (putS es x v) x).isSome = true := by
      rw [look_mem, put_keys]; simp [mem_addKey]
    obtain ⟨y, hy⟩ := Option.isSome_iff_exists.mp hs
    rcases put_mem (look_in hy) with h | h
    · cases h; exact hy
    · exact absurd rfl h.2
  · rw [if_neg hx]
    unfold putS
    split
    · unfold lookS
      rw [List.find?_map]
      have : ((fun e : Str × AV => decide (e.1 = x)) ∘ fun e => if e.1 = k then (e.1, v) else e) = fun e => decide (e.1 = x) := by
        funext e
        simp only [Function.comp]
        split <;> rfl
      rw [this]
      cases h : es.find? (fun e => decide (e.1 = x)) with
      | none => rfl
      | some e =>
        have he := List.find?_some h
        simp only [decide_eq_true_eq] at he
        have : ¬ e.1 = k := fun z => hx (by rw [← he, z])
        simp [this]
    · unfold lookS
      rw [List.find?_append]
      have : List.find? (fun e : Str × AV => decide (e.1 = x)) [(k, v)] = none := by
        simp; exact fun z => hx z.symm
      rw [this, Option.or_none]

/-- steps that a dict holds -/
noncomputable def DistAt (H : AHeap) (z : Addr) (d : Str → Option Nat) (B : Nat) : Prop := ∃ ep es, H z = some (.dict ep es) ∧ es.length ≤ B ∧ ∀ x, lookS es x = (d x).map fun v => AV.int ((v : Nat) : Int)
section
variable {Q : AV → AHeap → Prop} {H H' : AHeap} {z : Addr} {d : Str → Option Nat} {B : Nat} {x : Str}
theorem DistAt.ext (h : DistAt H z d B) (e : Ext H H') : DistAt H' z d B := by
  obtain ⟨ep, es, h1, h2⟩ := h; exact ⟨ep, es, e _ _ h1, h2⟩
theorem DistAt.win {no : Bool} (h : DistAt H z d B) (q : Q (.bool ((d x).isSome != no)) H) : win no (.str x) (.ref z) Q H := by
  obtain ⟨ep, es, h1, _, h3⟩ := h
  refine win_dict h1 ?_
  rw [h3, Option.isSome_map]; exact q
theorem DistAt.sub {v : Nat} (h : DistAt H z d B) (hv : d x = some v) (q : Q (.int ((v : Nat) : Int)) H) : wsub (.ref z) (.str x) Q H := by
  obtain ⟨ep, es, h1, _, h3⟩ := h
  simp only [wsub, h1]
  exact ⟨_, by rw [h3, hv]; rfl, q⟩
theorem DistAt.put {v : Nat} {ep ep' : Nat} {es : List (Str × AV)} (h2 : es.length ≤ B) (h3 : ∀ x, lookS es x = (d x).map fun v => AV.int ((v : Nat) : Int)) : DistAt (up H z (.dict ep' (putS es x (.int ((v : Nat) : Int))))) z (fun y => if y = x then some v else d y) (B + 1) := by
  refine ⟨ep', _, up_same, by have := put_len (es := es) (k := x) (v := .int ((v : Nat) : Int)); omega, fun y => ?_⟩
  rw [look_put]
  by_cases h : y = x
  · simp [h]
  · simp [h, h3]
end
end Mine
namespace Mine.L06
noncomputable def f_are_met : Fn := ⟨4, ["names", "needs", "kept", "done", "found", "name"], [
  .assign (.var 4) (.list []),
  .for (.var 5) (.var 0) [.ite (.cmp .Eq (.comp (.var 6) 1 false (.sub (.var 1) (.var 5)) (some (.ao true [(.cmp .NotIn (.var 6) (.var 2)), (.cmp .NotIn (.var 6) (.var 3))]))) (.list [])) [.expr (.meth (.var 4) "append" [(.var 5)])] []],
  .ret (.var 4)]⟩
noncomputable def f_table_of : Fn := ⟨1, ["names", "table", "name"], [
  .assign (.var 1) (.dict [] []),
  .for (.var 2) (.var 0) [.assign (.sub (.var 1) (.var 2)) (.lit (.bool true))],
  .ret (.var 1)]⟩
noncomputable def f_greatest : Fn := ⟨3, ["full", "needs", "done", "ready", "names", "found"], [
  .assign (.var 3) (.call "table_of" [(.var 2)]),
  .assign (.var 4) (.prim "list" [(.var 0)]),
  .assign (.var 5) (.call "are_met" [(.var 4), (.var 1), (.call "table_of" [(.var 4)]), (.var 3)]),
  .while (.cmp .Lt (.prim "len" [(.var 5)]) (.prim "len" [(.var 4)])) [.assign (.var 4) (.var 5),
    .assign (.var 5) (.call "are_met" [(.var 4), (.var 1), (.call "table_of" [(.var 4)]), (.var 3)])],
  .ret (.var 5)]⟩
noncomputable def f_chain : Fn := ⟨4, ["name", "full", "needs", "done", "ready", "whole", "ways", "seen", "place", "way", "last", "one"], [
  .assign (.var 4) (.call "table_of" [(.var 3)]),
  .ite (.ao false [(.cmp .In (.var 0) (.var 4)), (.cmp .In (.var 0) (.call "greatest" [(.var 1), (.var 2), (.var 3)]))]) [.ret (.list [])] [],
  .assign (.var 5) (.call "table_of" [(.var 1)]),
  .assign (.var 6) (.list [(.list [(.var 0)])]),
  .assign (.var 7) (.dict [(.var 0)] [(.lit (.bool true))]),
  .assign (.var 8) (.lit (.int 0)),
  .while (.cmp .Lt (.var 8) (.prim "len" [(.var 6)])) [.assign (.var 9) (.sub (.var 6) (.var 8)),
    .assign (.var 10) (.sub (.var 9) (.neg (.lit (.int 1)))),
    .ite (.cmp .NotIn (.var 10) (.var 5)) [.ret (.prim "list" [(.var 9)])] [],
    .for (.var 11) (.sub (.var 2) (.var 10)) [.ite (.ao true [(.cmp .NotIn (.var 11) (.var 7)), (.cmp .NotIn (.var 11) (.var 4))]) [.assign (.sub (.var 7) (.var 11)) (.lit (.bool true)),
        .expr (.meth (.var 6) "append" [(.bin .Add (.var 9) (.list [(.var 11)]))])] []],
    .assign (.var 8) (.bin .Add (.var 8) (.lit (.int 1)))],
  .ret (.list [])]⟩
noncomputable def f__law_cell_at : Fn := ⟨2, ["_law_script", "_law_k"], [
  .ite (.cmp .Lt (.var 1) (.prim "len" [(.var 0)])) [.ret (.sub (.var 0) (.var 1))] [],
  .ret (.lit (.int 0))]⟩
noncomputable def f__law_mixed : Fn := ⟨2, ["_law_number", "_law_k"], [
  .ret (.bin .Mod (.bin .Add (.bin .Add (.bin .Mult (.var 0) (.lit (.int 6364136223846793005))) (.bin .Mult (.var 1) (.lit (.int 1442695040888963407)))) (.lit (.int 1013904223))) (.lit (.int 2305843009213693951)))]⟩
noncomputable def f__law_word : Fn := ⟨2, ["_law_k", "_law_cell", "_law_letters", "_law_told", "_law_rest", "_law_more", "_law_j", "_law_at"], [
  .assign (.var 2) (.lit (.str (Str.ofString "abcdefghijklmnopqrstuvwxyz"))),
  .assign (.var 3) (.bin .Add (.sub (.var 2) (.bin .Mod (.bin .FloorDiv (.var 0) (.lit (.int 26))) (.lit (.int 26)))) (.sub (.var 2) (.bin .Mod (.var 0) (.lit (.int 26))))),
  .assign (.var 4) (.call "_law_mixed" [(.var 1), (.lit (.int 0))]),
  .ite (.cmp .Eq (.bin .Mod (.var 1) (.lit (.int 2))) (.lit (.int 1))) [.assign (.var 4) (.call "_law_mixed" [(.var 1), (.var 0)]),
    .ite (.ao true [(.cmp .Eq (.bin .Mod (.var 4) (.lit (.int 12))) (.lit (.int 11))), (.cmp .Lt (.var 0) (.lit (.int 26)))]) [.ret (.sub (.var 2) (.var 0))] []] [],
  .assign (.var 5) (.lit (.str (Str.ofString ""))),
  .for (.var 6) (.prim "range" [(.bin .Mod (.bin .FloorDiv (.var 4) (.lit (.int 12))) (.lit (.int 11)))]) [.assign (.var 5) (.bin .Add (.var 5) (.sub (.var 2) (.bin .Mod (.bin .FloorDiv (.var 4) (.lit (.int 300))) (.lit (.int 26))))),
    .assign (.var 4) (.bin .FloorDiv (.var 4) (.lit (.int 26)))],
  .ite (.cmp .Eq (.bin .Mod (.var 1) (.lit (.int 2))) (.lit (.int 1))) [.ret (.bin .Add (.var 3) (.var 5))] [],
  .assign (.var 7) (.bin .Mod (.bin .FloorDiv (.var 1) (.lit (.int 2))) (.bin .Add (.prim "len" [(.var 5)]) (.lit (.int 1)))),
  .ret (.bin .Add (.bin .Add (.slice (.var 5) none (some (.var 7)) none) (.var 3)) (.slice (.var 5) (some (.var 7)) none none))]⟩
noncomputable def f__law_words : Fn := ⟨1, ["_law_script", "_law_count"], [
  .assign (.var 1) (.bin .Add (.lit (.int 2)) (.bin .Mod (.call "_law_cell_at" [(.var 0), (.lit (.int 0))]) (.lit (.int 6)))),
  .ite (.cmp .Eq (.bin .Mod (.bin .FloorDiv (.call "_law_cell_at" [(.var 0), (.lit (.int 0))]) (.lit (.int 6))) (.lit (.int 5))) (.lit (.int 1))) [.assign (.var 1) (.bin .Add (.lit (.int 10)) (.bin .Mod (.bin .FloorDiv (.call "_law_cell_at" [(.var 0), (.lit (.int 0))]) (.lit (.int 30))) (.lit (.int 31))))] [],
  .ret (.comp (.call "_law_word" [(.var 2), (.call "_law_cell_at" [(.var 0), (.lit (.int 1))])]) 1 false (.prim "range" [(.var 1)]) none)]⟩
noncomputable def f__law_needs_by : Fn := ⟨2, ["_law_cell", "_law_words_here", "_law_size", "_law_rest", "_law_needs", "_law_j"], [
  .assign (.var 2) (.bin .Mod (.var 0) (.lit (.int 4))),
  .ite (.cmp .Eq (.bin .Mod (.bin .FloorDiv (.var 0) (.lit (.int 4))) (.lit (.int 4))) (.lit (.int 1))) [.assign (.var 2) (.bin .Mod (.bin .FloorDiv (.var 0) (.lit (.int 16))) (.lit (.int 9)))] [],
  .assign (.var 3) (.bin .FloorDiv (.var 0) (.lit (.int 144))),
  .assign (.var 4) (.list []),
  .for (.var 5) (.prim "range" [(.var 2)]) [.expr (.meth (.var 4) "append" [(.sub (.var 1) (.bin .Mod (.var 3) (.prim "len" [(.var 1)])))]),
    .assign (.var 3) (.bin .FloorDiv (.var 3) (.lit (.int 7)))],
  .ret (.var 4)]⟩
noncomputable def f__law_steps : Fn := ⟨4, ["_law_words_here", "_law_full", "_law_needs", "_law_done", "_law_steps_here", "_law_name", "_law_turn", "_law_fresh", "_law_near"], [
  .assign (.var 4) (.dict [] []),
  .for (.var 5) (.var 0) [.ite (.ao true [(.cmp .NotIn (.var 5) (.var 1)), (.cmp .NotIn (.var 5) (.var 3))]) [.assign (.sub (.var 4) (.var 5)) (.lit (.int 1))] []],
  .for (.var 6) (.prim "range" [(.lit (.int 2)), (.bin .Add (.prim "len" [(.var 0)]) (.lit (.int 2)))]) [.assign (.var 7) (.list []),
    .for (.var 5) (.var 1) [.assign (.var 8) (.comp (.var 9) 1 false (.sub (.var 2) (.var 5)) (some (.cmp .In (.var 9) (.var 4)))),
      .ite (.ao true [(.cmp .NotIn (.var 5) (.var 4)), (.cmp .NotEq (.var 8) (.list []))]) [.expr (.meth (.var 7) "append" [(.var 5)])] []],
    .for (.var 5) (.var 7) [.assign (.sub (.var 4) (.var 5)) (.var 6)]],
  .ret (.var 4)]⟩
noncomputable def f_law : Fn := ⟨1, ["_law_script", "_law_words_here", "_law_full", "_law_done", "_law_needs", "_law_k", "_law_cell", "_law_name", "_law_steps_here", "_law_due", "_law_here", "_law_found", "_law_one", "_law_held"], [
  .assign (.var 1) (.call "_law_words" [(.var 0)]),
  .assign (.var 2) (.list []),
  .assign (.var 3) (.list []),
  .assign (.var 4) (.dict [] []),
  .for (.var 5) (.prim "range" [(.prim "len" [(.var 1)])]) [.assign (.var 6) (.call "_law_mixed" [(.call "_law_cell_at" [(.var 0), (.bin .Add (.lit (.int 3)) (.bin .Mod (.var 5) (.lit (.int 60))))]), (.var 5)]),
    .ite (.cmp .Lt (.bin .Mod (.var 6) (.lit (.int 6))) (.lit (.int 4))) [.expr (.meth (.var 2) "append" [(.sub (.var 1) (.var 5))]),
      .assign (.sub (.var 4) (.sub (.var 1) (.var 5))) (.call "_law_needs_by" [(.bin .FloorDiv (.var 6) (.lit (.int 6))), (.var 1)])] [.ite (.cmp .Eq (.bin .Mod (.var 6) (.lit (.int 6))) (.lit (.int 4))) [.expr (.meth (.var 3) "append" [(.sub (.var 1) (.var 5))])] []]],
  .assign (.var 7) (.sub (.bin .Add (.var 1) (.list [(.lit (.str (Str.ofString "nobody")))])) (.bin .Mod (.call "_law_cell_at" [(.var 0), (.lit (.int 2))]) (.bin .Add (.prim "len" [(.var 1)]) (.lit (.int 1))))),
  .assign (.var 8) (.call "_law_steps" [(.bin .Add (.var 1) (.list [(.lit (.str (Str.ofString "nobody")))])), (.var 2), (.var 4), (.var 3)]),
  .assign (.var 9) (.list []),
  .assign (.var 10) (.var 7),
  .while (.ao true [(.cmp .In (.var 10) (.var 8)), (.cmp .Lt (.prim "len" [(.var 9)]) (.sub (.var 8) (.var 7)))]) [.expr (.meth (.var 9) "append" [(.var 10)]),
    .ite (.cmp .Gt (.sub (.var 8) (.var 10)) (.lit (.int 1))) [.assign (.var 10) (.sub (.comp (.var 14) 1 false (.sub (.var 4) (.var 10)) (some (.ao true [(.cmp .In (.var 14) (.var 8)), (.cmp .Eq (.sub (.var 8) (.var 14)) (.bin .Sub (.sub (.var 8) (.var 10)) (.lit (.int 1))))]))) (.lit (.int 0)))] []],
  .assign (.var 11) (.call "chain" [(.var 7), (.prim "list" [(.var 2)]), (.var 4), (.prim "list" [(.var 3)])]),
  .ite (.ao false [(.not (.isinst (.var 11) "list")), (.cmp .NotEq (.prim "len" [(.var 11)]) (.prim "len" [(.var 9)]))]) [.ret (.lit (.bool false))] [],
  .for (.var 12) (.var 11) [.ite (.not (.isinst (.var 12) "str")) [.ret (.lit (.bool false))] []],
  .assign (.var 13) (.cmp .In (.var 7) (.call "greatest" [(.prim "list" [(.var 2)]), (.var 4), (.prim "list" [(.var 3)])])),
  .ret (.ao true [(.cmp .Eq (.var 11) (.var 9)), (.cmp .Eq (.var 13) (.ao true [(.cmp .In (.var 7) (.var 2)), (.cmp .Eq (.var 9) (.list []))]))])]⟩
noncomputable def P : Pg where
  fns := [("are_met", f_are_met), ("table_of", f_table_of), ("greatest", f_greatest), ("chain", f_chain), ("_law_cell_at", f__law_cell_at), ("_law_mixed", f__law_mixed), ("_law_word", f__law_word), ("_law_words", f__law_words), ("_law_needs_by", f__law_needs_by), ("_law_steps", f__law_steps), ("law", f_law)]
  gfns := ["are_met", "table_of", "greatest", "chain", "_law_cell_at", "_law_mixed", "_law_word", "_law_words", "_law_needs_by", "_law_steps", "law"]
  consts := []
  excs := []
  classes := []
  meths := []
  attrs := []
  prims := ["isinstance", "len", "list", "range", "str"]
end Mine.L06
namespace Mine.L06
section
variable {c : Cx} (G : Gd c P) {n : Nat} {Q : AV → AHeap → Prop} {E : String → AHeap → Prop} {H : AHeap}

include G
theorem steps_ok {wa fu nd dn : Addr} {dom full done : List Str} {f : Str → List Str} (hw : H wa = some (.list (txs dom))) (hf : H fu = some (.list (txs full))) (hn : NeedsAt H nd f full) (hd : H dn = some (.list (txs done))) (hwl : dom.length ≤ 100) (hfl : full.length ≤ 100)
    (q : ∀ z H' d, Ext H H' → H z = none → DistAt H' z d 100000 → Lay full f done dom d (dom.length + 1) → Q (.ref z) H') : CallOK c (n + 1) true "_law_steps" [.ref wa, .ref fu, .ref nd, .ref dn] Q E H := by
  refine G.call (F := f__law_steps) rfl rfl ?_
  show wpSs _ (_ :: _ :: _ :: _ :: []) _ _ _ [some (.ref wa), some (.ref fu), some (.ref nd), some (.ref dn), none, none, none, none, none] _
  rw [w_cons, w_asg]
  simp [x_e0, x_e1, x_e2, x_e3, x_e4, x_e5, x_e6, x_e7, x_e8, x_e9, x_e10, x_e11, x_e12, x_e13, x_d0, x_d1, x_e15, xs_e0, xs_e1, ao_e0, ao_e1, xo_e0, xo_e1, xc_e0, xc_e1, wpT, wtg, b_add, b_sub, b_mul, b_div, b_mod, b_adds, c_lt, c_le, c_gt, c_ge, c_eq, c_ne, c_eqs, c_nes, c_in, c_nin, t_bool, t_int, t_none, txs_length, txs_nil]
  intro z hz
  rw [w_cons, w_for]
  refine ⟨rfl, ?_⟩
  simp [x_e0, x_e1, x_e2, x_e3, x_e4, x_e5, x_e6, x_e7, x_e8, x_e9, x_e10, x_e11, x_e12, x_e13, x_d0, x_d1, x_e15, xs_e0, xs_e1, ao_e0, ao_e1, xo_e0, xo_e1, xc_e0, xc_e1, wpT, wtg, b_add, b_sub, b_mul, b_div, b_mod, b_adds, c_lt, c_le, c_gt, c_ge, c_eq, c_ne, c_eqs, c_nes, c_in, c_nin, t_bool, t_int, t_none, txs_length, txs_nil]
  have E₁ : Ext H (up H z (.dict 0 [])) := Ext.refl.own hz
  refine wforI (xs := txs dom) (by simp [itemsOf, E₁ _ _ hw]) (fun k V' H' => ∃ x5 d, V' = [some (.ref wa), some (.ref fu), some (.ref nd), some (.ref dn), some (.ref z), x5, none, none, none] ∧ Ext H H' ∧ DistAt H' z d k ∧ ∀ x, d x = if x ∈ dom.take k ∧ x ∉ full ∧ x ∉ done then some 1 else none)
    ⟨none, fun _ => none, rfl, E₁, ⟨0, [], up_same, Nat.le_refl _, fun _ => rfl⟩, by simp⟩ ?_
  rintro I hI k V' H' ⟨x5, d, rfl, hE, hD, hd'⟩
  refine ⟨by simp [sameIt, hE _ _ hw, E₁ _ _ hw], fun hk => ?_, fun y hy => ?_⟩
  · rw [hk, txs_length, List.take_length] at hd'
    rw [hk, txs_length] at hD
    have hdI : d = fun x => if x ∈ dom ∧ x ∉ full ∧ x ∉ done then some 1 else none := funext hd'
    have hL : Lay full f done dom d 1 := by rw [hdI]; exact Lay.init
    clear hk hd' hdI E₁
    rw [w_cons, w_for]
    refine ⟨rfl, ?_⟩
    simp [x_e0, x_e1, x_e2, x_e3, x_e4, x_e5, x_e6, x_e7, x_e8, x_e9, x_e10, x_e11, x_e12, x_e13, x_d0, x_d1, x_e15, xs_e0, xs_e1, ao_e0, ao_e1, xo_e0, xo_e1, xc_e0, xc_e1, wpT, wtg, b_add, b_sub, b_mul, b_div, b_mod, b_adds, c_lt, c_le, c_gt, c_ge, c_eq, c_ne, c_eqs, c_nes, c_in, c_nin, t_bool, t_int, t_none, txs_length, txs_nil, p_lens, p_range, p_range2]
    refine p_len (hE _ _ hw) (by simp [txs_length]; omega) ?_
    rw [txs_length, b_add, p_range2]
    refine ⟨⟨by omega, by omega, by omega, by omega⟩, fun rg hrg => ?_⟩
    have hzr : z ≠ rg := by obtain ⟨_, _, e, _⟩ := hD; exact ne_of e hrg
    have E₂ := Ext.refl.new (o := .range 2 ((dom.length : Int) + 2)) hrg
    refine wforI (xs := (List.range (((dom.length : Int) + 2) - 2).toNat).map fun (k : Nat) => AV.int (2 + k)) (by simp [itemsOf, up_same])
      (fun k V' H'' => ∃ x5 x6 x7 x8 d, V' = [some (.ref wa), some (.ref fu), some (.ref nd), some (.ref dn), some (.ref z), x5, x6, x7, x8] ∧ Ext H H'' ∧ H'' rg = some (.range 2 ((dom.length : Int) + 2)) ∧ DistAt H'' z d (100 + 100 * k) ∧ Lay full f done dom d (k + 1))
      ⟨x5, none, none, none, d, rfl, hE.trans E₂, up_same, by obtain ⟨ep, es, e1, e2, e3⟩ := hD.ext E₂; exact ⟨ep, es, e1, by omega, e3⟩, hL⟩ ?_
    clear hL hD hE E₂
    rintro I₂ hI₂ k V' H₃ ⟨x5, x6, x7, x8, d, rfl, hE, hrg', hD, hL⟩
    refine ⟨by simp [sameIt, hrg', up_same], fun hk => ?_, fun y hy => ?_⟩
    · have hk' : k = dom.length := by simpa using hk
      subst hk'
      rw [w_cons, w_ret]
      simp [x_e0, x_e1, x_e2, x_e3, x_e4, x_e5, x_e6, x_e7, x_e8, x_e9, x_e10, x_e11, x_e12, x_e13, x_d0, x_d1, x_e15, xs_e0, xs_e1, ao_e0, ao_e1, xo_e0, xo_e1, xc_e0, xc_e1, wpT, wtg, b_add, b_sub, b_mul, b_div, b_mod, b_adds, c_lt, c_le, c_gt, c_ge, c_eq, c_ne, c_eqs, c_nes, c_in, c_nin, t_bool, t_int, t_none, txs_length, txs_nil]
      exact q z H₃ d hE hz (by obtain ⟨ep, es, e1, e2, e3⟩ := hD; exact ⟨ep, es, e1, by omega, e3⟩) hL
    · have hk : k < dom.length := by
        have := (List.getElem?_eq_some_iff.mp hy).1
        simpa using this
      have hy' : y = .int (((k + 1 + 1 : Nat)) : Int) := by
        have := hy.symm
        simp [hk] at this
        rw [this]; congr 1; omega
      subst hy'
      refine ⟨by simp, ?_⟩
      rw [w_cons, w_asg]
      simp [x_e0, x_e1, x_e2, x_e3, x_e4, x_e5, x_e6, x_e7, x_e8, x_e9, x_e10, x_e11, x_e12, x_e13, x_d0, x_d1, x_e15, xs_e0, xs_e1, ao_e0, ao_e1, xo_e0, xo_e1, xc_e0, xc_e1, wpT, wtg, b_add, b_sub, b_mul, b_div, b_mod, b_adds, c_lt, c_le, c_gt, c_ge, c_eq, c_ne, c_eqs, c_nes, c_in, c_nin, t_bool, t_int, t_none, txs_length, txs_nil]
      intro fr hfr
      have hzf : z ≠ fr := by obtain ⟨_, _, e, _⟩ := hD; exact ne_of e hfr
      have hrf : rg ≠ fr := ne_of hrg' hfr
      have hfrH : H fr = none := hE.none hfr
      have E₄ := hE.new (o := .list []) hfr
      rw [w_cons, w_for]
      refine ⟨rfl, ?_⟩
      simp [x_e0, x_e1, x_e2, x_e3, x_e4, x_e5, x_e6, x_e7, x_e8, x_e9, x_e10, x_e11, x_e12, x_e13, x_d0, x_d1, x_e15, xs_e0, xs_e1, ao_e0, ao_e1, xo_e0, xo_e1, xc_e0, xc_e1, wpT, wtg, b_add, b_sub, b_mul, b_div, b_mod, b_adds, c_lt, c_le, c_gt, c_ge, c_eq, c_ne, c_eqs, c_nes, c_in, c_nin, t_bool, t_int, t_none, txs_length, txs_nil]
      refine wforI (xs := txs full) (by simp [itemsOf, E₄ _ _ hf]) (fun j V' H' => ∃ x5 x8, V' = [some (.ref wa), some (.ref fu), some (.ref nd), some (.ref dn), some (.ref z), x5, some (.int ((k : Int) + 1 + 1)), some (.ref fr), x8] ∧ Ext H H' ∧ H' rg = some (.range 2 ((dom.length : Int) + 2)) ∧ DistAt H' z d (100 + 100 * k) ∧ H' fr = some (.list (txs ((full.take j).filter (freshB f d)))))
        ⟨x5, x8, rfl, E₄, by rw [up_other hrf]; exact hrg', hD.ext (Ext.refl.new hfr), by rw [up_same]; rfl⟩ ?_
      have hf4 := E₄ _ _ hf
      clear E₄ hfr hD hE hrg'
      rintro I₃ hI₃ j V' H₄ ⟨x5, x8, rfl, hE, hrg', hD, hF⟩
      refine ⟨by simp [sameIt, hE _ _ hf, hf4], fun hj => ?_, fun y hy => ?_⟩
      · rw [hj, txs_length, List.take_length] at hF
        have hfl' := List.length_filter_le (freshB f d) full
        have hL' := hL.next
        generalize hfg : full.filter (freshB f d) = fresh at hF hfl' hL'
        rw [w_cons, w_for]
        refine ⟨rfl, ?_⟩
        simp [x_e0, x_e1, x_e2, x_e3, x_e4, x_e5, x_e6, x_e7, x_e8, x_e9, x_e10, x_e11, x_e12, x_e13, x_d0, x_d1, x_e15, xs_e0, xs_e1, ao_e0, ao_e1, xo_e0, xo_e1, xc_e0, xc_e1, wpT, wtg, b_add, b_sub, b_mul, b_div, b_mod, b_adds, c_lt, c_le, c_gt, c_ge, c_eq, c_ne, c_eqs, c_nes, c_in, c_nin, t_bool, t_int, t_none, txs_length, txs_nil]
        refine wforI (xs := txs fresh) (by simp [itemsOf, hF]) (fun j V' H' => ∃ x5, V' = [some (.ref wa), some (.ref fu), some (.ref nd), some (.ref dn), some (.ref z), x5, some (.int ((k : Int) + 1 + 1)), some (.ref fr), x8] ∧ Ext H H' ∧ H' rg = some (.range 2 ((dom.length : Int) + 2)) ∧ H' fr = some (.list (txs fresh)) ∧
          DistAt H' z (fun x => if x ∈ fresh.take j then some (k + 1 + 1) else d x) (100 + 100 * k + j)) ⟨x5, rfl, hE, hrg', hF, by simpa using hD⟩ ?_
        rintro I₄ hI₄ j V' H₅ ⟨x5, rfl, hE₅, hrg₅, hF₅, hD₅⟩
        refine ⟨by simp [sameIt, hF₅, hF], fun hj => ?_, fun y hy => ?_⟩
        · rw [hj, txs_length, List.take_length] at hD₅
          rw [w_nil]
          refine hI₂ _ _ _ ⟨x5, _, _, x8, _, rfl, hE₅, hrg₅, ?_, hL'⟩
          obtain ⟨ep, es, e1, e2, e3⟩ := hD₅
          exact ⟨ep, es, e1, by omega, e3⟩
        · obtain ⟨s, rfl, hs⟩ := txs_get hy
          have hjl : j < fresh.length := (List.getElem?_eq_some_iff.mp hs).1
          obtain ⟨ep, es, e1, e2, e3⟩ := hD₅
          refine ⟨by simp, ?_⟩
          rw [w_cons, w_asg]
          simp [x_e0, x_e1, x_e2, x_e3, x_e4, x_e5, x_e6, x_e7, x_e8, x_e9, x_e10, x_e11, x_e12, x_e13, x_d0, x_d1, x_e15, xs_e0, xs_e1, ao_e0, ao_e1, xo_e0, xo_e1, xc_e0, xc_e1, wpT, wtg, b_add, b_sub, b_mul, b_div, b_mod, b_adds, c_lt, c_le, c_gt, c_ge, c_eq, c_ne, c_eqs, c_nes, c_in, c_nin, t_bool, t_int, t_none, txs_length, txs_nil, e1]
          refine ⟨by simp [sizeLine, txs_length]; omega, fun ep' => ?_⟩
          rw [w_nil]
          have hput := DistAt.put (H := H₅) (z := z) (x := s) (v := k + 1 + 1) (ep := ep) (ep' := ep') e2 e3
          refine hI₄ _ _ _ ⟨_, rfl, hE₅.own hz, by rw [up_other (Ne.symm hzr)]; exact hrg₅, by rw [up_other (Ne.symm hzf)]; exact hF₅, ?_⟩
          have hfe : (fun x => if x ∈ fresh.take (j + 1) then some (k + 1 + 1) else d x) = fun y => if y = s then some (k + 1 + 1) else if y ∈ fresh.take j then some (k + 1 + 1) else d y := by
            funext x
            rw [take_snoc hs]
            by_cases h1 : x = s
            · simp [h1]
            · simp [h1]
          rw [hfe]
          have hi : (((k + 1 + 1 : Nat)) : Int) = (k : Int) + 1 + 1 := by omega
          rw [hi] at hput
          exact hput
      · obtain ⟨s, rfl, hs⟩ := txs_get hy
        have hjl : j < full.length := (List.getElem?_eq_some_iff.mp hs).1
        have hsf := List.mem_of_getElem? hs
        refine ⟨by simp, ?_⟩
        rw [w_cons, w_asg]
        simp [x_e0, x_e1, x_e2, x_e3, x_e4, x_e5, x_e6, x_e7, x_e8, x_e9, x_e10, x_e11, x_e12, x_e13, x_d0, x_d1, x_e15, xs_e0, xs_e1, ao_e0, ao_e1, xo_e0, xo_e1, xc_e0, xc_e1, wpT, wtg, b_add, b_sub, b_mul, b_div, b_mod, b_adds, c_lt, c_le, c_gt, c_ge, c_eq, c_ne, c_eqs, c_nes, c_in, c_nin, t_bool, t_int, t_none, txs_length, txs_nil]
        refine sub_needs (hn.ext hE) hsf fun r hr hr8 => ?_
        refine wcomp_ext (xs := txs (f s)) (by simp [itemsOf, hr]) (by simp [sizeLine, txs_length]; omega) (fun v => match v with | .str o => if (d o).isSome then some (.str o) else none | _ => none) ?_ ?_
        · intro v hv H₅ hE₅ nx hnx
          obtain ⟨o, ho, rfl⟩ : ∃ o, o ∈ f s ∧ v = .str o := by
            unfold txs at hv; rw [List.mem_map] at hv; obtain ⟨o, h1, h2⟩ := hv; exact ⟨o, h1, h2.symm⟩
          refine DistAt.win (hD.ext hE₅) ?_
          have hnn := hnx H₅ .refl
          cases h : (d o).isSome <;> simp [h, t_bool] at hnn ⊢ <;> exact hnn
        · intro b H₅ hE₅ hb
          have hfm : ∀ l : List Str, (txs l).filterMap (fun v => match v with | .str o => if (d o).isSome then some (AV.str o) else none | _ => none) = txs (l.filter fun o => (d o).isSome) := by
            intro l
            induction l with
            | nil => rfl
            | cons t r ih =>
              show List.filterMap _ (AV.str t :: txs r) = _
              rw [List.filterMap_cons, ih, List.filter_cons]
              cases h : (d t).isSome <;> simp [txs, h]
          rw [hfm]
          have hX := hE.trans (hE₅.new (o := .list (txs ((f s).filter fun o => (d o).isSome))) hb)
          have hbH : (up H₅ b (.list (txs ((f s).filter fun o => (d o).isSome)))) b = some (.list (txs ((f s).filter fun o => (d o).isSome))) := up_same
          have hE₆ := hE₅.new (o := .list (txs ((f s).filter fun o => (d o).isSome))) hb
          have hD₆ := hD.ext hE₆
          have hF₆ := hE₆ _ _ hF
          have hrg₆ := hE₆ _ _ hrg'
          generalize (up H₅ b (.list (txs ((f s).filter fun o => (d o).isSome)))) = H₆ at hX hbH hE₆ hD₆ hF₆ hrg₆ ⊢
          have hlen' := List.length_filter_le (freshB f d) (full.take j)
          rw [List.length_take] at hlen'
          rw [w_cons, w_ite]
          simp [x_e0, x_e1, x_e2, x_e3, x_e4, x_e5, x_e6, x_e7, x_e8, x_e9, x_e10, x_e11, x_e12, x_e13, x_d0, x_d1, x_e15, xs_e0, xs_e1, ao_e0, ao_e1, xo_e0, xo_e1, xc_e0, xc_e1, wpT, wtg, b_add, b_sub, b_mul, b_div, b_mod, b_adds, c_lt, c_le, c_gt, c_ge, c_eq, c_ne, c_eqs, c_nes, c_in, c_nin, t_bool, t_int, t_none, txs_length, txs_nil]
          refine DistAt.win hD₆ ?_
          have hskip : freshB f d s = false → Ext H H₆ ∧ H₆ rg = some (.range 2 ((dom.length : Int) + 2)) ∧ DistAt H₆ z d (100 + 100 * k) ∧ H₆ fr = some (.list (txs ((full.take (j + 1)).filter (freshB f d)))) := fun h => by
            refine ⟨hX, hrg₆, hD₆, ?_⟩
            rw [hF₆, take_snoc hs, List.filter_append]; simp [h]
          cases h1 : (d s).isSome with
          | true =>
            simp [t_bool, w_nil]
            have hsk := hskip (by simp [freshB, h1])
            exact hI₃ _ _ _ ⟨_, _, rfl, hsk.1, hsk.2.1, hsk.2.2.1, hsk.2.2.2⟩
          | false =>
            simp [t_bool]
            intro b' hb'
            rw [c_ner]
            have E₇ := Ext.refl.new (o := .list []) hb'
            refine weq_txs (l' := []) (E₇ _ _ hbH) up_same ?_
            by_cases h2 : (f s).filter (fun o => (d o).isSome) = []
            · simp [h2, t_bool, w_nil]
              have hsk := hskip (by
                simp [freshB, h1]
                intro o ho
                rw [List.filter_eq_nil_iff] at h2
                simpa using h2 o ho)
              exact hI₃ _ _ _ ⟨_, _, rfl, hsk.1.trans E₇, E₇ _ _ hsk.2.1, hsk.2.2.1.ext E₇, E₇ _ _ hsk.2.2.2⟩
            · simp [h2, t_bool]
              have hfr1 : freshB f d s = true := by
                simp only [freshB, h1, Bool.not_false, Bool.true_and, List.any_eq_true]
                exact Classical.byContradiction fun hn => h2 (List.filter_eq_nil_iff.mpr fun o ho hs' => hn ⟨o, ho, hs'⟩)
              rw [w_cons, w_expr]
              have hF₇ := E₇ _ _ hF₆
              simp [x_e0, x_e1, x_e2, x_e3, x_e4, x_e5, x_e6, x_e7, x_e8, x_e9, x_e10, x_e11, x_e12, x_e13, x_d0, x_d1, x_e15, xs_e0, xs_e1, ao_e0, ao_e1, xo_e0, xo_e1, xc_e0, xc_e1, wpT, wtg, b_add, b_sub, b_mul, b_div, b_mod, b_adds, c_lt, c_le, c_gt, c_ge, c_eq, c_ne, c_eqs, c_nes, c_in, c_nin, t_bool, t_int, t_none, txs_length, txs_nil, hF₇, lmeths]
              refine m_append hF₇ (by simp [txs_length]; omega) ?_
              rw [w_nil]
              refine ⟨by simp, ?_⟩
              refine hI₃ _ _ _ ⟨_, _, rfl, (hX.trans E₇).own hfrH, by rw [up_other hrf]; exact E₇ _ _ hrg₆, ?_, ?_⟩
              · obtain ⟨ep, es, e1, e2⟩ := hD₆.ext E₇
                exact ⟨ep, es, by rw [up_other hzf]; exact e1, e2⟩
              · rw [up_same, take_snoc hs, List.filter_append, txs_snoc]
                simp [hfr1]
  · obtain ⟨s, rfl, hs⟩ := txs_get hy
    have hkl : k < dom.length := (List.getElem?_eq_some_iff.mp hs).1
    refine ⟨by simp, ?_⟩
    rw [w_cons, w_ite]
    simp [x_e0, x_e1, x_e2, x_e3, x_e4, x_e5, x_e6, x_e7, x_e8, x_e9, x_e10, x_e11, x_e12, x_e13, x_d0, x_d1, x_e15, xs_e0, xs_e1, ao_e0, ao_e1, xo_e0, xo_e1, xc_e0, xc_e1, wpT, wtg, b_add, b_sub, b_mul, b_div, b_mod, b_adds, c_lt, c_le, c_gt, c_ge, c_eq, c_ne, c_eqs, c_nes, c_in, c_nin, t_bool, t_int, t_none, txs_length, txs_nil]
    refine win_txs (hE _ _ hf) ?_
    have hsame : (s ∈ full ∨ s ∈ done) → ∀ x, d x = if x ∈ dom.take (k + 1) ∧ x ∉ full ∧ x ∉ done then some 1 else none := fun h x => by
      rw [hd' x, take_snoc hs]
      by_cases h1 : x = s
      · subst h1
        rcases h with h | h <;> simp [h]
      · simp [h1]
    have hDk : DistAt H' z d (k + 1) := by obtain ⟨ep, es, e1, e2, e3⟩ := hD; exact ⟨ep, es, e1, by omega, e3⟩
    by_cases h1 : s ∈ full
    · simp [h1, t_bool, w_nil]
      exact hI _ _ _ ⟨_, d, rfl, hE, hDk, hsame (.inl h1)⟩
    · simp [h1, t_bool]
      refine win_txs (hE _ _ hd) ?_
      by_cases h2 : s ∈ done
      · simp [h2, t_bool, w_nil]
        exact hI _ _ _ ⟨_, d, rfl, hE, hDk, hsame (.inr h2)⟩
      · simp [h2, t_bool]
        obtain ⟨ep, es, e1, e2, e3⟩ := hD
        rw [w_cons, w_asg]
        simp [x_e0, x_e1, x_e2, x_e3, x_e4, x_e5, x_e6, x_e7, x_e8, x_e9, x_e10, x_e11, x_e12, x_e13, x_d0, x_d1, x_e15, xs_e0, xs_e1, ao_e0, ao_e1, xo_e0, xo_e1, xc_e0, xc_e1, wpT, wtg, b_add, b_sub, b_mul, b_div, b_mod, b_adds, c_lt, c_le, c_gt, c_ge, c_eq, c_ne, c_eqs, c_nes, c_in, c_nin, t_bool, t_int, t_none, txs_length, txs_nil, e1]
        refine ⟨by simp [sizeLine, txs_length]; omega, fun ep' => ?_⟩
        rw [w_nil]
        refine hI _ _ _ ⟨_, _, rfl, hE.own hz, DistAt.put (v := 1) (ep := ep) e2 e3, fun x => ?_⟩
        rw [hd' x, take_snoc hs]
        by_cases h3 : x = s
        · subst h3; simp [h1, h2]
        · simp [h3]
end

section
variable {c : Cx} {n : Nat} {H : AHeap}

theorem in_steps {full done dom gl : List Str} {f : Str → List Str} {d : Str → Option Nat} (D : Dist full f done dom d) (hdd : ∀ x ∈ done, d x = none) (Gr : Grt full f done gl) : ∀ (v : Nat) x, d x = some v → x ∉ gl
  | 0, x, h, _ => by have := D.pos x 0 h; omega
  | v + 1, x, h, hx => by
    by_cases h1 : v + 1 = 1
    · rw [h1] at h
      exact ((D.one x).mp h).2.1 (Gr.sub.subset hx)
    · obtain ⟨_, o, ho, hs⟩ := D.far x _ h h1
      rcases Gr.met x hx o ho with z | z
      · exact in_steps D hdd Gr v o (by simpa using hs) z
      · rw [hdd o z] at hs; cases hs
theorem not_steps {full done dom gl : List Str} {f : Str → List Str} {d : Str → Option Nat} (D : Dist full f done dom d) (hdom : ∀ x ∈ full, ∀ o ∈ f x, o ∈ dom) (Gr : Grt full f done gl) {x : Str} (hx : x ∈ dom) (h : d x = none) (hd : x ∉ done) : x ∈ full ∧ x ∈ gl := by
  have out : ∀ y ∈ dom, d y = none → y ∉ done → y ∈ full := fun y hy hn hyd => Classical.byContradiction fun hf => by
    rw [(D.one y).mpr ⟨hy, hf, hyd⟩] at hn; cases hn
  refine ⟨out x hx h hd, Gr.top (fun y => y ∈ full ∧ d y = none) (fun y hy => ⟨hy.1, fun o ho => ?_⟩) x ⟨out x hx h hd, h⟩⟩
  have hon : d o = none := by
    cases hs : d o with
    | none => rfl
    | some s =>
      obtain ⟨v, hv, _⟩ := D.near y hy.1 o ho s hs
      rw [hy.2] at hv; cases hv
  by_cases hod : o ∈ done
  · exact .inr hod
  · exact .inl ⟨out o (hdom y hy.1 o ho) hon hod, hon⟩

/-- the first that comes nearer -/
theorem first_of {p : Str → Bool} : ∀ {l : List Str} {y : Str} {r : List Str}, l.filter p = y :: r → ∃ pre post, l = pre ++ y :: post ∧ ∀ o ∈ pre, p o = false
  | [], y, r, h => by cases h
  | a :: l, y, r, h => by
    rw [List.filter_cons] at h
    cases hp : p a with
    | true =>
      rw [hp] at h
      simp only [if_true] at h
      cases h
      exact ⟨[], l, rfl, by simp⟩
    | false =>
      rw [hp] at h
      simp only [Bool.false_eq_true, if_false] at h
      obtain ⟨pre, post, e, hq⟩ := first_of h
      refine ⟨a :: pre, post, by rw [e]; rfl, fun o ho => ?_⟩
      rcases List.mem_cons.mp ho with rfl | ho
      · exact hp
      · exact hq o ho

theorem GP.snoc {nd : Str → List Str} {d : Str → Option Nat} {T : Nat} {name x y : Str} {P pre post : List Str} (h : GP nd d T name (P ++ [x])) (hy : d y = some (T - P.length - 1)) (hn : nd x = pre ++ y :: post) (hp : ∀ o ∈ pre, d o ≠ some (T - P.length - 1)) : GP nd d T name (P ++ [x] ++ [y]) := by
  have hl : (P ++ [x]).length = P.length + 1 := by simp
  refine ⟨by rw [List.getElem?_append_left (by omega)]; exact h.hd, fun i z hz => ?_, fun i a b ha hb => ?_⟩
  · by_cases hi : i < (P ++ [x]).length
    · rw [List.getElem?_append_left hi] at hz; exact h.dv i z hz
    · have hlt := (List.getElem?_eq_some_iff.mp hz).1
      rw [List.length_append, List.length_singleton] at hlt
      have : i = P.length + 1 := by omega
      subst this
      rw [List.getElem?_append_right (by omega), hl, Nat.sub_self] at hz
      simp at hz; subst hz
      rw [hy]; congr 1
  · have hlt := (List.getElem?_eq_some_iff.mp hb).1
    rw [List.length_append, List.length_singleton, hl] at hlt
    rw [List.getElem?_append_left (by omega)] at ha
    by_cases hi : i + 1 < (P ++ [x]).length
    · rw [List.getElem?_append_left hi] at hb; exact h.nx i a b ha hb
    · have : i = P.length := by omega
      subst this
      rw [List.getElem?_append_right (Nat.le_refl _), Nat.sub_self] at ha
      rw [List.getElem?_append_right (by omega), hl, Nat.sub_self] at hb
      simp at ha hb; subst ha hb
      exact ⟨pre, post, hn, hp⟩

noncomputable def DInv (H : AHeap) (d : Str → Option Nat) (f : Str → List Str) (name : Str) (sp wa fu dn nd sh du : Addr) (x5 x6 : Option AV) (m : Nat) (V' : VV) (H' : AHeap) : Prop :=
  ∃ l here, V' = [some (.ref sp), some (.ref wa), some (.ref fu), some (.ref dn), some (.ref nd), x5, x6, some (.str name), some (.ref sh), some (.ref du), some (.str here), none, none, none] ∧ Ext H H' ∧ H' du = some (.list (txs l)) ∧
    match d name with
    | none => l = [] ∧ here = name
    | some T => l.length + m = T ∧ (m ≠ 0 → GP f d T name (l ++ [here])) ∧ (m = 0 → GP f d T name l) ∧ (d here).isSome = true

theorem due_ok {sp wa fu dn nd sh du : Addr} {full done dom : List Str} {f : Str → List Str} {d : Str → Option Nat} {name : Str} {x5 x6 : Option AV} {QN : VV → AHeap → Prop} {QR : AV → AHeap → Prop} {EE : String → VV → AHeap → Prop} {V : VV}
    (D : Dist full f done dom d) (hsm : ∀ v, d name = some v → v ≤ 1000) (hn : NeedsAt H nd f full) (hS : DistAt H sh d 100000) (hdu : H du = none)
    (hV : V = [some (.ref sp), some (.ref wa), some (.ref fu), some (.ref dn), some (.ref nd), x5, x6, some (.str name), some (.ref sh), some (.ref du), some (.str name), none, none, none])
    (q : ∀ l x10 H', Ext H H' → H' du = some (.list (txs l)) → (d name = none → l = []) → (∀ T, d name = some T → l.length = T ∧ GP f d T name l) → QN [some (.ref sp), some (.ref wa), some (.ref fu), some (.ref dn), some (.ref nd), x5, x6, some (.str name), some (.ref sh), some (.ref du), x10, none, none, none] H') :
    wpS ⟨c, n, true⟩ (.while (.ao true [(.cmp .In (.var 10) (.var 8)), (.cmp .Lt (.prim "len" [(.var 9)]) (.sub (.var 8) (.var 7)))]) [.expr (.meth (.var 9) "append" [(.var 10)]),
      .ite (.cmp .Gt (.sub (.var 8) (.var 10)) (.lit (.int 1))) [.assign (.var 10) (.sub (.comp (.var 14) 1 false (.sub (.var 4) (.var 10)) (some (.ao true [(.cmp .In (.var 14) (.var 8)), (.cmp .Eq (.sub (.var 8) (.var 14)) (.bin .Sub (.sub (.var 8) (.var 10)) (.lit (.int 1))))]))) (.lit (.int 0)))] []]) QN QR EE V (up H du (.list [])) := by
  subst hV
  rw [w_while]
  refine ⟨rfl, DInv H d f name sp wa fu dn nd sh du x5 x6, ?_, ?_⟩
  · cases hd : d name with
    | none => exact ⟨0, [], name, rfl, Ext.refl.own hdu, up_same, by rw [hd]; exact ⟨rfl, rfl⟩⟩
    | some T =>
      have hT := D.pos name T hd
      refine ⟨T, [], name, rfl, Ext.refl.own hdu, up_same, ?_⟩
      rw [hd]
      refine ⟨by simp, fun _ => ⟨rfl, fun i x hx => ?_, fun i x y hx hy => ?_⟩, fun h => by omega, by first | rfl | (rw [hd]; rfl)⟩
      · have : i = 0 := by have := (List.getElem?_eq_some_iff.mp hx).1; simp at this; omega
        subst this
        simp at hx; subst hx; exact hd
      · have := (List.getElem?_eq_some_iff.mp hy).1; simp at this
  rintro m V' H' ⟨l, here, rfl, hE, hl, hI⟩
  have hS' := hS.ext hE
  cases hd : d name with
  | none =>
    rw [hd] at hI
    obtain ⟨rfl, rfl⟩ := hI
    simp [x_e0, x_e1, x_e2, x_e3, x_e4, x_e5, x_e6, x_e7, x_e8, x_e9, x_e10, x_e11, x_e12, x_e13, x_d0, x_d1, x_e15, xs_e0, xs_e1, ao_e0, ao_e1, xo_e0, xo_e1, xc_e0, xc_e1, wpT, wtg, b_add, b_sub, b_mul, b_div, b_mod, b_adds, c_lt, c_le, c_gt, c_ge, c_eq, c_ne, c_eqs, c_nes, c_in, c_nin, t_bool, t_int, t_none, txs_length, txs_nil]
    refine DistAt.win hS' ?_
    simp [hd, t_bool]
    exact q [] _ H' hE hl (fun _ => rfl) fun T hT => by rw [hd] at hT; cases hT
  | some T =>
    rw [hd] at hI
    obtain ⟨hlm, hg1, hg0, hse⟩ := hI
    have hT1 := hsm T hd
    simp [x_e0, x_e1, x_e2, x_e3, x_e4, x_e5, x_e6, x_e7, x_e8, x_e9, x_e10, x_e11, x_e12, x_e13, x_d0, x_d1, x_e15, xs_e0, xs_e1, ao_e0, ao_e1, xo_e0, xo_e1, xc_e0, xc_e1, wpT, wtg, b_add, b_sub, b_mul, b_div, b_mod, b_adds, c_lt, c_le, c_gt, c_ge, c_eq, c_ne, c_eqs, c_nes, c_in, c_nin, t_bool, t_int, t_none, txs_length, txs_nil]
    refine DistAt.win hS' ?_
    simp [hse, t_bool]
    refine p_len hl (by simp [txs_length]; omega) ?_
    refine DistAt.sub hS' hd ?_
    rw [txs_length, c_lt, t_bool]
    by_cases hm : m = 0
    · have hlt : ¬ ((l.length : Int) < (T : Int)) := by omega
      simp only [hlt, decide_false, Bool.false_eq_true, if_false]
      refine q l _ H' hE hl (fun h => by rw [hd] at h; cases h) fun T' hT' => ?_
      rw [hd] at hT'; cases hT'
      exact ⟨by omega, hg0 hm⟩
    · have hlt : ((l.length : Int) < (T : Int)) := by omega
      simp only [hlt, decide_true, if_true]
      have hg := hg1 hm
      have hdh : d here = some (T - l.length) := hg.dv l.length here (by simp)
      rw [w_cons, w_expr]
      simp [x_e0, x_e1, x_e2, x_e3, x_e4, x_e5, x_e6, x_e7, x_e8, x_e9, x_e10, x_e11, x_e12, x_e13, x_d0, x_d1, x_e15, xs_e0, xs_e1, ao_e0, ao_e1, xo_e0, xo_e1, xc_e0, xc_e1, wpT, wtg, b_add, b_sub, b_mul, b_div, b_mod, b_adds, c_lt, c_le, c_gt, c_ge, c_eq, c_ne, c_eqs, c_nes, c_in, c_nin, t_bool, t_int, t_none, txs_length, txs_nil, hl, lmeths]
      refine m_append hl (by simp [txs_length]; omega) ?_
      have hX : Ext H (up H' du (.list (txs l ++ [.str here]))) := hE.own hdu
      have hdl : (up H' du (.list (txs l ++ [.str here]))) du = some (.list (txs (l ++ [here]))) := by rw [up_same, txs_snoc]
      refine ⟨by simp, ?_⟩
      generalize (up H' du (.list (txs l ++ [.str here]))) = H₁ at hX hdl ⊢
      have hS₁ := hS.ext hX
      rw [w_cons, w_ite]
      simp only [x_e0, x_e1, x_e2, x_e3, x_e4, x_e5, x_e6, x_e7, x_e8, x_e9, x_e10, x_e11, x_e12, x_e13, x_d0, x_d1, x_e15, List.getElem?_cons_succ, List.getElem?_cons_zero]
      refine DistAt.sub hS₁ hdh ?_
      rw [c_gt, t_bool]
      by_cases hm1 : m = 1
      · have h1 : ¬ ((1 : Int) < ((T - l.length : Nat) : Int)) := by omega
        simp only [h1, decide_false, Bool.false_eq_true, if_false]
        rw [w_nil, w_nil]
        refine ⟨0, by omega, l ++ [here], here, rfl, hX, hdl, ?_⟩
        rw [hd]
        exact ⟨by simp [txs_length]; omega, fun h => absurd rfl h, fun _ => hg, hse⟩
      · have h1 : ((1 : Int) < ((T - l.length : Nat) : Int)) := by omega
        simp only [h1, decide_true, if_true]
        obtain ⟨hf, o₀, ho₀, hs₀⟩ := D.far here _ hdh (by omega)
        rw [w_cons, w_asg]
        simp only [x_e0, x_e1, x_e2, x_e3, x_e4, x_e5, x_e6, x_e7, x_e8, x_e9, x_e10, x_e11, x_e12, x_e13, x_d0, x_d1, x_e15, List.getElem?_cons_succ, List.getElem?_cons_zero, true_and, Bool.false_eq_true, if_false]
        refine sub_needs (hn.ext hX) hf fun r hr hr8 => ?_
        refine wcomp_ext (xs := txs (f here)) (by simp [itemsOf, hr]) (by simp [sizeLine, txs_length]; omega) (fun v => match v with | .str o => if d o = some (T - l.length - 1) then some (.str o) else none | _ => none) ?_ ?_
        · intro v hv H₂ hE₂ nx hnx
          obtain ⟨o, ho, rfl⟩ : ∃ o, o ∈ f here ∧ v = .str o := by
            unfold txs at hv; rw [List.mem_map] at hv; obtain ⟨o, h1, h2⟩ := hv; exact ⟨o, h1, h2.symm⟩
          have hS₂ := hS₁.ext hE₂
          have hnn := hnx H₂ .refl
          simp [x_e0, x_e1, x_e2, x_e3, x_e4, x_e5, x_e6, x_e7, x_e8, x_e9, x_e10, x_e11, x_e12, x_e13, x_d0, x_d1, x_e15, xs_e0, xs_e1, ao_e0, ao_e1, xo_e0, xo_e1, xc_e0, xc_e1, wpT, wtg, b_add, b_sub, b_mul, b_div, b_mod, b_adds, c_lt, c_le, c_gt, c_ge, c_eq, c_ne, c_eqs, c_nes, c_in, c_nin, t_bool, t_int, t_none, txs_length, txs_nil]
          refine DistAt.win hS₂ ?_
          cases hdo : d o with
          | none => simp [hdo, t_bool] at hnn ⊢; exact hnn
          | some s =>
            simp [hdo, t_bool] at hnn ⊢
            refine DistAt.sub hS₂ hdo ?_
            refine DistAt.sub hS₂ hdh ?_
            rw [b_sub, c_eq, t_bool]
            by_cases h2 : s = T - l.length - 1
            · have h3 : ((s : Int) == ((T - l.length : Nat) : Int) - 1) = true := by simp [txs_length]; omega
              simp [h2] at hnn
              simp only [h3, if_true]; exact hnn
            · have h3 : ((s : Int) == ((T - l.length : Nat) : Int) - 1) = false := by simp [txs_length]; omega
              simp [h2] at hnn
              simp only [h3, Bool.false_eq_true, if_false]; exact hnn
        · intro b H₂ hE₂ hb
          have hfm : ∀ l' : List Str, (txs l').filterMap (fun v => match v with | .str o => if d o = some (T - l.length - 1) then some (AV.str o) else none | _ => none) = txs (l'.filter fun o => decide (d o = some (T - l.length - 1))) := by
            intro l'
            induction l' with
            | nil => rfl
            | cons t r ih =>
              show List.filterMap _ (AV.str t :: txs r) = _
              rw [List.filterMap_cons, ih, List.filter_cons]
              by_cases h : d t = some (T - l.length - 1) <;> simp [txs, h]
          rw [hfm]
          have hne : (f here).filter (fun o => decide (d o = some (T - l.length - 1))) ≠ [] := fun h => by
            rw [List.filter_eq_nil_iff] at h
            exact h o₀ ho₀ (by simpa using hs₀)
          obtain ⟨y, ys, hys⟩ := List.exists_cons_of_ne_nil hne
          obtain ⟨pre, post, e1, e2⟩ := first_of hys
          have hym : y ∈ (f here).filter (fun o => decide (d o = some (T - l.length - 1))) := by rw [hys]; exact .head _
          have hdy : d y = some (T - l.length - 1) := by simpa using (List.mem_filter.mp hym).2
          have hl8 := List.length_filter_le (fun o => decide (d o = some (T - l.length - 1))) (f here)
          refine sub_txs (k := 0) up_same (by rw [hys]; rfl) (by omega) ?_
          simp only [wpT]
          refine ⟨by simp, ?_⟩
          rw [w_nil, w_nil]
          refine ⟨m - 1, by omega, l ++ [here], y, rfl, (hX.trans hE₂).new hb, (hE₂.new hb) _ _ hdl, ?_⟩
          rw [hd]
          exact ⟨by simp [txs_length]; omega, fun _ => GP.snoc hg hdy e1 fun o ho h => by have := e2 o ho; simp [h] at this, fun h => by omega, by rw [hdy]; rfl⟩
end

section
variable {c : Cx} (G : Gd c P) {n : Nat} {H : AHeap}
theorem add_txs {Q : AV → AHeap → Prop} {x y : Addr} {a b : List Str} (hx : H x = some (.list (txs a))) (hy : H y = some (.list (txs b))) (ha : a.length ≤ 1000) (hb : b.length ≤ 1000) (q : ∀ z, H z = none → Q (.ref z) (up H z (.list (txs (a ++ b))))) : wbin .Add (.ref x) (.ref y) Q H := by
  simp only [wbin, hx, hy]
  refine ⟨by simp [sizeLine, txs_length]; omega, fun z hz => ?_⟩
  have := q z hz
  simpa [txs] using this
theorem weq_bool {Q : AV → AHeap → Prop} {a b ne : Bool} (q : Q (.bool ((a == b) != ne)) H) : weq ne (.bool a) (.bool b) Q H := by
  have h : weq ne (.bool a) (.bool b) Q H = ∃ da db, RD H (.bool a) da ∧ RD H (.bool b) db ∧ okD da ∧ okD db ∧ Q (.bool ((PyData.eqv da db) != ne)) H := rfl
  rw [h]
  exact ⟨.bool a, .bool b, .bool a, .bool b, ⟨rfl, Nat.zero_le _⟩, ⟨rfl, Nat.zero_le _⟩, by simpa [PyData.eqv] using q⟩

include G
theorem law_ok {sp : Addr} {ns : List Int} (hs : H sp = some (.script ns)) (hl : ns.length < 2 ^ 62) : CallOK c (n + 4) true "law" [.ref sp] (fun v _ => v = .bool true) (fun _ _ => False) H := by
  refine G.call (F := f_law) rfl rfl ?_
  show wpSs _ (_ :: (buildS 3 60 ++ f_law.body.drop 5)) _ _ _ [some (.ref sp), none, none, none, none, none, none, none, none, none, none, none, none, none] _
  rw [w_cons, w_asg]
  simp [x_e0, x_e1, x_e2, x_e3, x_e4, x_e5, x_e6, x_e7, x_e8, x_e9, x_e10, x_e11, x_e12, x_e13, x_d0, x_d1, x_e15, xs_e0, xs_e1, ao_e0, ao_e1, xo_e0, xo_e1, xc_e0, xc_e1, wpT, wtg, b_add, b_sub, b_mul, b_div, b_mod, b_adds, c_lt, c_le, c_gt, c_ge, c_eq, c_ne, c_eqs, c_nes, c_in, c_nin, t_bool, t_int, t_none, txs_length, txs_nil, p_lens, p_range, p_range2]
  refine words_ok (n := n) (m := 31) G (by omega) (by omega) rfl rfl rfl rfl hs hl fun wa H₁ hE₁ hwa hw => ?_
  have hlen : (wordsL 31 ns).length ≤ 40 := by rw [wordsL_len]; exact wcount_le (by omega) (by omega)
  have hpos : 2 ≤ (wordsL 31 ns).length := by rw [wordsL_len]; exact wcount_ge (by omega)
  have hnodup : (wordsL 31 ns).Nodup := wordsL_nodup (by omega) (by omega)
  generalize wordsL 31 ns = ws at hlen hpos hw hnodup
  rw [w_append]
  refine build_ok (n := n + 2) G (by omega) (by omega) rfl rfl rfl (hE₁ _ _ hs) hl hw (by intro z; simp [z] at hpos) (by omega) fun fu dn nd x5 x6 H₂ full done f B => ?_
  have hlf : full.length ≤ 40 := Nat.le_trans B.sfu.length_le hlen
  have hld : done.length ≤ 40 := Nat.le_trans B.sdn.length_le hlen
  have hdj := B.dj hnodup
  have lf1 : full.length ≤ 1000 := Nat.le_trans hlf (by decide)
  have ld1 : done.length ≤ 1000 := Nat.le_trans hld (by decide)
  have lw1 : ws.length ≤ 1000 := Nat.le_trans hlen (by decide)
  have hs₂ := B.ext _ _ (hE₁ _ _ hs)
  have hw₂ := B.ext _ _ hw
  simp only [f_law, List.drop_succ_cons, List.drop_zero]
  rw [w_cons, w_asg]
  simp [x_e0, x_e1, x_e2, x_e3, x_e4, x_e5, x_e6, x_e7, x_e8, x_e9, x_e10, x_e11, x_e12, x_e13, x_d0, x_d1, x_e15, xs_e0, xs_e1, ao_e0, ao_e1, xo_e0, xo_e1, xc_e0, xc_e1, wpT, wtg, b_add, b_sub, b_mul, b_div, b_mod, b_adds, c_lt, c_le, c_gt, c_ge, c_eq, c_ne, c_eqs, c_nes, c_in, c_nin, t_bool, t_int, t_none, txs_length, txs_nil]
  intro a ha
  have ea : AObj.list [AV.str (Str.ofString "nobody")] = .list (txs [Str.ofString "nobody"]) := rfl
  rw [ea]
  have Ea := Ext.refl.new (o := .list (txs [Str.ofString "nobody"])) ha
  refine add_txs (Ea _ _ hw₂) up_same lw1 (by decide) fun b hb => ?_
  have Eb := Ea.trans (Ext.refl.new (o := .list (txs (ws ++ [Str.ofString "nobody"]))) hb)
  have hdl : (ws ++ [Str.ofString "nobody"]).length ≤ 41 := by simp [txs_length]; omega
  have hdl2 : (ws ++ [Str.ofString "nobody"]).length = ws.length + 1 := by simp
  have hdomw : ∀ x ∈ ws, x ∈ ws ++ [Str.ofString "nobody"] := fun x hx => List.mem_append_left _ hx
  generalize hdomE : ws ++ [Str.ofString "nobody"] = dom at hdl hdl2 hdomw Eb ⊢
  refine cell_ok G rfl (by omega) (Eb _ _ hs₂) hl ?_
  refine p_lenT (Eb _ _ hw₂) lw1 ?_
  rw [b_add, b_mod]
  refine ⟨by omega, ?_⟩
  refine sub_txsI up_same (fmod_lo (by omega)) (by rw [hdl2]; have := fmod_hi (x := cell ns (Int.toNat 2)) (m := (ws.length : Int) + 1) (by omega); omega) (by omega) fun name hname => ?_
  have B₃ := B.grow Eb
  generalize up (up H₂ a (.list (txs [Str.ofString "nobody"]))) b (.list (txs dom)) = H₃ at Eb B₃ ⊢
  clear B
  have hw₃ := Eb _ _ hw₂
  have dl1 : dom.length ≤ 1000 := Nat.le_trans hdl (by decide)
  have hdom : ∀ x ∈ full, ∀ o ∈ f x, o ∈ dom := fun x hx o ho => hdomw o ((B₃.fin x hx).2 o ho)
  have hfd : ∀ x ∈ full, x ∈ dom := fun x hx => hdomw x (B₃.sfu.subset hx)
  rw [w_cons, w_asg]
  simp [x_e0, x_e1, x_e2, x_e3, x_e4, x_e5, x_e6, x_e7, x_e8, x_e9, x_e10, x_e11, x_e12, x_e13, x_d0, x_d1, x_e15, xs_e0, xs_e1, ao_e0, ao_e1, xo_e0, xo_e1, xc_e0, xc_e1, wpT, wtg, b_add, b_sub, b_mul, b_div, b_mod, b_adds, c_lt, c_le, c_gt, c_ge, c_eq, c_ne, c_eqs, c_nes, c_in, c_nin, t_bool, t_int, t_none, txs_length, txs_nil]
  intro a' ha'
  rw [ea]
  have Ea' := Ext.refl.new (o := .list (txs [Str.ofString "nobody"])) ha'
  refine add_txs (Ea' _ _ hw₃) up_same lw1 (by decide) fun b' hb' => ?_
  have Eb' := Ea'.trans (Ext.refl.new (o := .list (txs (ws ++ [Str.ofString "nobody"]))) hb')
  have B₄ := B₃.grow Eb'
  rw [hdomE] at B₄ ⊢
  refine steps_ok (n := n + 2) G up_same B₄.hfu B₄.needs B₄.hdn (by omega) (by omega) fun sh H₅ d E₅ hsh hSt L => ?_
  have B₅ := B₄.grow E₅
  clear B₃ B₄ ha' hb' Ea' Eb' E₅ hsh
  have D := L.dist hfd (Nat.lt_succ_self _)
  have hdd := L.off hdj
  rw [w_cons, w_asg]
  simp [x_e0, x_e1, x_e2, x_e3, x_e4, x_e5, x_e6, x_e7, x_e8, x_e9, x_e10, x_e11, x_e12, x_e13, x_d0, x_d1, x_e15, xs_e0, xs_e1, ao_e0, ao_e1, xo_e0, xo_e1, xc_e0, xc_e1, wpT, wtg, b_add, b_sub, b_mul, b_div, b_mod, b_adds, c_lt, c_le, c_gt, c_ge, c_eq, c_ne, c_eqs, c_nes, c_in, c_nin, t_bool, t_int, t_none, txs_length, txs_nil]
  intro du hdu
  rw [w_cons, w_asg]
  simp [x_e0, x_e1, x_e2, x_e3, x_e4, x_e5, x_e6, x_e7, x_e8, x_e9, x_e10, x_e11, x_e12, x_e13, x_d0, x_d1, x_e15, xs_e0, xs_e1, ao_e0, ao_e1, xo_e0, xo_e1, xc_e0, xc_e1, wpT, wtg, b_add, b_sub, b_mul, b_div, b_mod, b_adds, c_lt, c_le, c_gt, c_ge, c_eq, c_ne, c_eqs, c_nes, c_in, c_nin, t_bool, t_int, t_none, txs_length, txs_nil]
  rw [w_cons]
  refine due_ok (n := n + 3) D (fun v hv => by have := (L.rng name v hv).2; omega) B₅.needs hSt hdu rfl fun l x10 H₆ E₆ hdl6 hl0 hlT => ?_
  have B₆ := B₅.grow E₆
  have hll : l.length ≤ 100 := by
    cases hdn' : d name with
    | none => rw [hl0 hdn']; simp
    | some T => rw [(hlT T hdn').1]; have := (L.rng name T hdn').2; omega
  rw [w_cons, w_asg]
  simp [x_e0, x_e1, x_e2, x_e3, x_e4, x_e5, x_e6, x_e7, x_e8, x_e9, x_e10, x_e11, x_e12, x_e13, x_d0, x_d1, x_e15, xs_e0, xs_e1, ao_e0, ao_e1, xo_e0, xo_e1, xc_e0, xc_e1, wpT, wtg, b_add, b_sub, b_mul, b_div, b_mod, b_adds, c_lt, c_le, c_gt, c_ge, c_eq, c_ne, c_eqs, c_nes, c_in, c_nin, t_bool, t_int, t_none, txs_length, txs_nil]
  refine p_listT B₆.hfu lf1 fun on hon => ?_
  have B₇ := B₆.grow (Ext.refl.new (o := .list (txs full)) hon)
  refine p_listT B₇.hdn ld1 fun ot hot => ?_
  have E₇ := Ext.refl.new (o := .list (txs done)) hot
  refine chain_ok (n := n) (dom := dom) G rfl rfl rfl rfl (E₇ _ _ up_same) (B₇.grow E₇).needs up_same lf1 ld1 hname hdom dl1 fun fo H₈ g' hE₈ hfo Gr' hfo' => ?_
  have E₈ : Ext H₆ H₈ := ((Ext.refl.new hon).trans E₇).trans hE₈
  have B₈ := B₆.grow E₈
  have hdu₈ := E₈ _ _ hdl6
  have hfl : (if name ∈ done ∨ name ∈ g' then [] else bfsOf full f done dom.length name) = l := by
    cases hdn' : d name with
    | none =>
      rw [hl0 hdn']
      by_cases h1 : name ∈ done
      · simp [h1]
      · have := (not_steps D hdom Gr' hname hdn' h1).2
        simp [this]
    | some T =>
      have h1 : name ∉ done := fun h => by rw [hdd name h] at hdn'; cases hdn'
      have h2 : name ∉ g' := in_steps D hdd Gr' T name hdn'
      obtain ⟨h3, h4⟩ := hlT T hdn'
      simp only [h1, h2, or_self, if_false]
      exact bfsOf_greedy D hdd hdom hname hdn' h4 h3
  rw [hfl] at hfo'
  clear B₇ E₇ hE₈ hfo hon hot
  rw [w_cons, w_ite]
  simp [x_e0, x_e1, x_e2, x_e3, x_e4, x_e5, x_e6, x_e7, x_e8, x_e9, x_e10, x_e11, x_e12, x_e13, x_d0, x_d1, x_e15, xs_e0, xs_e1, ao_e0, ao_e1, xo_e0, xo_e1, xc_e0, xc_e1, wpT, wtg, b_add, b_sub, b_mul, b_div, b_mod, b_adds, c_lt, c_le, c_gt, c_ge, c_eq, c_ne, c_eqs, c_nes, c_in, c_nin, t_bool, t_int, t_none, txs_length, txs_nil, isinstV, vkind, hfo']
  have hl1 : l.length ≤ 1000 := Nat.le_trans hll (by decide)
  refine p_lenT hfo' hl1 ?_
  refine p_lenT hdu₈ hl1 ?_
  rw [c_ne, bne_self_eq_false, t_bool]
  simp only [Bool.false_eq_true, if_false]
  rw [w_nil, w_cons, w_for]
  refine ⟨rfl, ?_⟩
  simp [x_e0, x_e1, x_e2, x_e3, x_e4, x_e5, x_e6, x_e7, x_e8, x_e9, x_e10, x_e11, x_e12, x_e13, x_d0, x_d1, x_e15, xs_e0, xs_e1, ao_e0, ao_e1, xo_e0, xo_e1, xc_e0, xc_e1, wpT, wtg, b_add, b_sub, b_mul, b_div, b_mod, b_adds, c_lt, c_le, c_gt, c_ge, c_eq, c_ne, c_eqs, c_nes, c_in, c_nin, t_bool, t_int, t_none, txs_length, txs_nil]
  refine wforI (xs := txs l) (by simp [itemsOf, hfo']) (fun k V' H' => H₈ = H' ∧ ∃ x12, V' = [some (.ref sp), some (.ref wa), some (.ref fu), some (.ref dn), some (.ref nd), x5, x6, some (.str name), some (.ref sh), some (.ref du), x10, some (.ref fo), x12, none]) ⟨rfl, none, rfl⟩ ?_
  rintro I hI k V' H' ⟨rfl, x12, rfl⟩
  refine ⟨by simp [sameIt], fun hk => ?_, fun y hy => ?_⟩
  · rw [w_cons, w_asg]
    simp [x_e0, x_e1, x_e2, x_e3, x_e4, x_e5, x_e6, x_e7, x_e8, x_e9, x_e10, x_e11, x_e12, x_e13, x_d0, x_d1, x_e15, xs_e0, xs_e1, ao_e0, ao_e1, xo_e0, xo_e1, xc_e0, xc_e1, wpT, wtg, b_add, b_sub, b_mul, b_div, b_mod, b_adds, c_lt, c_le, c_gt, c_ge, c_eq, c_ne, c_eqs, c_nes, c_in, c_nin, t_bool, t_int, t_none, txs_length, txs_nil]
    refine p_listT B₈.hfu lf1 fun on hon => ?_
    have B₉ := B₈.grow (Ext.refl.new (o := .list (txs full)) hon)
    refine p_listT B₉.hdn ld1 fun ot hot => ?_
    have E₉ := Ext.refl.new (o := .list (txs done)) hot
    refine greatest_ok (n := n + 1) G rfl rfl rfl (E₉ _ _ up_same) (B₉.grow E₉).needs up_same lf1 ld1 fun go H₁₀ gl hE₁₀ hgo hgo' Gr => ?_
    have E₁₀ : Ext H₈ H₁₀ := ((Ext.refl.new hon).trans E₉).trans hE₁₀
    refine win_txs hgo' ?_
    rw [w_cons, w_ret]
    simp [x_e0, x_e1, x_e2, x_e3, x_e4, x_e5, x_e6, x_e7, x_e8, x_e9, x_e10, x_e11, x_e12, x_e13, x_d0, x_d1, x_e15, xs_e0, xs_e1, ao_e0, ao_e1, xo_e0, xo_e1, xc_e0, xc_e1, wpT, wtg, b_add, b_sub, b_mul, b_div, b_mod, b_adds, c_lt, c_le, c_gt, c_ge, c_eq, c_ne, c_eqs, c_nes, c_in, c_nin, t_bool, t_int, t_none, txs_length, txs_nil]
    rw [c_eqr]
    refine weq_txs (E₁₀ _ _ hfo') (E₁₀ _ _ hdu₈) ?_
    simp [t_bool]
    refine win_txs (E₁₀ _ _ B₈.hfu) ?_
    by_cases hnf : name ∈ full
    · simp [hnf, t_bool]
      intro z hz
      rw [c_eqr]
      have E₁₁ := Ext.refl.new (o := .list []) hz
      refine weq_txs (l' := []) (E₁₁ _ _ (E₁₀ _ _ hdu₈)) up_same ?_
      rw [c_eqr]
      refine weq_bool ?_
      have hiff : name ∈ gl ↔ l = [] := by
        cases hdn' : d name with
        | none =>
          rw [hl0 hdn']
          exact ⟨fun _ => rfl, fun _ => (not_steps D hdom Gr hname hdn' (hdj name hnf)).2⟩
        | some T =>
          obtain ⟨h3, _⟩ := hlT T hdn'
          have := D.pos name T hdn'
          exact ⟨fun h => absurd h (in_steps D hdd Gr T name hdn'), fun h => by rw [h] at h3; simp at h3; omega⟩
      simp [hiff]
    · simp [hnf, t_bool]
      rw [c_eqr]
      refine weq_bool ?_
      have hng : name ∉ gl := fun h => hnf (Gr.sub.subset h)
      simp [hng]
  · obtain ⟨s, rfl, _⟩ := txs_get hy
    refine ⟨by simp, ?_⟩
    rw [w_cons, w_ite]
    simp [x_e0, x_e1, x_e2, x_e3, x_e4, x_e5, x_e6, x_e7, x_e8, x_e9, x_e10, x_e11, x_e12, x_e13, x_d0, x_d1, x_e15, xs_e0, xs_e1, ao_e0, ao_e1, xo_e0, xo_e1, xc_e0, xc_e1, wpT, wtg, b_add, b_sub, b_mul, b_div, b_mod, b_adds, c_lt, c_le, c_gt, c_ge, c_eq, c_ne, c_eqs, c_nes, c_in, c_nin, t_bool, t_int, t_none, txs_length, txs_nil, isinstV, vkind, w_nil]
    exact hI _ _ _ ⟨rfl, _, rfl⟩
end
end Mine.L06

end
open PySem.W.X in
set_option maxHeartbeats 0 in
theorem PySem.Challenge.cw_uf020038_06_holds : PySem.Challenge.rw_uf020038_06.Holds := by
  w_on; o_law; k_head; (case hw => w_witness2)
  k_fill
  intro w s₀ s₁ mg mb G Y fa o pm cd doc dV kV ho hd hcd hD hmg hg args vals as hpre hlay hrd hwl hlo
  have KX := kIn_of Y
  clear Y ho hd hcd hD
  refine Ground.open G ?_
  intro T B D TE TW
  wrow_args hpre hlay hrd hwl hlo
  clear G B D TE TW
  have hseer := T.seer (by decide +kernel)
  refine Mine.enter (P := Mine.L06.P) (n := 4) (by decide) KX T hseer (by rfl) rfl hmg (by kernel_rfl) (by rfl) (Mine.script_get (by assumption) (by assumption)) (by assumption) ?mineC ?mineQ
  case mineC =>
    intro c hP C PO FO
    exact Mine.L06.law_ok (n := 0) ⟨hP, ⟨_, _, C⟩, PO, FO⟩ Mine.scriptH_at (by omega)
  case mineQ =>
    intro s' st ho hgn
    exact GoodW.toG ⟨.inl ⟨.bool true, .bool true, [], rfl, fun _ => rfl, .bool true, by kernel_rfl, fun _ => ⟨List.nodup_nil, fun a ha => by cases ha⟩⟩, st, ho, hgn.trans hg⟩
#print axioms PySem.Challenge.cw_uf020038_06_holds
