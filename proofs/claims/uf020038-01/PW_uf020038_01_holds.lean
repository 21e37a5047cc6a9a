import PyProof.Rows.All
import Wide.All
import OpenK.AllK
import Wide.FinOn
import PySem.Challenge.RW_uf020038_01
open PySem PySem.W PyProof.Rows PySem.Spec PySem.SeqAt PySem.Calls
set_option Elab.async false
set_option maxRecDepth 100000
set_option maxHeartbeats 4000000
set_option linter.all false
namespace Mine

/-! ## abstract values and objects -/
inductive AV where
  | none
  | bool (b : Bool)
  | int (i : Int)
  | str (s : Str)
  | ref (a : Addr)
  deriving DecidableEq, Inhabited

inductive AObj where
  | list (xs : List AV)
  | tuple (xs : List AV)
  | dict (ep : Nat) (es : List (Str × AV))
  | inst (c : String) (es : List (String × AV))
  | range (lo hi : Int)
  | vals (d : Addr)
  | itms (d : Addr)
  | exc (c : String)
  | script (ns : List Int)

/-- the script: the callers' own, never stored into -/
def AObj.isS : AObj → Bool
  | .script _ => true
  | _ => false
def AObj.isX : AObj → Bool
  | .script _ => true
  | .exc _ => true
  | _ => false

abbrev AHeap := Addr → Option AObj
def up (H : AHeap) (a : Addr) (o : AObj) : AHeap := fun b => if b = a then some o else H b
abbrev VV := List (Option AV)

inductive VR : AV → Value → Prop
  | none : VR .none .none
  | bool (b : Bool) : VR (.bool b) (.bool b)
  | int (i : Int) (t : Tok) : VR (.int i) (.int i t)
  | str (s : Str) (t : Tok) (h : PyData.strOk s = true) : VR (.str s) (.str s t)
  | ref (a : Addr) : VR (.ref a) (.ref a)
inductive VRs : List AV → List Value → Prop
  | nil : VRs [] []
  | cons {a v as vs} : VR a v → VRs as vs → VRs (a :: as) (v :: vs)
inductive OVR : Option AV → Option Value → Prop
  | none : OVR Option.none Option.none
  | some {a v} : VR a v → OVR (Option.some a) (Option.some v)
/-- a dict's pairs -/
inductive DRs : List (Str × AV) → List (Str × Value) → Prop
  | nil : DRs [] []
  | cons {k a v as vs} : PyData.strOk k = true → VR a v → DRs as vs → DRs ((k, a) :: as) ((k, v) :: vs)

/-! ## the abstract program -/
/-- for-targets -/
inductive Tg where
  | var (i : Nat)
  | tup (is : List Nat)

inductive X where
  | lit (v : AV)
  | var (i : Nat)
  | glob (n : String)
  | bin (op : Operator) (a b : X)
  | neg (a : X)
  | not (a : X)
  | ao (isAnd : Bool) (xs : List X)
  | ite (c a b : X)
  | cmp (op : CmpOp) (a b : X)
  | cmp2 (op₁ op₂ : CmpOp) (a b c : X)
  | sub (a i : X)
  | slice (a : X) (lo hi st : Option X)
  | attr (a : X) (n : String)
  | call (f : String) (xs : List X)
  | new (c : String) (xs : List X)
  | meth (a : X) (m : String) (xs : List X)
  | prim (f : String) (xs : List X)
  | isinst (a : X) (c : String)
  | list (xs : List X)
  | tuple (xs : List X)
  | dict (ks vs : List X)
  | comp (e : X) (k : Nat) (tup : Bool) (it : X) (c : Option X)

/-- assignment targets -/
inductive T where
  | var (i : Nat)
  | tup (is : List Nat)
  | sub (a i : X)
  | attr (a : X) (n : String)

mutual
inductive S where
  | assign (t : T) (e : X)
  | expr (e : X)
  | ret (e : X)
  | ite (c : X) (a b : List S)
  | while (c : X) (body : List S)
  | for (t : Tg) (it : X) (body : List S)
  | raise (c : String) (msg : Str)
  | try (body : List S) (hs : List Hd)
  | pass
inductive Hd where
  | mk (c : String) (nm : Option Nat) (body : List S)
end

structure Fn where
  npar : Nat
  slots : List String
  body : List S

/-- the abstract program: all defs by their qualified names; the names of the plain ones; constants; exception classes with what stands above them (themselves first); classes; (class, method), (class, attribute) -/
structure Pg where
  fns : List (String × Fn)
  gfns : List String
  consts : List (String × AV)
  excs : List (String × List String)
  classes : List String
  meths : List (String × String)
  attrs : List (String × String)
  prims : List String

/-! ## concrete resources -/
inductive Res where
  | ns (m : Str → Option Value)
  | cell (v : Option Value)
  | obj (o : Obj)
abbrev RR := Addr → Option Res
def rup (R : RR) (a : Addr) (r : Res) : RR := fun b => if b = a then some r else R b

def ResAt (h : Heap) (b : Addr) : Res → Prop
  | .ns m => h.Ns b m
  | .cell v => ∃ o, h.get? b = some o ∧ o.data = .cell v
  | .obj o => h.get? b = some o

/-- everything that is fixed for one row -/
structure Cx where
  prog : Program
  w : World
  K : Frag
  base : Heap
  P : Pg
  fa : String → Addr
  ca : String → Addr

def attrsAre (es : List (String × AV)) (ents : List DictEntry) : Prop :=
  match es, ents with
  | [], [] => True
  | (n, a) :: r, e :: q => (∃ t, e.key = .str (Str.ofString n) t) ∧ VR a e.val ∧ attrsAre r q
  | _, _ => False

def RgOk (a b : Int) : Prop := -(2 ^ 62) < a ∧ a < 2 ^ 62 ∧ -(2 ^ 62) < b ∧ b < 2 ^ 62
def ORep (c : Cx) (h : Heap) (D : Addr → Addr) (a : Addr) : AObj → Prop
  | .list xs => ∃ vs n, h.get? a = some (listOf (vs : List Value).toArray n) ∧ VRs xs vs
  | .tuple xs => ∃ vs n, h.get? a = some { cls := .type "tuple", data := .seq (vs : List Value).toArray n } ∧ VRs xs vs
  | .dict ep es => ∃ kvs, h.DictAt (strKind c.prog c.w) a kvs ep ∧ DRs es kvs
  | .inst cl es => h.get? a = some (instObj (c.ca cl) (D a)) ∧ ∃ ents n, h.get? (D a) = some (dictOf ents n) ∧ attrsAre es ents ∧ (es.map (·.1)).Nodup
  | .range lo hi => RgOk lo hi ∧ ∃ t u v, IsRange h a lo hi 1 t u v
  | .vals d => h.get? a = some { cls := .type "dict_values", data := .fields #[.ref d] }
  | .itms d => h.get? a = some { cls := .type "dict_items", data := .fields #[.ref d] }
  | .exc cl => ∃ o, h.get? a = some o ∧ o.cls = .ref (c.ca cl) ∧ ∃ vs, o.data = .fields vs
  | .script ns => ∃ vs n, h.get? a = some (listOf (vs : List Value).toArray n) ∧ VRs (ns.map AV.int) vs

def Abv (c : Cx) (a : Addr) (o : AObj) : Prop := (o.isS = false → c.base.get? a = none) ∧ (o.isX = false → c.base.objs.size ≤ a)
structure HR (c : Cx) (R : RR) (D : Addr → Addr) (H : AHeap) (h : Heap) : Prop where
  rep : ∀ a o, H a = some o → ORep c h D a o
  above : ∀ a o, H a = some o → Abv c a o ∧ R a = none
  dict : ∀ a cl es, H a = some (.inst cl es) → c.base.objs.size ≤ D a ∧ R (D a) = none ∧ H (D a) = none
  inj : ∀ a b cl es cl' es', H a = some (.inst cl es) → H b = some (.inst cl' es') → D a = D b → a = b

structure St (c : Cx) (R : RR) (H : AHeap) (h : Heap) : Prop where
  stays : c.base.StaysIn h
  size : c.base.objs.size ≤ h.objs.size
  res : ∀ b r, R b = some r → c.base.objs.size ≤ b ∧ ResAt h b r
  rep : ∃ D, HR c R D H h

/-- the same state but for heap and tokens -/
def Sm (s s' : Shared) : Prop := ∃ h tk, s' = { s with heap := h, toks := tk }

/-- frames of the callers are there -/
structure FEnv (R : RR) (e : Env) : Prop where
  kind : e.scope.kind = .function
  frame : e.frame = some e.locals
  gen : e.scope.isGenerator = false
  co : e.scope.isCoroutine = false
  blt : e.builtins = builtinsNs
  glob : e.globals = mainGlobals
  ns : ∃ m, R e.locals = some (.ns m)
def Stk (R : RR) (stk : List Env) : Prop := ∀ e ∈ stk, FEnv R e

structure AOk (k n : Nat) (md : Bool) (A : Around) (stk : List Env) : Prop where
  frames : A.frames = some stk
  depth : A.depth + 110 + k + 8 * n < recursionLimit
  units : A.units + 100 + 10 * k + 60 * n < cLine
  hand : md = true → A.handled = none

/-- an exception of an own class is on its way; fl: how far its head is noted (an ellipsis: not at all) -/
inductive ExcAt (c : Cx) (R : RR) (H : AHeap) (h : Heap) (e : Addr) (cls : Value) : Value → Prop
  | fresh {t : Addr} : h.get? e = some { cls := cls, data := .fields #[.ref t, .none, .none, .none, .bool false, .none] } → ExcAt c R H h e cls .ellipsis
  | traced {oe : Obj} {vs : Array Value} {T : Addr} {oT : Obj} {ts : Array Value} {fl a0 : Value} : h.get? e = some oe → oe.cls = cls → oe.data = .fields vs → vs[0]? = some a0 → vs[1]? = some (.ref T) → T ≠ e →
      R T = none → H T = none → c.base.get? T = none → h.get? T = some oT → oT.data = .fields ts → ts[3]? = some fl → fl ≠ .ellipsis → ExcAt c R H h e cls fl

structure ExcSt (c : Cx) (R : RR) (H : AHeap) (e : Addr) (cl : String) (fl : Value) (h : Heap) : Prop where
  st : St c R H h
  re : R e = none
  he : H e = none
  be : c.base.get? e = none
  ob : ExcAt c R H h e (.ref (c.ca cl)) fl
  kn : (c.P.excs.lookup cl).isSome = true

/-- a call of an own def meets Q or E -/
def CallOK (c : Cx) (n : Nat) (md : Bool) (f : String) (args : List AV) (Q : AV → AHeap → Prop) (E : String → AHeap → Prop) (H : AHeap) : Prop :=
  ∀ (A : Around) (stk : List Env) (R : RR) (s : Shared) (vals : List Value) (Rs : Result → Shared → Prop),
    AOk 0 n md A stk → Stk R stk → St c R H s.heap → VRs args vals →
    (∀ av v s' H', VR av v → St c R H' s'.heap → Sm s s' → Q av H' → Rs (.ok (.ret v)) s') →
    (∀ e cl s' H', ExcSt c R H' e cl .none s'.heap → Sm s s' → E cl H' → Rs (.error (.ref e)) s') →
    codeAny (model c.prog c.w) A (.call (.ref (c.fa f)) ⟨vals, []⟩) Rs s


/-! ## data read from the abstract heap -/
mutual
inductive RD (H : AHeap) : AV → PyData → Prop
  | none : RD H .none .none
  | bool (b : Bool) : RD H (.bool b) (.bool b)
  | int (i : Int) : RD H (.int i) (.int i)
  | str (s : Str) : RD H (.str s) (.str s)
  | list {a xs ds} : H a = some (.list xs) → RDs H xs ds → RD H (.ref a) (.list ds)
  | tuple {a xs ds} : H a = some (.tuple xs) → RDs H xs ds → RD H (.ref a) (.tuple ds)
  | dict {a ep es ds} : H a = some (.dict ep es) → RDs H (es.map (·.2)) ds → RD H (.ref a) (.dict ((es.map fun e => PyData.str e.1).zip ds))
inductive RDs (H : AHeap) : List AV → List PyData → Prop
  | nil : RDs H [] []
  | cons {a d as ds} : RD H a d → RDs H as ds → RDs H (a :: as) (d :: ds)
end

mutual
def flatD : PyData → Bool
  | .none | .bool _ | .int _ | .str _ => true
  | .list xs | .tuple xs => flatDs xs
  | .dict _ => false
def flatDs : List PyData → Bool
  | [] => true
  | x :: xs => flatD x && flatDs xs
end
def okD (d : PyData) : Prop := flatD d = true ∧ d.depth ≤ 64

/-! ## the operations -/
def pyIdx (n : Nat) (i : Int) : Option Nat :=
  if 0 ≤ i then (if i < n then some i.toNat else none) else if -(n : Int) ≤ i then some (i + n).toNat else none

def lookS (es : List (Str × AV)) (k : Str) : Option AV := (es.find? fun e => e.1 = k).map (·.2)
/-- the pairs behind d[k] = v -/
def putS (es : List (Str × AV)) (k : Str) (v : AV) : List (Str × AV) :=
  if (lookS es k).isSome then es.map (fun e => if e.1 = k then (e.1, v) else e) else es ++ [(k, v)]
def lookA (es : List (String × AV)) (k : String) : Option AV := (es.find? fun e => e.1 = k).map (·.2)
def putA (es : List (String × AV)) (k : String) (v : AV) : List (String × AV) :=
  if (lookA es k).isSome then es.map (fun e => if e.1 = k then (e.1, v) else e) else es ++ [(k, v)]

def wtruth (v : AV) (H : AHeap) (Q : Bool → Prop) : Prop :=
  match v with
  | .none => Q false
  | .bool b => Q b
  | .int i => Q (i != 0)
  | .str s => s.length < 2 ^ 62 ∧ Q (s.length != 0)
  | .ref a => match H a with
    | some (.list xs) => xs.length < 2 ^ 62 ∧ Q (!xs.isEmpty)
    | some (.tuple xs) => xs.length < 2 ^ 62 ∧ Q (!xs.isEmpty)
    | _ => False

def wbin (op : Operator) (a b : AV) (Q : AV → AHeap → Prop) (H : AHeap) : Prop :=
  match op, a, b with
  | .Add, .int x, .int y => Q (.int (x + y)) H
  | .Sub, .int x, .int y => Q (.int (x - y)) H
  | .Mult, .int x, .int y => IntMulOk x y ∧ Q (.int (x * y)) H
  | .FloorDiv, .int x, .int y => y ≠ 0 ∧ Q (.int (x.fdiv y)) H
  | .Mod, .int x, .int y => y ≠ 0 ∧ Q (.int (x.fmod y)) H
  | .Pow, .int x, .int y => (2 ≤ x ∧ 1 ≤ y ∧ Builtin.Int.intTooBig (((Builtin.Int.intBits x : Nat) : Int) * y) = false) ∧ Q (.int (x ^ y.toNat)) H
  | .Add, .str x, .str y => x.length + y.length ≤ sizeLine ∧ Q (.str (x ++ y)) H
  | .Add, .ref x, .ref y => match H x, H y with
    | some (.list xs), some (.list ys) => xs.length + ys.length ≤ sizeLine ∧ ∀ z, H z = none → Q (.ref z) (up H z (.list (xs ++ ys)))
    | _, _ => False
  | _, _, _ => False

def weq (ne : Bool) (a b : AV) (Q : AV → AHeap → Prop) (H : AHeap) : Prop :=
  match a, b with
  | .int x, .int y => Q (.bool ((x == y) != ne)) H
  | .str x, .str y => Q (.bool ((x == y) != ne)) H
  | a, b => ∃ da db, RD H a da ∧ RD H b db ∧ okD da ∧ okD db ∧ Q (.bool ((PyData.eqv da db) != ne)) H

/-- x in c -/
def win (no : Bool) (x cc : AV) (Q : AV → AHeap → Prop) (H : AHeap) : Prop :=
  match cc with
  | .ref a => match H a with
    | some (.list ys) => ∃ d ds, RD H x d ∧ RDs H ys ds ∧ okD d ∧ flatDs ds = true ∧ Q (.bool ((ds.any fun y => PyData.eqv y d) != no)) H
    | some (.tuple ys) => ∃ d ds, RD H x d ∧ RDs H ys ds ∧ okD d ∧ flatDs ds = true ∧ Q (.bool ((ds.any fun y => PyData.eqv y d) != no)) H
    | some (.dict _ es) => match x with
      | .str k => Q (.bool ((lookS es k).isSome != no)) H
      | _ => False
    | _ => False
  | .str s => match x with
    | .str k => ∃ ch, k = ⟨#[ch]⟩ ∧ Q (.bool ((s.cps.toList.contains ch) != no)) H
    | _ => False
  | _ => False

def wcmp (op : CmpOp) (a b : AV) (Q : AV → AHeap → Prop) (H : AHeap) : Prop :=
  match op with
  | .Eq => weq false a b Q H
  | .NotEq => weq true a b Q H
  | .In => win false a b Q H
  | .NotIn => win true a b Q H
  | .Is => match b with
    | .none => Q (.bool (a == .none)) H
    | .bool c => Q (.bool (a == .bool c)) H
    | _ => False
  | .IsNot => match b with
    | .none => Q (.bool (a != .none)) H
    | .bool c => Q (.bool (a != .bool c)) H
    | _ => False
  | op => match a, b with
    | .int x, .int y => match op with
      | .Lt => Q (.bool (decide (x < y))) H
      | .LtE => Q (.bool (decide (x ≤ y))) H
      | .Gt => Q (.bool (decide (y < x))) H
      | .GtE => Q (.bool (decide (y ≤ x))) H
      | _ => False
    | _, _ => False

def wsub (a i : AV) (Q : AV → AHeap → Prop) (H : AHeap) : Prop :=
  match a, i with
  | .ref a, .int i => match H a with
    | some (.list xs) => ∃ j v, pyIdx xs.length i = some j ∧ i < 2 ^ 63 ∧ -(2 ^ 63) ≤ i ∧ xs[j]? = some v ∧ Q v H
    | some (.tuple xs) => ∃ j v, pyIdx xs.length i = some j ∧ i < 2 ^ 63 ∧ -(2 ^ 63) ≤ i ∧ xs[j]? = some v ∧ Q v H
    | some (.script ns) => 0 ≤ i ∧ i < 2 ^ 63 ∧ ∃ n, ns[i.toNat]? = some n ∧ Q (.int n) H
    | _ => False
  | .ref a, .str k => match H a with
    | some (.dict _ es) => ∃ v, lookS es k = some v ∧ Q v H
    | _ => False
  | .str s, .int i => 0 ≤ i ∧ i < 2 ^ 63 ∧ ∃ ch, s.cps[i.toNat]? = some ch ∧ Q (.str ⟨#[ch]⟩) H
  | _, _ => False

def pickL {α : Type} (xs : List α) (lo hi st : Option Int) : List α :=
  (sliceRange (sliceBounds lo hi st xs.length).1 (sliceBounds lo hi st xs.length).2.1 (sliceBounds lo hi st xs.length).2.2).filterMap (xs[·]?)
def partI : Option AV → Option (Option Int)
  | none => some none
  | some (.int i) => some (some i)
  | _ => none
/-- x[lo:hi:st] of a list; x[l:], x[:u] of a str -/
def wslice (a : AV) (lo hi st : Option AV) (Q : AV → AHeap → Prop) (H : AHeap) : Prop :=
  match a with
  | .ref a => (match H a with
    | some (.list xs) => ∃ l u t, partI lo = some l ∧ partI hi = some u ∧ partI st = some t ∧ t ≠ some 0 ∧ xs.length ≤ sizeLine ∧ ∀ z, H z = none → Q (.ref z) (up H z (.list (pickL xs l u t)))
    | _ => False)
  | .str s => (match lo, hi, st with
    | some (.int l), none, none => 0 ≤ l ∧ l ≤ s.length ∧ s.length ≤ sizeLine ∧ Q (.str ⟨(s.cps.toList.drop l.toNat).toArray⟩) H
    | none, some (.int u), none => 0 ≤ u ∧ u ≤ s.length ∧ s.length ≤ sizeLine ∧ Q (.str ⟨(s.cps.toList.take u.toNat).toArray⟩) H
    | _, _, _ => False)
  | _ => False

def vkind (H : AHeap) (v : AV) : Option String :=
  match v with
  | .none => some "NoneType"
  | .bool _ => some "bool"
  | .int _ => some "int"
  | .str _ => some "str"
  | .ref a => match H a with
    | some (.list _) => some "list"
    | some (.tuple _) => some "tuple"
    | some (.dict ..) => some "dict"
    | _ => none
def isinstV (P : Pg) (H : AHeap) (v : AV) (ty : String) : Option Bool :=
  if ty = "int" ∨ ty = "bool" ∨ ty = "str" ∨ ty = "list" then (vkind H v).map fun k => k == ty || (k == "bool" && ty == "int")
  else match v with
  | .ref a => match H a with
    | some (.exc c) => if ((P.excs.lookup c).map (·.contains ty)).getD false then some true else none
    | _ => none
  | _ => none

def wprim (f : String) (vs : List AV) (Q : AV → AHeap → Prop) (H : AHeap) : Prop :=
  match f, vs with
  | "len", [.str s] => s.length < 2 ^ 62 ∧ Q (.int s.length) H
  | "len", [.ref a] => match H a with
    | some (.list xs) => xs.length < 2 ^ 62 ∧ Q (.int xs.length) H
    | some (.tuple xs) => xs.length < 2 ^ 62 ∧ Q (.int xs.length) H
    | some (.dict _ es) => es.length < 2 ^ 62 ∧ Q (.int es.length) H
    | some (.script ns) => ns.length < 2 ^ 62 ∧ Q (.int ns.length) H
    | _ => False
  | "list", [.ref a] => match H a with
    | some (.list xs) => xs.length ≤ sizeLine ∧ ∀ z, H z = none → Q (.ref z) (up H z (.list xs))
    | some (.tuple xs) => xs.length ≤ sizeLine ∧ ∀ z, H z = none → Q (.ref z) (up H z (.list xs))
    | _ => False
  | "int", [.bool b] => Q (.int (if b then 1 else 0)) H
  | "range", [.int b] => (-(2 ^ 62) < b ∧ b < 2 ^ 62) ∧ ∀ z, H z = none → Q (.ref z) (up H z (.range 0 b))
  | "range", [.int a, .int b] => (-(2 ^ 62) < a ∧ a < 2 ^ 62 ∧ -(2 ^ 62) < b ∧ b < 2 ^ 62) ∧ ∀ z, H z = none → Q (.ref z) (up H z (.range a b))
  | _, _ => False

def lmeths : List String := ["append", "index"]
def wmList (p : Addr) (m : String) (vs : List AV) (Q : AV → AHeap → Prop) (H : AHeap) : Prop :=
  match m, vs with
  | "append", [v] => (match H p with
    | some (.list xs) => xs.length ≤ sizeLine ∧ Q .none (up H p (.list (xs ++ [v])))
    | _ => False)
  | "index", [v] => (match H p with
    | some (.list xs) => xs.length < 2 ^ 62 ∧ ∃ d ds, RD H v d ∧ RDs H xs ds ∧ okD d ∧ flatDs ds = true ∧ ∃ k, ds.findIdx? (fun y => PyData.eqv y d) = some k ∧ Q (.int k) H
    | _ => False)
  | _, _ => False

/-! ## loops -/
def itemsOf (H : AHeap) : AV → Option (List AV)
  | .ref a => match H a with
    | some (.list xs) => some xs
    | some (.tuple xs) => some xs
    | some (.range lo hi) => some ((List.range (hi - lo).toNat).map fun (k : Nat) => AV.int (lo + k))
    | some (.dict _ es) => some (es.map fun e => AV.str e.1)
    | _ => none
  | .str s => some (s.cps.toList.map fun ch => AV.str ⟨#[ch]⟩)
  | _ => none
def sameIt (H H' : AHeap) : AV → Prop
  | .ref a => H' a = H a
  | _ => True

def WFor (QN : VV → AHeap → Prop) (stp : AV → (VV → AHeap → Prop) → VV → AHeap → Prop) (v : AV) (V : VV) (H : AHeap) : Prop :=
  ∃ xs, itemsOf H v = some xs ∧ ∃ I : Nat → VV → AHeap → Prop, I 0 V H ∧
    ∀ k V' H', I k V' H' → sameIt H H' v ∧ (k = xs.length → QN V' H') ∧ ∀ x, xs[k]? = some x → stp x (I (k + 1)) V' H'
def WWhile (QN : VV → AHeap → Prop) (tst : (Bool → AHeap → Prop) → VV → AHeap → Prop) (bd : (VV → AHeap → Prop) → VV → AHeap → Prop) (V : VV) (H : AHeap) : Prop :=
  ∃ I : Nat → VV → AHeap → Prop, (∃ n, I n V H) ∧ ∀ n V' H', I n V' H' → tst (fun b H'' => if b then bd (fun V₂ H₂ => ∃ m, m < n ∧ I m V₂ H₂) V' H'' else QN V' H'') V' H'
def WComp (Q : AV → AHeap → Prop) (stp : AV → (Option AV → AHeap → Prop) → AHeap → Prop) (v : AV) (H : AHeap) : Prop :=
  ∃ xs, itemsOf H v = some xs ∧ xs.length ≤ sizeLine ∧ ∃ I : Nat → List AV → AHeap → Prop, I 0 [] H ∧
    ∀ k acc H', I k acc H' → sameIt H H' v ∧ (k = xs.length → ∀ a, H' a = none → Q (.ref a) (up H' a (.list acc))) ∧
      ∀ x, xs[k]? = some x → stp x (fun r H'' => I (k + 1) (acc ++ r.toList) H'') H'

def wunpack (k : Nat) (x : AV) (H : AHeap) (Q : List AV → Prop) : Prop :=
  match x with
  | .ref a => match H a with
    | some (.tuple xs) => xs.length = k ∧ Q xs
    | some (.list xs) => xs.length = k ∧ Q xs
    | _ => False
  | _ => False

def setAll (V : VV) : List Nat → List AV → VV
  | i :: is, x :: xs => setAll (V.set i (some x)) is xs
  | _, _ => V
def wtg (t : Tg) (x : AV) (V : VV) (H : AHeap) (Q : VV → Prop) : Prop :=
  match t with
  | .var i => i < V.length ∧ Q (V.set i (some x))
  | .tup is => wunpack is.length x H fun xs => Q (setAll V is xs)

/-! ## weakest preconditions -/
structure Gx where
  c : Cx
  n : Nat
  md : Bool

mutual
def wpX (g : Gx) : X → VV → (AV → AHeap → Prop) → (String → AHeap → Prop) → AHeap → Prop
  | .lit v, _, Q, _, H => Q v H
  | .var i, V, Q, _, H => match V[i]? with
    | some (some v) => Q v H
    | _ => False
  | .glob n, _, Q, _, H => match g.c.P.consts.lookup n with
    | some v => Q v H
    | none => False
  | .bin op a b, V, Q, E, H => wpX g a V (fun x H => wpX g b V (fun y H => wbin op x y Q H) E H) E H
  | .neg a, V, Q, E, H => wpX g a V (fun x H => match x with | .int i => Q (.int (-i)) H | _ => False) E H
  | .not a, V, Q, E, H => wpX g a V (fun x H => wtruth x H fun b => Q (.bool (!b)) H) E H
  | .ao isAnd xs, V, Q, E, H => wpAO g isAnd xs V Q E H
  | .ite c a b, V, Q, E, H => wpX g c V (fun x H => wtruth x H fun t => if t then wpX g a V Q E H else wpX g b V Q E H) E H
  | .cmp op a b, V, Q, E, H => wpX g a V (fun x H => wpX g b V (fun y H => wcmp op x y Q H) E H) E H
  | .cmp2 op₁ op₂ a b d, V, Q, E, H => wpX g a V (fun x H => wpX g b V (fun y H => wcmp op₁ x y (fun r H => wtruth r H fun t =>
      if t then wpX g d V (fun z H => wcmp op₂ y z Q H) E H else Q r H) H) E H) E H
  | .sub a i, V, Q, E, H => wpX g a V (fun x H => wpX g i V (fun y H => wsub x y Q H) E H) E H
  | .slice a lo hi st, V, Q, E, H => wpX g a V (fun x H => wpO g lo V (fun l H => wpO g hi V (fun u H => wpO g st V (fun t H => wslice x l u t Q H) E H) E H) E H) E H
  | .attr a n, V, Q, E, H => wpX g a V (fun x H => match x with
      | .ref p => (match H p with
        | some (.inst cl es) => g.c.P.attrs.contains (cl, n) = true ∧ (match lookA es n with | some v => Q v H | none => False)
        | _ => False)
      | _ => False) E H
  | .call f xs, V, Q, E, H => wpXs g xs V (fun vs H => CallOK g.c g.n g.md f vs Q E H) E H
  | .new cl xs, V, Q, E, H => wpXs g xs V (fun vs H => ∀ a, H a = none → CallOK g.c g.n g.md (cl ++ ".__init__") (.ref a :: vs) (fun r H => r = .none ∧ Q (.ref a) H) E (up H a (.inst cl []))) E H
  | .meth a m xs, V, Q, E, H => wpX g a V (fun x H => match x with
      | .ref p => (match H p with
        | some (.inst cl es) => g.c.P.meths.contains (cl, m) = true ∧ lookA es m = none ∧ wpXs g xs V (fun vs H => CallOK g.c g.n g.md (cl ++ "." ++ m) (.ref p :: vs) Q E H) E H
        | some (.list _) => lmeths.contains m = true ∧ wpXs g xs V (fun vs H => wmList p m vs Q H) E H
        | _ => False)
      | _ => False) E H
  | .prim f xs, V, Q, E, H => wpXs g xs V (fun vs H => wprim f vs Q H) E H
  | .isinst a ty, V, Q, E, H => wpX g a V (fun x H => match isinstV g.c.P H x ty with | some b => Q (.bool b) H | none => False) E H
  | .list xs, V, Q, E, H => wpXs g xs V (fun vs H => ∀ a, H a = none → Q (.ref a) (up H a (.list vs))) E H
  | .tuple xs, V, Q, E, H => wpXs g xs V (fun vs H => ∀ a, H a = none → Q (.ref a) (up H a (.tuple vs))) E H
  | .dict ks vs, V, Q, E, H => match ks, vs with
    | [], [] => ∀ a, H a = none → Q (.ref a) (up H a (.dict 0 []))
    | [k], [v] => wpX g k V (fun k H => wpX g v V (fun v H => match k with | .str k => ∀ a ep, H a = none → Q (.ref a) (up H a (.dict ep [(k, v)])) | _ => False) E H) E H
    | _, _ => False
  | .comp e k tup it c, V, Q, E, H => g.md = true ∧ wpX g it V (fun v H => WComp Q (fun x nx H =>
      if tup then wunpack k x H fun xs => wpC g c (V ++ xs.map some) (fun b H => if b then wpX g e (V ++ xs.map some) (fun y H => nx (some y) H) (fun _ _ => False) H else nx none H) (fun _ _ => False) H
      else wpC g c (V ++ [some x]) (fun b H => if b then wpX g e (V ++ [some x]) (fun y H => nx (some y) H) (fun _ _ => False) H else nx none H) (fun _ _ => False) H) v H) E H
def wpXs (g : Gx) : List X → VV → (List AV → AHeap → Prop) → (String → AHeap → Prop) → AHeap → Prop
  | [], _, Q, _, H => Q [] H
  | x :: r, V, Q, E, H => wpX g x V (fun v H => wpXs g r V (fun vs H => Q (v :: vs) H) E H) E H
def wpAO (g : Gx) (isAnd : Bool) : List X → VV → (AV → AHeap → Prop) → (String → AHeap → Prop) → AHeap → Prop
  | [], _, _, _, _ => False
  | x :: r, V, Q, E, H => wpX g x V (fun v H => match r with
      | [] => Q v H
      | _ :: _ => wtruth v H fun b => if b = isAnd then wpAO g isAnd r V Q E H else Q v H) E H
def wpO (g : Gx) : Option X → VV → (Option AV → AHeap → Prop) → (String → AHeap → Prop) → AHeap → Prop
  | none, _, Q, _, H => Q none H
  | some x, V, Q, E, H => wpX g x V (fun v H => Q (some v) H) E H
def wpC (g : Gx) : Option X → VV → (Bool → AHeap → Prop) → (String → AHeap → Prop) → AHeap → Prop
  | none, _, Q, _, H => Q true H
  | some x, V, Q, E, H => wpX g x V (fun v H => wtruth v H fun b => Q b H) E H
end

def wpT (g : Gx) (t : T) (x : AV) (V : VV) (Q : VV → AHeap → Prop) (E : String → AHeap → Prop) (H : AHeap) : Prop :=
  match t with
  | .var i => i < V.length ∧ Q (V.set i (some x)) H
  | .tup is => wunpack is.length x H fun xs => Q (setAll V is xs) H
  | .sub a i => wpX g a V (fun o H => wpX g i V (fun j H => match o, j with
      | .ref p, .str k => (match H p with
        | some (.dict _ es) => es.length ≤ sizeLine ∧ ∀ ep, Q V (up H p (.dict ep (putS es k x)))
        | _ => False)
      | _, _ => False) E H) E H
  | .attr a n => wpX g a V (fun o H => match o with
      | .ref p => (match H p with
        | some (.inst cl es) => g.c.P.attrs.contains (cl, n) = true ∧ es.length ≤ 100 ∧ Q V (up H p (.inst cl (putA es n x)))
        | _ => False)
      | _ => False) E H

def excSub (P : Pg) (cl c : String) : Bool := ((P.excs.lookup cl).map (·.contains c)).getD false

mutual
def wpS (g : Gx) : S → (VV → AHeap → Prop) → (AV → AHeap → Prop) → (String → VV → AHeap → Prop) → VV → AHeap → Prop
  | .assign t e, QN, _, E, V, H => wpX g e V (fun x H => wpT g t x V QN (fun cl H => E cl V H) H) (fun cl H => E cl V H) H
  | .expr e, QN, _, E, V, H => wpX g e V (fun x H => (∀ a, x ≠ .ref a) ∧ QN V H) (fun cl H => E cl V H) H
  | .ret e, _, QR, E, V, H => wpX g e V QR (fun cl H => E cl V H) H
  | .ite c a b, QN, QR, E, V, H => wpX g c V (fun x H => wtruth x H fun t => if t then wpSs g a QN QR E V H else wpSs g b QN QR E V H) (fun cl H => E cl V H) H
  | .while c body, QN, QR, E, V, H => g.md = true ∧ WWhile QN (fun q V H => wpX g c V (fun x H => wtruth x H fun t => q t H) (fun cl H => E cl V H) H)
      (fun q V H => wpSs g body q QR E V H) V H
  | .for t it body, QN, QR, E, V, H => g.md = true ∧ wpX g it V (fun v H => WFor QN (fun x nx V H => wtg t x V H fun V => wpSs g body nx QR E V H) v V H) (fun cl H => E cl V H) H
  | .raise cl _, _, _, E, V, H => g.md = true ∧ E cl V H
  | .try body hs, QN, QR, E, V, H => g.md = true ∧ wpSs g body QN QR (fun cl V H => wpHs g hs cl QN QR E V H) V H
  | .pass, QN, _, _, V, H => QN V H
def wpSs (g : Gx) : List S → (VV → AHeap → Prop) → (AV → AHeap → Prop) → (String → VV → AHeap → Prop) → VV → AHeap → Prop
  | [], QN, _, _, V, H => QN V H
  | s :: r, QN, QR, E, V, H => wpS g s (fun V H => wpSs g r QN QR E V H) QR E V H
def wpHs (g : Gx) : List Hd → String → (VV → AHeap → Prop) → (AV → AHeap → Prop) → (String → VV → AHeap → Prop) → VV → AHeap → Prop
  | [], _, _, _, _, _, _ => False
  | h :: r, cl, QN, QR, E, V, H => wpH g h cl (wpHs g r cl QN QR E V H) QN QR E V H
def wpH (g : Gx) : Hd → String → Prop → (VV → AHeap → Prop) → (AV → AHeap → Prop) → (String → VV → AHeap → Prop) → VV → AHeap → Prop
  | .mk c nm b, cl, nope, QN, QR, _, V, H =>
    if excSub g.c.P cl c then
      (match nm with
      | none => wpSs { g with md := false } b QN QR (fun _ _ _ => False) V H
      | some i => ∀ a, H a = none → i < V.length ∧ wpSs { g with md := false } b (fun V H => QN (V.set i none) H) QR (fun _ _ _ => False) (V.set i (some (.ref a))) (up H a (.exc cl)))
    else nope
end

end Mine

namespace Mine

theorem lts {h : Heap} {a : Addr} {o : Obj} (e : h.get? a = some o) : @LT.lt Nat _ a h.objs.size := Heap.lt_size e
theorem leN {a b : Nat} (h : a ≤ b) : a ≤ b := h
theorem up_same {H : AHeap} {a : Addr} {o : AObj} : up H a o a = some o := by simp [up]
theorem up_other {H : AHeap} {a b : Addr} {o : AObj} (h : b ≠ a) : up H a o b = H b := by simp [up, h]
theorem rup_same {R : RR} {a : Addr} {r : Res} : rup R a r a = some r := by simp [rup]
theorem rup_other {R : RR} {a b : Addr} {r : Res} (h : b ≠ a) : rup R a r b = R b := by simp [rup, h]

theorem get_none {h : Heap} {a : Addr} (e : h.objs.size ≤ a) : h.get? a = none := by
  cases q : h.get? a with
  | none => rfl
  | some o => have := lts q; have := leN e; omega
theorem abv {c : Cx} {a : Addr} {o : AObj} (h : c.base.objs.size ≤ a) : Abv c a o := ⟨fun _ => get_none h, fun _ => h⟩

theorem VRs.length {as vs} (h : VRs as vs) : as.length = vs.length := by
  induction h with
  | nil => rfl
  | cons _ _ ih => simp [ih]
theorem VRs.get {as vs} (h : VRs as vs) : ∀ {i : Nat} {a : AV}, as[i]? = some a → ∃ v, vs[i]? = some v ∧ VR a v := by
  induction h with
  | nil => intro i a e; simp at e
  | cons ha _ ih =>
    intro i a e
    cases i with
    | zero => simp at e; subst e; exact ⟨_, by simp, ha⟩
    | succ i => simp at e; obtain ⟨v, h1, h2⟩ := ih e; exact ⟨v, by simpa using h1, h2⟩
theorem VRs.append {as vs bs us} (h : VRs as vs) (k : VRs bs us) : VRs (as ++ bs) (vs ++ us) := by
  induction h with
  | nil => exact k
  | cons ha _ ih => exact .cons ha ih
theorem VRs.one {a v} (h : VR a v) : VRs [a] [v] := .cons h .nil
theorem VRs.drop {as vs} (h : VRs as vs) (n : Nat) : VRs (as.drop n) (vs.drop n) := by
  induction h generalizing n with
  | nil => simp; exact .nil
  | cons ha hr ih => cases n with
    | zero => exact .cons ha hr
    | succ n => exact ih n
theorem VRs.take {as vs} (h : VRs as vs) (n : Nat) : VRs (as.take n) (vs.take n) := by
  induction h generalizing n with
  | nil => simp; exact .nil
  | cons ha hr ih => cases n with
    | zero => exact .nil
    | succ n => exact .cons ha (ih n)
theorem VRs.set {as vs} (h : VRs as vs) {a v} (hv : VR a v) (n : Nat) : VRs (as.set n a) (vs.set n v) := by
  induction h generalizing n with
  | nil => exact .nil
  | cons ha hr ih => cases n with
    | zero => exact .cons hv hr
    | succ n => exact .cons ha (ih n)

theorem ORep.there {c : Cx} {h : Heap} {D : Addr → Addr} {a : Addr} {o : AObj} (r : ORep c h D a o) : ∃ ob, h.get? a = some ob := by
  cases o with
  | list => obtain ⟨_, _, e, _⟩ := r; exact ⟨_, e⟩
  | tuple => obtain ⟨_, _, e, _⟩ := r; exact ⟨_, e⟩
  | dict => obtain ⟨_, ⟨_, _, e, _⟩, _⟩ := r; exact ⟨_, e⟩
  | inst => exact ⟨_, r.1⟩
  | range => obtain ⟨_, _, _, _, e⟩ := r; exact ⟨_, e⟩
  | vals => exact ⟨_, r⟩
  | itms => exact ⟨_, r⟩
  | exc => obtain ⟨_, e, _⟩ := r; exact ⟨_, e⟩
  | script => obtain ⟨_, _, e, _⟩ := r; exact ⟨_, e⟩

theorem ORep.agree {c : Cx} {h h' : Heap} {D D' : Addr → Addr} {a : Addr} {o : AObj} (r : ORep c h D a o) (e : ∀ ob, h.get? a = some ob → h'.get? a = some ob)
    (e2 : ∀ cl es, o = .inst cl es → D' a = D a ∧ ∀ ob, h.get? (D a) = some ob → h'.get? (D a) = some ob) : ORep c h' D' a o := by
  cases o with
  | list => obtain ⟨vs, n, q, x⟩ := r; exact ⟨vs, n, e _ q, x⟩
  | tuple => obtain ⟨vs, n, q, x⟩ := r; exact ⟨vs, n, e _ q, x⟩
  | dict => obtain ⟨kvs, ⟨o, es, q, x⟩, y⟩ := r; exact ⟨kvs, ⟨o, es, e _ q, x⟩, y⟩
  | inst cl es =>
    obtain ⟨q, ents, n, q2, x⟩ := r
    obtain ⟨d1, d2⟩ := e2 cl es rfl
    exact ⟨by rw [d1]; exact e _ q, ents, n, by rw [d1]; exact d2 _ q2, x⟩
  | range => obtain ⟨z, t, u, v, q⟩ := r; exact ⟨z, t, u, v, e _ q⟩
  | vals => exact e _ r
  | itms => exact e _ r
  | exc => obtain ⟨o, q, x⟩ := r; exact ⟨o, e _ q, x⟩
  | script => obtain ⟨vs, n, q, x⟩ := r; exact ⟨vs, n, e _ q, x⟩

theorem ResAt.agree {h h' : Heap} {b : Addr} {r : Res} (x : ResAt h b r) (e : ∀ ob, h.get? b = some ob → h'.get? b = some ob) : ResAt h' b r := by
  cases r with
  | ns m => obtain ⟨o, es, ep, q, y⟩ := x; exact ⟨o, es, ep, e _ q, y⟩
  | cell v => obtain ⟨o, q, y⟩ := x; exact ⟨o, e _ q, y⟩
  | obj o => exact e _ x
theorem ResAt.there {h : Heap} {b : Addr} {r : Res} (x : ResAt h b r) : ∃ ob, h.get? b = some ob := by
  cases r with
  | ns m => obtain ⟨o, es, ep, q, y⟩ := x; exact ⟨o, q⟩
  | cell v => obtain ⟨o, q, y⟩ := x; exact ⟨o, q⟩
  | obj o => exact ⟨_, x⟩

section
variable {c : Cx} {R R' : RR} {H : AHeap} {h h' : Heap}

theorem St.weaken (S : St c R' H h) (k : ∀ b r, R b = some r → R' b = some r) : St c R H h := by
  obtain ⟨s1, s2, s3, D, s4⟩ := S
  have nn : ∀ a, R' a = none → R a = none := fun a e => by
    cases q : R a with
    | none => rfl
    | some r => rw [k a r q] at e; cases e
  exact ⟨s1, s2, fun b r e => s3 b r (k b r e), D, ⟨s4.rep, fun a o e => ⟨(s4.above a o e).1, nn _ (s4.above a o e).2⟩,
    fun a cl es e => ⟨(s4.dict a cl es e).1, nn _ (s4.dict a cl es e).2.1, (s4.dict a cl es e).2.2⟩, s4.inj⟩⟩

theorem St.keeps (S : St c R H h) (k : ∀ b o, h.get? b = some o → h'.get? b = some o) (hs : h.objs.size ≤ h'.objs.size) : St c R H h' := by
  obtain ⟨s1, s2, s3, D, s4⟩ := S
  exact ⟨fun b o e => k b o (s1 b o e), Nat.le_trans s2 hs, fun b r e => ⟨(s3 b r e).1, (s3 b r e).2.agree fun _ => k _ _⟩, D,
    ⟨fun a o e => (s4.rep a o e).agree (fun _ => k _ _) fun _ _ _ => ⟨rfl, fun _ => k _ _⟩, s4.above, s4.dict, s4.inj⟩⟩
theorem St.push (S : St c R H h) (o : Obj) : St c R H (h.push o) := S.keeps (fun _ _ e => Heap.get?_push_of_some o e) (by rw [Heap.size_push]; omega)

theorem St.freshH (S : St c R H h) : H h.objs.size = none := by
  cases q : H h.objs.size with
  | none => rfl
  | some o =>
    obtain ⟨D, s4⟩ := S.rep
    obtain ⟨ob, e⟩ := (s4.rep _ _ q).there
    exact absurd (Heap.lt_size e) (Nat.lt_irrefl _)
theorem St.freshR (S : St c R H h) : R h.objs.size = none := by
  cases q : R h.objs.size with
  | none => rfl
  | some o =>
    obtain ⟨ob, e⟩ := (S.res _ _ q).2.there
    exact absurd (Heap.lt_size e) (Nat.lt_irrefl _)

/-- an address that nobody holds: at or past the heap's end -/
theorem St.freeH (S : St c R H h) {x : Addr} (hx : h.objs.size ≤ x) : H x = none := by
  cases q : H x with
  | none => rfl
  | some o =>
    obtain ⟨D, s4⟩ := S.rep
    obtain ⟨ob, e⟩ := (s4.rep _ _ q).there
    have := lts e; have := leN hx; omega
theorem St.freeR (S : St c R H h) {x : Addr} (hx : h.objs.size ≤ x) : R x = none := by
  cases q : R x with
  | none => rfl
  | some o =>
    obtain ⟨ob, e⟩ := (S.res _ _ q).2.there
    have := lts e; have := leN hx; omega

/-- a heap that has grown bears one more object at a new place -/
theorem St.newObj (S : St c R H h) {x : Addr} {o : AObj} (hx : h.objs.size ≤ x) (k : ∀ b ob, h.get? b = some ob → h'.get? b = some ob) (hs : h.objs.size ≤ h'.objs.size)
    (hni : ∀ cl es, o ≠ .inst cl es) (ho : ∀ D, ORep c h' D x o) : H x = none ∧ St c R (up H x o) h' := by
  refine ⟨S.freeH hx, ?_⟩
  have hRx := S.freeR hx
  have hb := S.size
  have S' := S.keeps k hs
  obtain ⟨s1, s2, s3, D, s4⟩ := S'
  have hD : ∀ a cl es, H a = some (.inst cl es) → D a ≠ x := fun a cl es e q => by
    obtain ⟨D0, s40⟩ := S.rep
    obtain ⟨q1, ents, n, q2, _⟩ := s4.rep a _ e
    obtain ⟨p1, ents', n', p2, _⟩ := s40.rep a _ e
    have := k _ _ p1
    rw [q1] at this
    have hd : D a = D0 a := by injection this with this; injection this with _ z; exact Option.some.inj z
    have hlt := lts p2; have hx' := leN hx
    rw [← hd, q] at hlt; omega
  refine ⟨s1, s2, s3, D, ⟨fun a ao e => ?_, fun a ao e => ?_, fun a cl es e => ?_, fun a b cl es cl' es' e e' => ?_⟩⟩
  · by_cases q : a = x
    · subst q; rw [up_same] at e; cases e; exact ho D
    · rw [up_other q] at e; exact s4.rep a ao e
  · by_cases q : a = x
    · subst q; exact ⟨abv (by have := leN hx; omega), hRx⟩
    · rw [up_other q] at e; exact s4.above a ao e
  · by_cases q : a = x
    · subst q; rw [up_same] at e; cases e; exact absurd rfl (hni cl es)
    · rw [up_other q] at e
      obtain ⟨y1, y2, y3⟩ := s4.dict a cl es e
      exact ⟨y1, y2, by rw [up_other (hD a cl es e)]; exact y3⟩
  · by_cases q : a = x
    · subst q; rw [up_same] at e; cases e; exact absurd rfl (hni cl es)
    · by_cases q' : b = x
      · subst q'; rw [up_same] at e'; cases e'; exact absurd rfl (hni cl' es')
      · rw [up_other q] at e; rw [up_other q'] at e'; exact s4.inj a b cl es cl' es' e e'

theorem St.newRes (S : St c R H h) {x : Addr} {r : Res} (hx : h.objs.size ≤ x) (k : ∀ b ob, h.get? b = some ob → h'.get? b = some ob) (hs : h.objs.size ≤ h'.objs.size)
    (hr : ResAt h' x r) : R x = none ∧ H x = none ∧ St c (rup R x r) H h' := by
  refine ⟨S.freeR hx, S.freeH hx, ?_⟩
  have hHx := S.freeH hx
  have hb := S.size
  obtain ⟨D0, s40⟩ := S.rep
  have S' := S.keeps k hs
  obtain ⟨s1, s2, s3, D, s4⟩ := S'
  have hD : ∀ a cl es, H a = some (.inst cl es) → D a ≠ x := fun a cl es e q => by
    obtain ⟨q1, ents, n, q2, _⟩ := s4.rep a _ e
    obtain ⟨p1, ents', n', p2, _⟩ := s40.rep a _ e
    have := k _ _ p1
    rw [q1] at this
    have hd : D a = D0 a := by injection this with this; injection this with _ z; exact Option.some.inj z
    have hlt := lts p2; have hx' := leN hx
    rw [← hd, q] at hlt; omega
  refine ⟨s1, s2, fun b rr e => ?_, D, ⟨s4.rep, fun a ao e => ?_, fun a cl es e => ?_, s4.inj⟩⟩
  · by_cases q : b = x
    · subst q; rw [rup_same] at e; cases e; exact ⟨by omega, hr⟩
    · rw [rup_other q] at e; exact s3 b rr e
  · obtain ⟨y1, y2⟩ := s4.above a ao e
    exact ⟨y1, by rw [rup_other (fun q => by rw [q, hHx] at e; cases e)]; exact y2⟩
  · obtain ⟨y1, y2, y3⟩ := s4.dict a cl es e
    exact ⟨y1, by rw [rup_other (hD a cl es e)]; exact y2, y3⟩

/-- a held object turned -/
theorem St.setRes (S : St c R H h) {x : Addr} {r r' : Res} (hx : R x = some r) (hs : Heap.SameBut x h h') (hr : ResAt h' x r') : St c (rup R x r') H h' := by
  obtain ⟨s1, s2, s3, D, s4⟩ := S
  have bx : c.base.get? x = none := by
    cases q : c.base.get? x with
    | none => rfl
    | some o => have := lts q; have := leN (s3 x r hx).1; omega
  refine ⟨fun b o e => ?_, by rw [hs.1]; exact s2, fun b rr e => ?_, D, ⟨fun a ao e => ?_, fun a ao e => ?_, fun a cl es e => ?_, s4.inj⟩⟩
  · rw [hs.2 b (fun q => by rw [q, bx] at e; cases e)]; exact s1 b o e
  · by_cases q : b = x
    · subst q; rw [rup_same] at e; cases e; exact ⟨(s3 b r hx).1, hr⟩
    · rw [rup_other q] at e; exact ⟨(s3 b rr e).1, (s3 b rr e).2.agree fun ob z => by rw [hs.2 b q]; exact z⟩
  · refine (s4.rep a ao e).agree (fun ob z => ?_) fun cl es eo => ⟨rfl, fun ob z => ?_⟩
    · rw [hs.2 a (fun q => by have := (s4.above a ao e).2; rw [q, hx] at this; cases this)]; exact z
    · subst eo; rw [hs.2 _ (fun q => by have := (s4.dict a cl es e).2.1; rw [q, hx] at this; cases this)]; exact z
  · obtain ⟨y1, y2⟩ := s4.above a ao e
    exact ⟨y1, by rw [rup_other (fun q => by rw [q, hx] at y2; cases y2)]; exact y2⟩
  · obtain ⟨y1, y2, y3⟩ := s4.dict a cl es e
    exact ⟨y1, by rw [rup_other (fun q => by rw [q, hx] at y2; cases y2)]; exact y2, y3⟩

theorem St.setObj (S : St c R H h) {x : Addr} {o o' : AObj} (hx : H x = some o) (hni' : ∀ cl es, o' ≠ .inst cl es) (hs : Heap.SameBut x h h')
    (ho : ∀ D, ORep c h' D x o') (hne : o.isX = false := by rfl) : St c R (up H x o') h' := by
  obtain ⟨s1, s2, s3, D, s4⟩ := S
  have bx : c.base.get? x = none := get_none ((s4.above x _ hx).1.2 hne)
  refine ⟨fun b o e => ?_, by rw [hs.1]; exact s2, fun b rr e => ?_, D, ⟨fun a ao e => ?_, fun a ao e => ?_, fun a cl es e => ?_, fun a b cl es cl' es' e e' => ?_⟩⟩
  · rw [hs.2 b (fun q => by rw [q, bx] at e; cases e)]; exact s1 b o e
  · exact ⟨(s3 b rr e).1, (s3 b rr e).2.agree fun ob z => by rw [hs.2 b (fun q => by have := (s4.above x _ hx).2; rw [q, this] at e; cases e)]; exact z⟩
  · by_cases q : a = x
    · subst q; rw [up_same] at e; cases e; exact ho D
    · rw [up_other q] at e
      refine (s4.rep a ao e).agree (fun ob z => by rw [hs.2 a q]; exact z) fun cl es eo => ⟨rfl, fun ob z => ?_⟩
      subst eo; rw [hs.2 _ (fun q => by have := (s4.dict a cl es e).2.2; rw [q, hx] at this; cases this)]; exact z
  · by_cases q : a = x
    · subst q; exact ⟨abv ((s4.above a _ hx).1.2 hne), (s4.above a _ hx).2⟩
    · rw [up_other q] at e; exact s4.above a ao e
  · by_cases q : a = x
    · subst q; rw [up_same] at e; cases e; exact absurd rfl (hni' cl es)
    · rw [up_other q] at e
      obtain ⟨y1, y2, y3⟩ := s4.dict a cl es e
      exact ⟨y1, y2, by rw [up_other (fun q => by rw [q, hx] at y3; cases y3)]; exact y3⟩
  · by_cases q : a = x
    · subst q; rw [up_same] at e; cases e; exact absurd rfl (hni' cl es)
    · by_cases q' : b = x
      · subst q'; rw [up_same] at e'; cases e'; exact absurd rfl (hni' cl' es')
      · rw [up_other q] at e; rw [up_other q'] at e'; exact s4.inj a b cl es cl' es' e e'

theorem St.setAttr (S : St c R H h) {x : Addr} {cl : String} {es : List (String × AV)} (hx : H x = some (.inst cl es)) :
    ∃ d ents n, h.get? x = some (instObj (c.ca cl) d) ∧ h.get? d = some (dictOf ents n) ∧ attrsAre es ents ∧ (es.map (·.1)).Nodup ∧
      ∀ h' ents' n' es', Heap.SameBut d h h' → h'.get? d = some (dictOf ents' n') → attrsAre es' ents' → (es'.map (·.1)).Nodup → St c R (up H x (.inst cl es')) h' := by
  obtain ⟨s1, s2, s3, D, s4⟩ := S
  obtain ⟨e1, ents, n, e2, e3, e4⟩ := s4.rep x _ hx
  refine ⟨D x, ents, n, e1, e2, e3, e4, fun h' ents' n' es' hs hd ha hnd => ?_⟩
  obtain ⟨d1, d2, d3⟩ := s4.dict x cl es hx
  have bx : c.base.get? (D x) = none := by
    cases q : c.base.get? (D x) with
    | none => rfl
    | some o => have := lts q; have := leN d1; omega
  refine ⟨fun b o e => ?_, by rw [hs.1]; exact s2, fun b rr e => ?_, D, ⟨fun a ao e => ?_, fun a ao e => ?_, fun a cl' es'' e => ?_, fun a b cla esa clb esb e e' => ?_⟩⟩
  · rw [hs.2 b (fun q => by rw [q, bx] at e; cases e)]; exact s1 b o e
  · exact ⟨(s3 b rr e).1, (s3 b rr e).2.agree fun ob z => by rw [hs.2 b (fun q => by rw [q, d2] at e; cases e)]; exact z⟩
  · by_cases q : a = x
    · subst q; rw [up_same] at e; cases e
      exact ⟨by rw [hs.2 a (fun q => by rw [← q, hx] at d3; cases d3)]; exact e1, ents', n', hd, ha, hnd⟩
    · rw [up_other q] at e
      refine (s4.rep a ao e).agree (fun ob z => by rw [hs.2 a (fun q => by rw [q, d3] at e; cases e)]; exact z) fun cl' es'' eo => ⟨rfl, fun ob z => ?_⟩
      subst eo; rw [hs.2 _ (fun q' => q (s4.inj a x _ _ _ _ e hx q'))]; exact z
  · by_cases q : a = x
    · subst q; exact ⟨abv ((s4.above a _ hx).1.2 rfl), (s4.above a _ hx).2⟩
    · rw [up_other q] at e; exact s4.above a ao e
  · by_cases q : a = x
    · subst q; exact ⟨d1, d2, by rw [up_other (fun q => by rw [q, hx] at d3; cases d3)]; exact d3⟩
    · rw [up_other q] at e
      obtain ⟨y1, y2, y3⟩ := s4.dict a cl' es'' e
      exact ⟨y1, y2, by rw [up_other (fun q => by rw [q, hx] at y3; cases y3)]; exact y3⟩
  · have t : ∀ z cz ez, up H x (.inst cl es') z = some (.inst cz ez) → ∃ c0 e0, H z = some (.inst c0 e0) := fun z cz ez ez' => by
      by_cases q : z = x
      · subst q; exact ⟨_, _, hx⟩
      · rw [up_other q] at ez'; exact ⟨_, _, ez'⟩
    obtain ⟨_, _, t1⟩ := t a _ _ e
    obtain ⟨_, _, t2⟩ := t b _ _ e'
    exact s4.inj a b _ _ _ _ t1 t2

theorem St.newInst (S : St c R H h) {cl : String} : H (h.objs.size + 1) = none ∧ St c R (up H (h.objs.size + 1) (.inst cl [])) ((h.push emptyDict).push (instObj (c.ca cl) h.objs.size)) := by
  refine ⟨S.freeH (by omega), ?_⟩
  have hfd := S.freeH (x := h.objs.size) (by omega)
  have hfi := S.freeH (x := h.objs.size + 1) (by omega)
  have hrd := S.freeR (x := h.objs.size) (by omega)
  have hri := S.freeR (x := h.objs.size + 1) (by omega)
  have k : ∀ b o, h.get? b = some o → ((h.push emptyDict).push (instObj (c.ca cl) h.objs.size)).get? b = some o := fun b o e => Heap.get?_push_of_some _ (Heap.get?_push_of_some _ e)
  obtain ⟨s1, s2, s3, D, s4⟩ := S
  have hDlt : ∀ a cl es, H a = some (.inst cl es) → @LT.lt Nat _ (D a) h.objs.size := fun a cl es e => by
    obtain ⟨_, _, _, q, _⟩ := s4.rep a _ e; exact lts q
  refine ⟨fun b o e => k b o (s1 b o e), by rw [Heap.size_push, Heap.size_push]; omega, fun b r e => ⟨(s3 b r e).1, (s3 b r e).2.agree fun _ => k _ _⟩,
    fun a => if a = h.objs.size + 1 then h.objs.size else D a, ⟨fun a ao e => ?_, fun a ao e => ?_, fun a cl' es e => ?_, fun a b cla esa clb esb e e' hq => ?_⟩⟩
  · by_cases q : a = h.objs.size + 1
    · subst q; rw [up_same] at e; cases e
      refine ⟨?_, [], 0, ?_, trivial, by simp⟩
      · simp only [if_true]
        have := Heap.get?_push_size (h.push emptyDict) (o := instObj (c.ca cl) h.objs.size) rfl
        rwa [Heap.size_push] at this
      · simp only [if_true]
        exact Heap.get?_push_of_some _ (Heap.get?_push_size h rfl)
    · rw [up_other q] at e
      exact (s4.rep a ao e).agree (fun _ => k _ _) fun cl' es eo => ⟨by simp [q], fun _ => k _ _⟩
  · by_cases q : a = h.objs.size + 1
    · subst q; exact ⟨abv (by omega), hri⟩
    · rw [up_other q] at e; exact s4.above a ao e
  · by_cases q : a = h.objs.size + 1
    · subst q
      simp only [if_true]
      exact ⟨s2, hrd, by rw [up_other (Nat.ne_of_lt (Nat.lt_succ_self _))]; exact hfd⟩
    · rw [up_other q] at e
      simp only [if_neg q]
      obtain ⟨y1, y2, y3⟩ := s4.dict a cl' es e
      have := hDlt a cl' es e
      exact ⟨y1, y2, by rw [up_other (Nat.ne_of_lt (Nat.lt_succ_of_lt this))]; exact y3⟩
  · by_cases q : a = h.objs.size + 1
    · by_cases q' : b = h.objs.size + 1
      · rw [q, q']
      · rw [up_other q'] at e'
        simp only [q, q', if_true, if_false] at hq
        exact absurd hq (Nat.ne_of_gt (hDlt b _ _ e'))
    · rw [up_other q] at e
      by_cases q' : b = h.objs.size + 1
      · simp only [q, q', if_true, if_false] at hq
        exact absurd hq (Nat.ne_of_lt (hDlt a _ _ e))
      · rw [up_other q'] at e'
        simp only [q, q', if_false] at hq
        exact s4.inj a b _ _ _ _ e e' hq
end

theorem Sm.refl (s : Shared) : Sm s s := ⟨s.heap, s.toks, rfl⟩
theorem Sm.mk' (s : Shared) (h : Heap) (tk : Nat) : Sm s { s with heap := h, toks := tk } := ⟨h, tk, rfl⟩
theorem Sm.trans {s s' s'' : Shared} (x : Sm s s') (y : Sm s' s'') : Sm s s'' := by
  obtain ⟨h, t, rfl⟩ := x
  obtain ⟨h', t', rfl⟩ := y
  exact ⟨h', t', rfl⟩

end Mine

namespace Mine

/-- what the row's ground gives -/
structure Cx.Ok (c : Cx) (mg mb : Str → Option Value) : Prop where
  kin : c.K.In c.base
  g : c.base.Ns mainGlobals mg
  b : c.base.Ns builtinsNs mb
  nolimit : c.base.NoLimit
  builtins : ∀ x : Str, x ≠ "__name__" → mb x = bootBuiltins x
  seer : c.base.NoSeer
  tree : c.prog.given.tree = none
  top : ∃ p loose, TopRead p loose mg mb c.base

/-- where code runs: the frames around it -/
structure Ev (g : Gx) (A : Around) (R : RR) (e : Env) (l : List Env) : Prop where
  aok : AOk 4 g.n g.md A (e :: l)
  stk : Stk R (e :: l)

def TQ (g : Gx) (R : RR) (s₀ : Shared) (Q : AV → AHeap → Prop) (v : Value) (s' : Shared) : Prop := ∃ av H', VR av v ∧ St g.c R H' s'.heap ∧ Sm s₀ s' ∧ Q av H'
def TB (g : Gx) (R : RR) (s₀ : Shared) (Q : Bool → AHeap → Prop) (b : Bool) (s' : Shared) : Prop := ∃ H', St g.c R H' s'.heap ∧ Sm s₀ s' ∧ Q b H'
def TE (g : Gx) (R : RR) (s₀ : Shared) (E : String → AHeap → Prop) (e : Value) (s' : Shared) : Prop :=
  ∃ a cl H', e = .ref a ∧ ExcSt g.c R H' a cl .none s'.heap ∧ Sm s₀ s' ∧ E cl H'

theorem Sm.step {s₀ s : Shared} (x : Sm s₀ s) (h : Heap) (tk : Nat) : Sm s₀ { s with heap := h, toks := tk } := x.trans ⟨h, tk, rfl⟩
theorem Sm.toks {s₀ s : Shared} (x : Sm s₀ s) (tk : Nat) : Sm s₀ { s with toks := tk } := x.trans ⟨s.heap, tk, rfl⟩
theorem Sm.heap {s₀ s : Shared} (x : Sm s₀ s) (h : Heap) : Sm s₀ { s with heap := h } := x.trans ⟨h, s.toks, rfl⟩

section
variable {g : Gx} {A : Around} {R : RR} {s₀ s : Shared} {H : AHeap} {E : Value → Shared → Prop} {Q : AV → AHeap → Prop}

theorem TQ.pure {a : AV} {v : Value} (hv : VR a v) (S : St g.c R H s.heap) (m : Sm s₀ s) (q : Q a H) : TQ g R s₀ Q v s := ⟨a, H, hv, S, m, q⟩
theorem TQ.toks {a : AV} {v : Value} {tk : Nat} (hv : VR a v) (S : St g.c R H s.heap) (m : Sm s₀ s) (q : Q a H) : TQ g R s₀ Q v { s with toks := tk } := ⟨a, H, hv, S, m.toks tk, q⟩

theorem isList_of {a : Addr} {xs : List AV} (S : St g.c R H s.heap) (e : H a = some (.list xs)) : ∃ vs n, s.heap.get? a = some (listOf (vs : List Value).toArray n) ∧ VRs xs vs ∧ s.heap.IsList a vs.toArray := by
  obtain ⟨D, r⟩ := S.rep
  obtain ⟨vs, n, h1, h2⟩ := r.rep a _ e
  exact ⟨vs, n, h1, h2, _, h1, rfl, n, rfl⟩
theorem isTup_of {a : Addr} {xs : List AV} (S : St g.c R H s.heap) (e : H a = some (.tuple xs)) : ∃ vs n, s.heap.get? a = some { cls := .type "tuple", data := .seq (vs : List Value).toArray n } ∧ VRs xs vs ∧ IsTup s.heap a vs.toArray := by
  obtain ⟨D, r⟩ := S.rep
  obtain ⟨vs, n, h1, h2⟩ := r.rep a _ e
  exact ⟨vs, n, h1, h2, _, h1, rfl, n, rfl⟩
theorem isDict_of {a : Addr} {ep : Nat} {es : List (Str × AV)} (S : St g.c R H s.heap) (e : H a = some (.dict ep es)) : ∃ kvs, s.heap.DictAt (strKind g.c.prog g.c.w) a kvs ep ∧ DRs es kvs := by
  obtain ⟨D, r⟩ := S.rep
  exact r.rep a _ e
theorem above_of {a : Addr} {o : AObj} (S : St g.c R H s.heap) (e : H a = some o) (hne : o.isX = false := by rfl) : g.c.base.objs.size ≤ a := by
  obtain ⟨D, r⟩ := S.rep
  exact (r.above a o e).1.2 hne

theorem DRs.keys {es kvs} (h : DRs es kvs) : kvs.map (·.1) = es.map (·.1) := by
  induction h with
  | nil => rfl
  | cons _ _ _ ih => simp [ih]
theorem DRs.length {es kvs} (h : DRs es kvs) : kvs.length = es.length := by
  induction h with
  | nil => rfl
  | cons _ _ _ ih => simp [ih]
theorem DRs.look {es kvs} (h : DRs es kvs) (k : Str) : OVR (lookS es k) (valueAt kvs k) := by
  induction h with
  | nil => exact .none
  | cons hk hv _ ih =>
    rename_i k' a v as vs _
    simp only [lookS, valueAt, List.find?_cons] at ih ⊢
    by_cases q : k' = k
    · simp [q]; exact .some hv
    · simp [q]; exact ih
theorem DRs.vals {es kvs} (h : DRs es kvs) : VRs (es.map (·.2)) (kvs.map (·.2)) := by
  induction h with
  | nil => exact .nil
  | cons _ hv _ ih => exact .cons hv ih

theorem OVR.isSome {a v} (h : OVR a v) : v.isSome = a.isSome := by cases h <;> rfl

/-- a new list at the heap's end -/
theorem newListT {xs : List AV} {vs : List Value} {n : Nat} {h' : Heap} {x : Addr} {tk : Nat} (S : St g.c R H s.heap) (m : Sm s₀ s) (hv : VRs xs vs) (hx : s.heap.objs.size ≤ x)
    (k : ∀ b ob, s.heap.get? b = some ob → h'.get? b = some ob) (hs : s.heap.objs.size ≤ h'.objs.size) (ho : h'.get? x = some (listOf vs.toArray n))
    (q : ∀ z, H z = none → Q (.ref z) (up H z (.list xs))) : TQ g R s₀ Q (.ref x) { s with heap := h', toks := tk } := by
  obtain ⟨e, S'⟩ := S.newObj (o := .list xs) hx k hs (by intro _ _ z; cases z) (fun D => ⟨vs, n, ho, hv⟩)
  exact ⟨.ref x, _, .ref x, S', m.step _ _, q x e⟩

theorem s_truth {v : Value} {a : AV} {Qb : Bool → AHeap → Prop} (hv : VR a v) (S : St g.c R H s.heap) (m : Sm s₀ s) (q : wtruth a H (fun b => Qb b H)) :
    wpAny (model g.c.prog g.c.w) A (truthy v) (TB g R s₀ Qb) E s := by
  cases hv with
  | none => exact truthy_none ⟨H, S, m, q⟩
  | bool b => exact wpAny_truthy_bool ⟨H, S, m, q⟩
  | int i t => exact truthy_int ⟨H, S, m, q⟩
  | str x t hx =>
    refine P.truthy_str (by have := q.1; omega) ⟨H, S, m.toks _, ?_⟩
    have : ((x.length : Int) != 0) = (x.length != 0) := by
      cases x.length with
      | zero => rfl
      | succ n => simp; omega
    rw [this]; exact q.2
  | ref p =>
    unfold wtruth at q
    dsimp only at q
    split at q
    · rename_i xs e
      obtain ⟨vs, n, h1, h2, h3⟩ := isList_of S e
      have hl := h2.length
      refine wpAny_truthy_list h3 (by simp only [List.size_toArray]; have := q.1; omega) ⟨H, S, m.toks _, ?_⟩
      have : (vs.toArray.isEmpty) = xs.isEmpty := by cases h2 <;> rfl
      rw [this]; exact q.2
    · rename_i xs e
      obtain ⟨vs, n, h1, h2, h3⟩ := isTup_of S e
      have hl := h2.length
      refine truthy_tuple h3 (by simp only [List.size_toArray]; have := q.1; omega) ⟨H, S, m.toks _, ?_⟩
      have : (vs.toArray.isEmpty) = xs.isEmpty := by cases h2 <;> rfl
      rw [this]; exact q.2
    · exact q.elim

theorem strOk_append {x y : Str} (hx : PyData.strOk x = true) (hy : PyData.strOk y = true) : PyData.strOk (x ++ y) = true := by
  show (x.cps ++ y.cps).all _ = true
  rw [Array.all_append]
  exact Bool.and_eq_true_iff.mpr ⟨hx, hy⟩
theorem strOk_mem {x : Str} (hx : PyData.strOk x = true) {ch : Nat} (hc : ch ∈ x.cps) : ch < 0x110000 := by
  have := (Array.all_eq_true_iff_forall_mem.mp hx) ch hc
  simpa using this
theorem strOk_of {l : List Nat} (h : ∀ ch ∈ l, ch < 0x110000) : PyData.strOk ⟨l.toArray⟩ = true := by
  show l.toArray.all _ = true
  rw [Array.all_eq_true_iff_forall_mem]
  intro ch hc
  simpa using h ch (by simpa using hc)

theorem s_bin {op : Operator} {a b : AV} {u v : Value} {e₀ : Env} {l₀ : List Env} {mg mb : Str → Option Value} (C : g.c.Ok mg mb) (V : Ev g A R e₀ l₀) (hu : VR a u) (hv : VR b v) (S : St g.c R H s.heap) (m : Sm s₀ s) (q : wbin op a b Q H) :
    wpAny (model g.c.prog g.c.w) A (binaryOp op u v) (TQ g R s₀ Q) E s := by
  have F0 := V.stk e₀ (List.mem_cons_self ..)
  unfold wbin at q
  split at q
  · cases hu; cases hv; exact add_int (TQ.toks (.int _ _) S m q)
  · cases hu; cases hv; exact sub_int (TQ.toks (.int _ _) S m q)
  · cases hu; cases hv; exact mul_int (TQ.toks (.int _ _) S m q.2) q.1
  · cases hu; cases hv
    refine floordiv_int q.1 (TQ.toks (.int _ _) S m q.2) (.inr (PySem.PylongRoom.of (C.nolimit.keeps S.stays) ?_ (PySem.SeerAt.of (env := e₀) (l := l₀) (C.seer.keeps S.stays) C.tree V.aok.frames F0.gen F0.co F0.blt F0.glob)))
    have := V.aok.depth
    have e : Builtin.pylongFrames ≤ 100 := by decide
    omega
  · cases hu; cases hv; exact mod_int' q.1 (TQ.toks (.int _ _) S m q.2)
  · cases hu; cases hv
    rename_i x y _ _
    obtain ⟨⟨q1, q2, q3⟩, q4⟩ := q
    refine AutoIntOps.pow_4 (by omega) (by simp; omega) (by simp; omega) (by simp; omega) (by rw [q3]; simp) (show (Made.int (x ^ y.toNat)).post _ s from TQ.toks (.int _ _) S m q4)
  · cases hu with
    | str x t hx => cases hv with
      | str y u hy =>
        refine P.add_str ?_
        have e1 : ∀ z : Str, z.length = 0 → z = Str.empty := fun z hz => by
          obtain ⟨⟨l⟩⟩ := z
          cases l with
          | nil => rfl
          | cons => simp [Str.length] at hz
        split
        · rename_i hz
          have hz' := e1 _ (by simpa using hz)
          rw [hz'] at q
          refine TQ.pure (.str _ u hy) S m ?_
          have e2 : ∀ y : Str, Str.empty ++ y = y := fun y => by show Str.append _ _ = _; simp [Str.append, Str.empty]
          rw [e2] at q; exact q.2
        · split
          · rename_i _ hz
            have hz' := e1 _ (by simpa using hz)
            rw [hz'] at q
            refine TQ.pure (.str _ t hx) S m ?_
            have e2 : ∀ x : Str, x ++ Str.empty = x := fun x => by show Str.append _ _ = _; simp [Str.append, Str.empty]
            rw [e2] at q; exact q.2
          · refine ⟨?_, TQ.toks (.str _ _ (strOk_append hx hy)) S m q.2⟩
            rw [Str.length_append]; exact q.1
  · cases hu; cases hv
    split at q
    · rename_i xs ys e1 e2
      obtain ⟨vs, n, h1, h2, h3⟩ := isList_of S e1
      obtain ⟨ws, n', k1, k2, k3⟩ := isList_of S e2
      refine P.add_list (n := n) (n2 := n') h1 k1 ?_ (by have := h2.length; have := k2.length; have := q.1; simp only [List.size_toArray]; omega)
      have hvw := h2.append k2
      refine newListT (n := 0) (vs := vs ++ ws) S m hvw (Nat.le_refl _) (fun _ _ e => Heap.get?_push_of_some _ e) (by rw [Heap.size_push]; omega) ?_ q.2
      rw [Heap.get?_push_size _ rfl]; simp
    · exact q.elim
  · exact q.elim

/-! ### equality -/
theorem RDs.len {H : AHeap} : ∀ {as : List AV} {ds : List PyData}, RDs H as ds → as.length = ds.length
  | _, _, .nil => rfl
  | _, _, .cons _ r => by simp [RDs.len r]
theorem pairs_keys {prog : Program} {w : World} {h : Heap} : ∀ {es : List DictEntry} {kvs : List (Str × Value)}, Pairs (strKind prog w) es kvs → ∃ as, ReadsAll h (es.map (·.key)) (kvs.map fun e => PyData.str e.1) as
  | _, _, .nil => ⟨[], .nil⟩
  | _, _, .cons hk _ r => by
    obtain ⟨as, ih⟩ := pairs_keys (h := h) r
    obtain ⟨t, e⟩ := Value.isStrOf_shape hk
    refine ⟨[] ++ as, ?_⟩
    simp only [List.map_cons]
    rw [e]
    exact .cons (.str _ _) ih
theorem pairs_vals {prog : Program} {w : World} : ∀ {es : List DictEntry} {kvs : List (Str × Value)}, Pairs (strKind prog w) es kvs → es.map (·.val) = kvs.map (·.2)
  | _, _, .nil => rfl
  | _, _, .cons _ hv r => by simp [hv, pairs_vals r]

mutual
theorem reads_of (S : St g.c R H s.heap) : ∀ {a : AV} {d : PyData} {v : Value}, RD H a d → VR a v → (∃ as, Reads s.heap v d as) ∧ (flatD d = true → PyData.canLay0 d = true)
  | _, _, _, .none, .none => ⟨⟨[], .none⟩, fun _ => by simp only [PyData.canLay0]⟩
  | _, _, _, .bool b, .bool _ => ⟨⟨[], .bool b⟩, fun _ => by simp only [PyData.canLay0]⟩
  | _, _, _, .int i, .int _ t => ⟨⟨[], .int i t⟩, fun _ => by simp only [PyData.canLay0]⟩
  | _, _, _, .str x, .str _ t h => ⟨⟨[], .str x t⟩, fun _ => by simpa only [PyData.canLay0] using h⟩
  | _, _, _, .list e r, .ref _ => by
    obtain ⟨vs, n, h1, h2, h3⟩ := isList_of S e
    obtain ⟨⟨as, ih⟩, cl⟩ := readsAll_of S r h2
    exact ⟨⟨_, .list h1 rfl rfl (by simpa using ih)⟩, fun f => by simp only [PyData.canLay0]; exact cl (by simpa only [flatD] using f)⟩
  | _, _, _, .tuple e r, .ref _ => by
    obtain ⟨vs, n, h1, h2, h3⟩ := isTup_of S e
    obtain ⟨⟨as, ih⟩, cl⟩ := readsAll_of S r h2
    exact ⟨⟨_, .tuple h1 rfl rfl (by simpa using ih)⟩, fun f => by simp only [PyData.canLay0]; exact cl (by simpa only [flatD] using f)⟩
  | _, _, _, .dict (es := es) (ds := ds) e r, .ref _ => by
    obtain ⟨kvs, ⟨o, ents, ho, hx, hd, hk, hp, hn⟩, hr⟩ := isDict_of S e
    obtain ⟨⟨as, ih⟩, cl⟩ := readsAll_of S r hr.vals
    obtain ⟨bs, ik⟩ := pairs_keys (h := s.heap) hp
    rw [← pairs_vals hp] at ih
    have hl : (List.map (fun e => PyData.str e.1) kvs).length = ds.length := by
      rw [List.length_map, hr.length, ← RDs.len r, List.length_map]
    have hke : List.map (fun e => PyData.str e.1) kvs = List.map (fun e : Str × AV => PyData.str e.1) es := by
      have := congrArg (List.map PyData.str) hr.keys
      simpa [List.map_map, Function.comp_def] using this
    rw [hke] at hl ik
    refine ⟨⟨_, .dict (as := bs) (bs := as) ho hx.1 hd ?_ ?_⟩, fun f => by simp [flatD] at f⟩
    · rw [List.map_fst_zip (by omega)]; exact ik
    · rw [List.map_snd_zip (by omega)]; exact ih
theorem readsAll_of (S : St g.c R H s.heap) : ∀ {as : List AV} {ds : List PyData} {vs : List Value}, RDs H as ds → VRs as vs → (∃ bs, ReadsAll s.heap vs ds bs) ∧ (flatDs ds = true → PyData.canLayAll0 ds = true)
  | _, _, _, .nil, .nil => ⟨⟨[], .nil⟩, fun _ => by simp only [PyData.canLayAll0]⟩
  | _, _, _, .cons r rs, .cons v vs => by
    obtain ⟨⟨a1, h1⟩, c1⟩ := reads_of S r v
    obtain ⟨⟨a2, h2⟩, c2⟩ := readsAll_of S rs vs
    refine ⟨⟨_, .cons h1 h2⟩, fun f => ?_⟩
    simp only [flatDs, Bool.and_eq_true] at f
    simp only [PyData.canLayAll0, c1 f.1, c2 f.2, Bool.and_self]
end
theorem shaped_of {d : PyData} (h : okD d) (c : flatD d = true → PyData.canLay0 d = true) : shaped d = true := by
  unfold shaped
  rw [c h.1]
  simpa using h.2

theorem s_eq {ne : Bool} {a b : AV} {u v : Value} {e₀ : Env} {l₀ : List Env} (V : Ev g A R e₀ l₀) (hu : VR a u) (hv : VR b v) (S : St g.c R H s.heap) (m : Sm s₀ s) (q : weq ne a b Q H) :
    wpAny (model g.c.prog g.c.w) A (compareOp (if ne then .NotEq else .Eq) u v) (TQ g R s₀ Q) E s := by
  have un : A.units + 64 < cLine := by have := V.aok.units; omega
  have gen : ∀ da db, RD H a da → RD H b db → okD da → okD db → Q (.bool ((PyData.eqv da db) != ne)) H → wpAny (model g.c.prog g.c.w) A (compareOp (if ne then .NotEq else .Eq) u v) (TQ g R s₀ Q) E s := by
    intro da db ra rb sa sb qq
    obtain ⟨⟨as, ra'⟩, ca⟩ := reads_of S ra hu
    obtain ⟨⟨bs, rb'⟩, cb⟩ := reads_of S rb hv
    replace sa := shaped_of sa ca
    replace sb := shaped_of sb cb
    cases ne with
    | true =>
      refine ne_dataH ra' rb' sa sb un (TQ.pure (.bool _) S m ?_)
      simpa using qq
    | false =>
      refine eq_dataH ra' rb' sa sb un (TQ.pure (.bool _) S m ?_)
      simpa using qq
  unfold weq at q
  split at q
  · cases hu; cases hv
    cases ne with
    | false => exact eq_int (TQ.pure (.bool _) S m (by simpa using q))
    | true => exact ne_int (TQ.pure (.bool _) S m (by rw [show ∀ x y : Int, (x != y) = ((x == y) != true) from fun x y => by cases h : x == y <;> simp [bne, h]]; exact q))
  · rename_i x y
    refine gen (.str x) (.str y) (.str x) (.str y) ⟨rfl, Nat.zero_le _⟩ ⟨rfl, Nat.zero_le _⟩ ?_
    have : PyData.eqv (.str x) (.str y) = (x == y) := by simp [PyData.eqv]
    rw [this]; exact q
  · obtain ⟨da, db, ra, rb, sa, sb, qq⟩ := q
    exact gen da db ra rb sa sb qq

theorem occ_one (ch : Nat) (x : Str) : (!(Builtin.Str.occurrences x ⟨#[ch]⟩ 0 x.length 1).isEmpty) = x.cps.toList.contains ch := by
  rw [StrLaws.found_one]
  simp

theorem s_in {no : Bool} {a b : AV} {u v : Value} {e₀ : Env} {l₀ : List Env} {mg mb : Str → Option Value} (C : g.c.Ok mg mb) (V : Ev g A R e₀ l₀) (hu : VR a u) (hv : VR b v) (S : St g.c R H s.heap) (m : Sm s₀ s) (q : win no a b Q H) :
    wpAny (model g.c.prog g.c.w) A (compareOp (if no then .NotIn else .In) u v) (TQ g R s₀ Q) E s := by
  have un : A.units + 1 + 64 < cLine := by have := V.aok.units; omega
  unfold win at q
  split at q
  · cases hv
    rename_i p
    split at q
    · rename_i ys e
      obtain ⟨d, ds, r1, r2, q1, q2, qq⟩ := q
      obtain ⟨⟨as, r1'⟩, c1⟩ := reads_of S r1 hu
      obtain ⟨⟨bs, r2'⟩, c2⟩ := reads_of S (.list e r2) (.ref p)
      have dd : d.depth ≤ 64 := q1.2
      replace q1 := shaped_of q1 c1
      replace q2 : PyData.canLayAll0 ds = true := by
        have := c2 (by simpa only [flatD] using q2)
        simpa only [PyData.canLay0] using this
      cases no with
      | true => exact notIn_list_reads r2' r1' q2 (canLay_of_shaped q1) (by omega) (TQ.pure (.bool _) S m (by simpa using qq))
      | false => exact in_list_reads r2' r1' q2 (canLay_of_shaped q1) (by omega) (TQ.pure (.bool _) S m (by simpa using qq))
    · rename_i ys e
      obtain ⟨d, ds, r1, r2, q1, q2, qq⟩ := q
      obtain ⟨⟨as, r1'⟩, c1⟩ := reads_of S r1 hu
      obtain ⟨⟨bs, r2'⟩, c2⟩ := reads_of S (.tuple e r2) (.ref p)
      have dd : d.depth ≤ 64 := q1.2
      replace q1 := shaped_of q1 c1
      replace q2 : PyData.canLayAll0 ds = true := by
        have := c2 (by simpa only [flatD] using q2)
        simpa only [PyData.canLay0] using this
      cases no with
      | true => exact notIn_tuple_reads r2' r1' q2 (canLay_of_shaped q1) (by omega) (TQ.pure (.bool _) S m (by simpa using qq))
      | false => exact in_tuple_reads r2' r1' q2 (canLay_of_shaped q1) (by omega) (TQ.pure (.bool _) S m (by simpa using qq))
    · rename_i ep es e
      split at q
      · cases hu
        rename_i k t hk
        obtain ⟨kvs, hd, hr⟩ := isDict_of S e
        have hds : (p == sysModules) = false := by
          have h1 := leN (above_of S e)
          obtain ⟨mc, hc, _⟩ := C.nolimit
          have h2 := hc.lt
          have h3 : @LT.lt Nat _ sysModules cStatics := by decide
          have h4 : @LT.lt Nat _ cStatics g.c.base.objs.size := h2
          have : @LT.lt Nat _ sysModules p := by omega
          exact beq_eq_false_iff_ne.mpr (Nat.ne_of_gt this)
        have ho := (hr.look k).isSome
        cases no with
        | true =>
          refine wpAny_notIn_of (strKind_is _ _ k t) hds hd.dictOf.mapOf (TQ.toks (.bool _) S m ?_)
          rw [ho]; simpa using q
        | false =>
          refine wpAny_in_of (strKind_is _ _ k t) hds hd.dictOf.mapOf (TQ.toks (.bool _) S m ?_)
          rw [ho]; simpa using q
      · exact q.elim
    · exact q.elim
  · cases hv
    split at q
    · cases hu
      obtain ⟨ch, rfl, qq⟩ := q
      cases no with
      | true =>
        refine notIn_str (TQ.pure (.bool _) S m ?_)
        rw [occ_one]; simpa using qq
      | false =>
        refine in_str (TQ.pure (.bool _) S m ?_)
        rw [occ_one]; simpa using qq
    · exact q.elim
  · exact q.elim
end
end Mine

namespace Mine
section
variable {g : Gx} {A : Around} {R : RR} {s₀ s : Shared} {H : AHeap} {E : Value → Shared → Prop} {Q : AV → AHeap → Prop}

theorem isSame_bool {a : AV} {u : Value} (hu : VR a u) (c : Bool) : isSame u (.bool c) = pure (a == .bool c) := by
  cases hu <;> first | rfl | (rename_i b; cases c <;> cases b <;> rfl)
theorem isSame_none' {a : AV} {u : Value} (hu : VR a u) : isSame u .none = pure (a == .none) := by
  cases hu <;> rfl

theorem s_cmp {op : CmpOp} {a b : AV} {u v : Value} {e₀ : Env} {l₀ : List Env} {mg mb : Str → Option Value} (C : g.c.Ok mg mb) (V : Ev g A R e₀ l₀) (hu : VR a u) (hv : VR b v) (S : St g.c R H s.heap) (m : Sm s₀ s)
    (q : wcmp op a b Q H) : wpAny (model g.c.prog g.c.w) A (compareOp op u v) (TQ g R s₀ Q) E s := by
  unfold wcmp at q
  split at q
  · exact s_eq (ne := false) V hu hv S m q
  · exact s_eq (ne := true) V hu hv S m q
  · exact s_in (no := false) C V hu hv S m q
  · exact s_in (no := true) C V hu hv S m q
  · show wpAny _ _ (do return Value.bool (← isSame u v) : Sem Value) _ _ _
    split at q
    · cases hv; rw [isSame_none' hu]; exact wpAny_bind (wpAny_pure (wpAny_pure (TQ.pure (.bool _) S m q)))
    · cases hv; rw [isSame_bool hu]; exact wpAny_bind (wpAny_pure (wpAny_pure (TQ.pure (.bool _) S m q)))
    · exact q.elim
  · show wpAny _ _ (do return Value.bool (!(← isSame u v)) : Sem Value) _ _ _
    split at q
    · cases hv; rw [isSame_none' hu]; exact wpAny_bind (wpAny_pure (wpAny_pure (TQ.pure (.bool _) S m q)))
    · cases hv; rw [isSame_bool hu]; exact wpAny_bind (wpAny_pure (wpAny_pure (TQ.pure (.bool _) S m q)))
    · exact q.elim
  · split at q
    · cases hu; cases hv
      split at q
      · exact lt_int (TQ.pure (.bool _) S m q)
      · exact le_int (TQ.pure (.bool _) S m q)
      · exact gt_int (TQ.pure (.bool _) S m q)
      · exact ge_int (TQ.pure (.bool _) S m q)
      · exact q.elim
    · exact q.elim

theorem pyIdx_seq {n : Nat} {i : Int} {j : Nat} (h : pyIdx n i = some j) : seqIndex? i n = some j := by
  unfold pyIdx at h
  unfold seqIndex?
  split at h
  · split at h
    · cases h; have : ¬ i < 0 := by omega
      simp only [this, if_false]; rw [if_pos (by simp; omega)]
    · cases h
  · split at h
    · cases h; have : i < 0 := by omega
      simp only [this, if_true]; rw [if_pos (by simp; omega)]
    · cases h
theorem pyIdx_lt {n : Nat} {i : Int} {j : Nat} (h : pyIdx n i = some j) : j < n ∧ (0 ≤ i → j = i.toNat) ∧ (i < 0 → j = (i + n).toNat ∧ -(n : Int) ≤ i) := by
  unfold pyIdx at h
  split at h
  · split at h
    · cases h; omega
    · cases h
  · split at h
    · cases h; omega
    · cases h

/-- o[i] where the slice is no Slice -/
theorem s_sub {value slice : PySem.Expr} {a i : AV} {u v : Value} {mg mb : Str → Option Value} (_C : g.c.Ok mg mb) (hu : VR a u) (hv : VR i v) (S : St g.c R H s.heap) (m : Sm s₀ s) (q : wsub a i Q H)
    (hs : ∀ o j, subscripted slice false o j = operate [o, j] (getItem o j)) : wpAny (model g.c.prog g.c.w) A (subscriptTail value slice u v) (TQ g R s₀ Q) E s := by
  unfold wsub at q
  split at q
  · rename_i i
    cases hu; cases hv
    split at q
    · rename_i xs e
      obtain ⟨j, x, h1, h2, h3, h4, qq⟩ := q
      obtain ⟨vs, n, k1, k2, k3⟩ := isList_of S e
      obtain ⟨y, y1, y2⟩ := k2.get h4
      obtain ⟨p1, p2, p3⟩ := pyIdx_lt h1
      rw [k2.length] at p3
      refine tail_any k3.typeIs slot_list_getitem.lookup ?_ (hs _ _)
      by_cases hz : 0 ≤ i
      · exact wpAny_getItem_list k3 hz h2 (by rw [← p2 hz]; simpa using y1) (TQ.pure y2 S m qq)
      · obtain ⟨p4, p5⟩ := p3 (by omega)
        exact wpAny_getItem_list_neg k3 (by omega) (by simpa using p5) h3 (by simp only [List.size_toArray]; rw [← p4]; simpa using y1) (TQ.pure y2 S m qq)
    · rename_i xs e
      obtain ⟨j, x, h1, h2, h3, h4, qq⟩ := q
      obtain ⟨vs, n, k1, k2, k3⟩ := isTup_of S e
      obtain ⟨y, y1, y2⟩ := k2.get h4
      refine tail_any k3.typeIs slot_tuple_getitem.lookup ?_ (hs _ _)
      exact getItem_tuple k3 h3 h2 (by simp only [List.size_toArray]; rw [← k2.length]; exact pyIdx_seq h1) (by simpa using y1) (TQ.pure y2 S m qq)
    · rename_i ns e
      obtain ⟨h1, h2, nn, h3, qq⟩ := q
      obtain ⟨D, r⟩ := S.rep
      obtain ⟨vs, n, k1, k2⟩ := r.rep _ _ e
      obtain ⟨y, y1, y2⟩ := k2.get (i := i.toNat) (a := .int nn) (by rw [List.getElem?_map, h3]; rfl)
      have k3 : s.heap.IsList _ vs.toArray := ⟨_, k1, rfl, _, rfl⟩
      refine tail_any k3.typeIs slot_list_getitem.lookup ?_ (hs _ _)
      exact wpAny_getItem_list k3 h1 h2 (by simpa using y1) (TQ.pure y2 S m qq)
    · exact q.elim
  · cases hu
    cases hv
    rename_i k t hk
    split at q
    · rename_i ep es e
      obtain ⟨x, hx, qq⟩ := q
      obtain ⟨kvs, hd, hr⟩ := isDict_of S e
      have ho := hr.look k
      rw [hx] at ho
      generalize hval : valueAt kvs k = y at ho
      cases ho with
      | some hv =>
        refine tail_any hd.dictOf.typeIs slot_dict_getitem.lookup ?_ (hs _ _)
        exact wpAny_getItem_of (strKind_is _ _ k t) hd.dictOf.mapOf hval (TQ.toks hv S m qq)
    · exact q.elim
  · rename_i x i
    cases hu with
    | str _ t hx => cases hv with
      | int _ u =>
        obtain ⟨h1, h2, ch, h3, qq⟩ := q
        refine tail_any (typeIs_str s _ t) slot_str_getitem.lookup ?_ (hs _ _)
        have hlt : i.toNat < x.cps.size := (Array.getElem?_eq_some_iff.mp h3).1
        refine getItem_str (by simp; omega) (c := ch) ?_ (TQ.toks (.str _ _ ?_) S m qq)
        · have : seqIndex? i x.length = some i.toNat := by
            unfold seqIndex?
            have : ¬ i < 0 := by omega
            have h' : 0 ≤ i ∧ i < (x.length : Int) := ⟨h1, by show i < ((x.cps.size : Nat) : Int); omega⟩
            simp only [this, if_false]
            rw [if_pos (by simpa using h')]
          rw [this]; exact h3
        · have hm := Array.mem_of_getElem? h3
          exact strOk_of (l := [ch]) (by intro c hc; simp at hc; subst hc; exact strOk_mem hx hm)
  · exact q.elim

theorem VRs.filterMap {xs : List AV} {vs : List Value} (h : VRs xs vs) : ∀ ks : List Nat, VRs (ks.filterMap (xs[·]?)) (ks.filterMap (vs[·]?))
  | [] => .nil
  | k :: r => by
    have ih := VRs.filterMap h r
    simp only [List.filterMap_cons]
    cases e : xs[k]? with
    | none =>
      have : vs[k]? = none := by rw [List.getElem?_eq_none_iff] at e ⊢; rw [← h.length]; exact e
      rw [this]; exact ih
    | some a =>
      obtain ⟨v, hv, hr⟩ := h.get e
      rw [hv]; exact .cons hr ih

theorem s_slice {value : PySem.Expr} {lo hi st : Option PySem.Expr} {p : Pos} {a : AV} {l u t : Option AV} {o vl vu vt : Value} (hu : VR a o)
    (hl : (l = none ∧ vl = .none) ∨ ∃ x, l = some x ∧ VR x vl) (hh : (u = none ∧ vu = .none) ∨ ∃ x, u = some x ∧ VR x vu) (ht : (t = none ∧ vt = .none) ∨ ∃ x, t = some x ∧ VR x vt)
    (S : St g.c R H s.heap) (m : Sm s₀ s) (q : wslice a l u t Q H) :
    wpAny (model g.c.prog g.c.w) A (subscriptTail value (.Slice lo hi st p) o (.ref s.heap.objs.size)) (TQ g R s₀ Q) E { s with heap := s.heap.push { cls := .type "slice", data := .fields #[vl, vu, vt] } } := by
  have part : ∀ {x : Option AV} {v : Value} {k : Option Int}, ((x = none ∧ v = .none) ∨ ∃ y, x = some y ∧ VR y v) → partI x = some k → IsPart v k := by
    rintro x v k (⟨rfl, rfl⟩ | ⟨y, rfl, hv⟩) e
    · cases e; exact .none
    · cases hv <;> simp only [partI] at e <;> cases e
      exact .int _ _
  have hs : ∀ o j, ∃ ops, subscripted (.Slice lo hi st p) false o j = operate ops (getItem o j) := by
    intro o j
    cases st with
    | none => exact ⟨_, rfl⟩
    | some _ => exact ⟨_, rfl⟩
  unfold wslice at q
  split at q
  · cases hu
    split at q
    · rename_i xs e
      obtain ⟨li, ui, ti, e1, e2, e3, h0, hz, qq⟩ := q
      obtain ⟨vs, n, k1, k2, k3⟩ := isList_of S e
      obtain ⟨ops, hop⟩ := hs (.ref _) (.ref s.heap.objs.size)
      refine tail_any (Heap.IsList.typeIs (s := { s with heap := s.heap.push _ }) (k3.push _)) slot_list_getitem.lookup ?_ hop
      refine wpAny_getItem_list_slice (k3.push _) (Heap.IsSliceOf.new ..) (part hl e1) (part hh e2) (part ht e3) h0 ?_ (by simp only [List.size_toArray]; rw [← k2.length]; exact hz)
      have hp : VRs (pickL xs li ui ti) (pickL vs li ui ti) := by
        unfold pickL; rw [k2.length]; exact k2.filterMap _
      dsimp only
      rw [Heap.size_push]
      refine newListT (n := 0) (vs := pickL vs li ui ti) S m hp (Nat.le_succ _) (fun _ _ z => Heap.get?_push_of_some _ (Heap.get?_push_of_some _ z)) (by rw [Heap.size_push, Heap.size_push]; omega) ?_ qq
      have := Heap.get?_push_size (s.heap.push { cls := .type "slice", data := .fields #[vl, vu, vt] }) (o := { cls := .type "list", data := .seq (slicePick vs.toArray li ui ti) }) rfl
      rw [Heap.size_push] at this
      rw [this]
      simp [slicePick, pickL]
    · exact q.elim
  · rename_i x
    cases hu with
    | str _ tk hx =>
      obtain ⟨ops, hop⟩ := hs (.str x tk) (.ref s.heap.objs.size)
      have sz : ∀ a b : Nat, a ≤ b → b ≤ x.length → x.length ≤ sizeLine → ∀ (l u : Option (Int × Tok)), (l.map (·.1) = some (a : Int) ∨ (l = none ∧ a = 0)) → (u.map (·.1) = some (b : Int) ∨ (u = none ∧ b = x.length)) →
          Q (.str ⟨((x.cps.toList.drop a).take (b - a)).toArray⟩) H → ∀ s' : Shared, s'.heap.IsSlice s.heap.objs.size l u none → St g.c R H s'.heap → Sm s₀ s' → wpAny (model g.c.prog g.c.w) A (getItem (.str x tk) (.ref s.heap.objs.size)) (TQ g R s₀ Q) E s' := by
        intro a b hab hb hz l u hl hu qq s' hsl S' m'
        refine wpAny_getItem_str_slice hsl rfl ?_
        have e : (slicePicked x l u none).filterMap (x.cps[·]?) = (x.cps.toList.drop a).take (b - a) := by
          rw [← StrLaws.sliced_plain x hab hb]
          unfold slicePicked
          congr 1
          show Builtin.Str.strSliceIndices _ _ 1 x.length = _
          rcases hl with hl | ⟨rfl, rfl⟩ <;> rcases hu with hu | ⟨rfl, rfl⟩
          · rw [hl, hu]
          · rw [hl]; exact StrLaws.sliceIdx_none_hi _ _
          · rw [hu]; exact StrLaws.sliceIdx_none_lo _ _
          · exact (StrLaws.sliceIdx_none_lo _ _).trans (StrLaws.sliceIdx_none_hi _ _)
        have el : (slicePicked x l u none).length = b - a := by
          unfold slicePicked
          show (Builtin.Str.strSliceIndices _ _ 1 x.length).length = _
          have e0 : Builtin.Str.strSliceIndices (l.map (·.1)) (u.map (·.1)) 1 x.length = (List.range (b - a)).map (fun k => a + k) := by
            rw [← StrLaws.strSliceIndices_plain hab hb]
            rcases hl with hl | ⟨rfl, rfl⟩ <;> rcases hu with hu | ⟨rfl, rfl⟩
            · rw [hl, hu]
            · rw [hl]; exact StrLaws.sliceIdx_none_hi _ _
            · rw [hu]; exact StrLaws.sliceIdx_none_lo _ _
            · exact (StrLaws.sliceIdx_none_lo _ _).trans (StrLaws.sliceIdx_none_hi _ _)
          rw [e0]; simp
        unfold sliceMade
        split
        · rename_i hc
          refine TQ.pure (.str _ tk hx) S' m' ?_
          have hc' : b - a = x.length := by
            have := (Bool.and_eq_true_iff.mp hc).2
            rw [el] at this
            simpa using this
          have ha : a = 0 := by omega
          have hbx : b = x.length := by omega
          subst ha hbx
          have : (⟨((x.cps.toList.drop 0).take (x.length - 0)).toArray⟩ : Str) = x := by
            have : x.cps.toList.take x.length = x.cps.toList := List.take_of_length_le (by simp [Str.length])
            simp [this]
          rw [this] at qq; exact qq
        · rw [e]
          refine ⟨?_, TQ.toks (.str _ _ ?_) S' m' qq⟩
          · simp [Str.length] at *; omega
          · exact strOk_of fun ch hc => strOk_mem hx (by have := List.mem_of_mem_drop (List.mem_of_mem_take hc); simpa using this)
      have isl : ∀ {x : Option AV} {v : Value}, ((x = none ∧ v = .none) ∨ ∃ y, x = some y ∧ VR y v) → x = none → v = .none := by
        rintro x v (⟨_, h⟩ | ⟨y, e, _⟩) h2
        · exact h
        · rw [h2] at e; cases e
      refine tail_any (typeIs_str _ _ tk) slot_str_getitem.lookup ?_ hop
      split at q
      · rename_i li
        obtain ⟨h1, h2, h3, qq⟩ := q
        have h4 := isl hh rfl
        have h5 := isl ht rfl
        subst h4 h5
        rcases hl with ⟨z, _⟩ | ⟨y, z, hv⟩
        · cases z
        · cases z
          cases hv with
          | int _ t1 =>
            refine sz li.toNat x.length (by omega) (Nat.le_refl _) h3 (some (li, t1)) none (.inl (by simp; omega)) (.inr ⟨rfl, rfl⟩) ?_ _ ⟨_, Heap.get?_push_size _ rfl, rfl, rfl⟩ (S.push _) (m.heap _)
            have : (x.cps.toList.drop li.toNat).take (x.length - li.toNat) = x.cps.toList.drop li.toNat := List.take_of_length_le (by simp [Str.length])
            rw [this]; exact qq
      · rename_i ui
        obtain ⟨h1, h2, h3, qq⟩ := q
        have h4 := isl hl rfl
        have h5 := isl ht rfl
        subst h4 h5
        rcases hh with ⟨z, _⟩ | ⟨y, z, hv⟩
        · cases z
        · cases z
          cases hv with
          | int _ t1 =>
            refine sz 0 ui.toNat (Nat.zero_le _) (by omega) h3 none (some (ui, t1)) (.inr ⟨rfl, rfl⟩) (.inl (by simp; omega)) ?_ _ ⟨_, Heap.get?_push_size _ rfl, rfl, rfl⟩ (S.push _) (m.heap _)
            simpa using qq
      · exact q.elim
  · exact q.elim
end
end Mine

namespace Mine
section
variable {g : Gx} {A : Around} {R : RR} {s₀ s : Shared} {H : AHeap} {E : Value → Shared → Prop} {Q : AV → AHeap → Prop}

theorem s_isT {a : AV} {u : Value} {k ty : String} {b : Bool} (hu : VR a u) (S : St g.c R H s.heap) (m : Sm s₀ s) (hk : vkind H a = some k) (hty : ty = "int" ∨ ty = "bool" ∨ ty = "str" ∨ ty = "list")
    (hb : (k == ty || (k == "bool" && ty == "int")) = b) (q : Q (.bool b) H) : wpAny (model g.c.prog g.c.w) A (call (.builtin "isinstance") [u, .type ty]) (TQ g R s₀ Q) E s := by
  subst hb
  cases hu with
  | none =>
    cases hk
    rcases hty with rfl | rfl | rfl | rfl
    · exact IsiPair.NoneType_int (TQ.toks (.bool _) S m q)
    · exact IsiPair.NoneType_bool (TQ.toks (.bool _) S m q)
    · exact IsiPair.NoneType_str (TQ.toks (.bool _) S m q)
    · exact IsiPair.NoneType_list (TQ.toks (.bool _) S m q)
  | bool b =>
    cases hk
    rcases hty with rfl | rfl | rfl | rfl
    · exact IsiPair.bool_int (TQ.pure (.bool _) S m q)
    · exact IsiPair.bool_bool (TQ.pure (.bool _) S m q)
    · exact IsiPair.bool_str (TQ.toks (.bool _) S m q)
    · exact IsiPair.bool_list (TQ.toks (.bool _) S m q)
  | int i t =>
    cases hk
    rcases hty with rfl | rfl | rfl | rfl
    · exact IsiPair.int_int (TQ.pure (.bool _) S m q)
    · exact IsiPair.int_bool (TQ.toks (.bool _) S m q)
    · exact IsiPair.int_str (TQ.toks (.bool _) S m q)
    · exact IsiPair.int_list (TQ.toks (.bool _) S m q)
  | str x t hx =>
    cases hk
    rcases hty with rfl | rfl | rfl | rfl
    · exact IsiPair.str_int (TQ.toks (.bool _) S m q)
    · exact IsiPair.str_bool (TQ.toks (.bool _) S m q)
    · exact IsiPair.str_str (TQ.pure (.bool _) S m q)
    · exact IsiPair.str_list (TQ.toks (.bool _) S m q)
  | ref p =>
    unfold vkind at hk
    dsimp only at hk
    split at hk
    · rename_i xs e
      cases hk
      obtain ⟨vs, n, h1, h2, h3⟩ := isList_of S e
      rcases hty with rfl | rfl | rfl | rfl
      · exact IsiPair.list_int h1 rfl (TQ.toks (.bool _) S m q)
      · exact IsiPair.list_bool h1 rfl (TQ.toks (.bool _) S m q)
      · exact IsiPair.list_str h1 rfl (TQ.toks (.bool _) S m q)
      · exact IsiPair.list_list h1 rfl (TQ.pure (.bool _) S m q)
    · rename_i xs e
      cases hk
      obtain ⟨vs, n, h1, h2, h3⟩ := isTup_of S e
      rcases hty with rfl | rfl | rfl | rfl
      · exact IsiPair.tuple_int h1 rfl (TQ.toks (.bool _) S m q)
      · exact IsiPair.tuple_bool h1 rfl (TQ.toks (.bool _) S m q)
      · exact IsiPair.tuple_str h1 rfl (TQ.toks (.bool _) S m q)
      · exact IsiPair.tuple_list h1 rfl (TQ.toks (.bool _) S m q)
    · rename_i ep es e
      cases hk
      obtain ⟨kvs, ⟨o, ents, h1, h2, h3⟩, hr⟩ := isDict_of S e
      rcases hty with rfl | rfl | rfl | rfl
      · exact IsiPair.dict_int h1 h2.1 (TQ.toks (.bool _) S m q)
      · exact IsiPair.dict_bool h1 h2.1 (TQ.toks (.bool _) S m q)
      · exact IsiPair.dict_str h1 h2.1 (TQ.toks (.bool _) S m q)
      · exact IsiPair.dict_list h1 h2.1 (TQ.toks (.bool _) S m q)
    · cases hk

def primVal : String → Value
  | "len" => .builtin "len"
  | "list" => .type "list"
  | "int" => .type "int"
  | "range" => .type "range"
  | "isinstance" => .builtin "isinstance"
  | "bool" => .type "bool"
  | "str" => .type "str"
  | "ValueError" => .type "ValueError"
  | _ => .builtin "?"
theorem primVal_is (f : String) : (∃ i, primVal f = .builtin i) ∨ ∃ i, primVal f = .type i := by
  unfold primVal
  split <;> simp

theorem hds_of {mg mb : Str → Option Value} {p : Addr} {o : AObj} (C : g.c.Ok mg mb) (S : St g.c R H s.heap) (e : H p = some o) (hne : o.isX = false := by rfl) : (p == sysModules) = false := by
  have h1 := leN (above_of S e hne)
  obtain ⟨mc, hc, _⟩ := C.nolimit
  have h2 := hc.lt
  have h3 : @LT.lt Nat _ sysModules cStatics := by decide
  have h4 : @LT.lt Nat _ cStatics g.c.base.objs.size := h2
  have : @LT.lt Nat _ sysModules p := by omega
  exact beq_eq_false_iff_ne.mpr (Nat.ne_of_gt this)

theorem s_prim {f : String} {as : List AV} {vs : List Value} {mg mb : Str → Option Value} (C : g.c.Ok mg mb) (hv : VRs as vs) (S : St g.c R H s.heap) (m : Sm s₀ s) (q : wprim f as Q H) :
    wpAny (model g.c.prog g.c.w) A (call (primVal f) vs) (TQ g R s₀ Q) E s := by
  unfold wprim at q
  split at q
  · cases hv with | cons h1 h2 => cases h1; cases h2; exact len_str (by have := q.1; omega) (TQ.toks (.int _ _) S m q.2)
  · cases hv with | cons h1 h2 =>
    cases h1; cases h2
    split at q
    · rename_i xs e
      obtain ⟨vs, n, k1, k2, k3⟩ := isList_of S e
      have hl := k2.length
      refine call_len_list k3 (by simp only [List.size_toArray]; have := q.1; omega) (TQ.toks (.int _ _) S m ?_)
      simp only [List.size_toArray]; rw [← hl]; exact q.2
    · rename_i xs e
      obtain ⟨vs, n, k1, k2, k3⟩ := isTup_of S e
      have hl := k2.length
      refine PyProof.Rows.len_tuple k3 (by simp only [List.size_toArray]; have := q.1; omega) (TQ.toks (.int _ _) S m ?_)
      simp only [List.size_toArray]; rw [← hl]; exact q.2
    · rename_i ep es e
      obtain ⟨kvs, hd, hr⟩ := isDict_of S e
      have hl := hr.length
      refine call_len_dict (hds_of C S e) hd.dictOf (by have := q.1; omega) (TQ.toks (.int _ _) S m ?_)
      rw [hl]; exact q.2
    · rename_i ns e
      obtain ⟨D, r⟩ := S.rep
      obtain ⟨vs, n, k1, k2⟩ := r.rep _ _ e
      have hl := k2.length
      rw [List.length_map] at hl
      refine call_len_list (items := vs.toArray) ⟨_, k1, rfl, _, rfl⟩ (by simp only [List.size_toArray]; have := q.1; omega) (TQ.toks (.int _ _) S m ?_)
      simp only [List.size_toArray]; rw [← hl]; exact q.2
    · exact q.elim
  · cases hv with | cons h1 h2 =>
    cases h1; cases h2
    split at q
    · rename_i xs e
      obtain ⟨vs, n, k1, k2, k3⟩ := isList_of S e
      have hl := k2.length
      refine call_list_seq (hsz := by simp only [List.size_toArray]; rw [← hl]; exact q.1) _ (.inl rfl) k1 rfl rfl fun h' c' hk hD => ?_
      exact newListT (s := s) S m k2 (Nat.le_refl _) hk (by have := lts hD; omega) hD q.2
    · rename_i xs e
      obtain ⟨vs, n, k1, k2, k3⟩ := isTup_of S e
      have hl := k2.length
      refine call_list_seq (hsz := by simp only [List.size_toArray]; rw [← hl]; exact q.1) _ (.inr rfl) k1 rfl rfl fun h' c' hk hD => ?_
      exact newListT (s := s) S m k2 (Nat.le_refl _) hk (by have := lts hD; omega) hD q.2
    · exact q.elim
  · cases hv with | cons h1 h2 => cases h1; cases h2; exact call_int_bool (TQ.toks (.int _ _) S m q)
  · cases hv with | cons h1 h2 =>
    cases h1; cases h2
    refine call_range_1 ?_
    obtain ⟨e, S'⟩ := S.newObj (o := .range 0 _) (Nat.le_refl _) (fun _ _ z => Heap.get?_push_of_some _ z) (by rw [Heap.size_push]; omega) (by intro _ _ z; cases z) (fun D => ⟨⟨by decide, by decide, q.1.1, q.1.2⟩, _, _, _, Heap.get?_push_size _ rfl⟩)
    exact ⟨_, _, .ref _, S', m.step _ _, q.2 _ e⟩
  · cases hv with | cons h1 h2 =>
    cases h2 with | cons h3 h4 =>
    cases h1; cases h3; cases h4
    refine call_range_2 ?_
    obtain ⟨e, S'⟩ := S.newObj (o := .range _ _) (Nat.le_refl _) (fun _ _ z => Heap.get?_push_of_some _ z) (by rw [Heap.size_push]; omega) (by intro _ _ z; cases z) (fun D => ⟨q.1, _, _, _, Heap.get?_push_size _ rfl⟩)
    exact ⟨_, _, .ref _, S', m.step _ _, q.2 _ e⟩
  · exact q.elim

theorem s_append {p : Addr} {v : AV} {u : Value} {xs : List AV} (hv : VR v u) (S : St g.c R H s.heap) (m : Sm s₀ s) (e : H p = some (.list xs)) (hz : xs.length ≤ sizeLine) (q : Q .none (up H p (.list (xs ++ [v])))) :
    wpAny (model g.c.prog g.c.w) A (call (.builtin "list.append") [.ref p, u]) (TQ g R s₀ Q) E s := by
  obtain ⟨vs, n, k1, k2, k3⟩ := isList_of S e
  refine append_at k1 (fun h' hs ho => ?_) (by simp only [List.size_toArray]; rw [← k2.length]; exact hz)
  refine ⟨.none, _, .none, S.setObj (o' := .list (xs ++ [v])) e (by intro _ _ z; cases z) hs (fun D => ⟨vs ++ [u], n + 1, ?_, k2.append (.one hv)⟩), m.heap _, q⟩
  rw [ho]; simp
end
end Mine

namespace Mine

/-! ## the text's trees against the abstract program's -/
def kindOk (sc : Scope) (id : Str) : Bool := match sc.names.lookup id with
  | some .local => true
  | some .cell => true
  | some .free => true
  | _ => false
def isGlob (sc : Scope) (id : Str) : Bool := sc.names.lookup id == some .globalImplicit
def plainName (id : Str) : Bool := !(id == ("__debug__" : Str)) && !(id == ("__classdict__" : Str))
def baseOk : PySem.Expr → Bool
  | .Call (.Name _ _) [] [] _ => false
  | _ => true
def noSlice : PySem.Expr → Bool
  | .Slice .. => false
  | _ => true
def nameIs (sc : Scope) (n : String) : PySem.Expr → Bool
  | .Name id _ => id == Str.ofString n && isGlob sc id && plainName id
  | _ => false
def hideN (nm : List Str) (ts : List Str) : List Str := nm.map fun x => if ts.contains x then ⟨#[]⟩ else x
def namesOfE : List PySem.Expr → Option (List Str)
  | [] => some []
  | .Name id _ :: r => (namesOfE r).map (id :: ·)
  | _ => none
/-- a comprehension's own scope: its targets and .0 local, the rest free -/
def compScOk (sc csc : Scope) (ts : List Str) : Bool :=
  csc.kind == .function && ts.all (fun t => csc.names.lookup t == some .local && t.length != 0 && plainName t) && decide ts.Nodup &&
  csc.names.all (fun p => p.2 != .cell && (p.2 != .local || csc.names.lookup p.1 == some .local) && (p.2 != .free || (sc.names.lookup p.1 == some .cell && !ts.contains p.1)) && p.1.length != 0)

mutual
def mtX (P : Pg) (top : Bool) (sc : Scope) (nm : List Str) : X → PySem.Expr → Bool
  | .lit v, e => (match e with
    | .Constant cc _ _ => (match v, cc with
      | .none, .none => true
      | .bool a, .bool b => a == b
      | .int a, .int b => a == b
      | .str a, .str b => a == b && PyData.strOk a
      | _, _ => false)
    | _ => false)
  | .var i, e => (match e with
    | .Name id _ => nm[i]? == some id && kindOk sc id && plainName id
    | _ => false)
  | .glob n, e => nameIs sc n e
  | .bin op a b, e => (match e with
    | .BinOp l op' r _ => op == op' && mtX P top sc nm a l && mtX P top sc nm b r
    | _ => false)
  | .neg a, e => (match e with
    | .UnaryOp .USub x _ => mtX P top sc nm a x
    | _ => false)
  | .not a, e => (match e with
    | .UnaryOp .Not x _ => mtX P top sc nm a x
    | _ => false)
  | .ao isAnd xs, e => (match e with
    | .BoolOp op vs _ => (op == (if isAnd then PySem.BoolOp.And else PySem.BoolOp.Or)) && mtXs P top sc nm xs vs
    | _ => false)
  | .ite c a b, e => (match e with
    | .IfExp t x y _ => mtX P top sc nm c t && mtX P top sc nm a x && mtX P top sc nm b y
    | _ => false)
  | .cmp op a b, e => (match e with
    | .Compare l [op'] [r] _ => op == op' && !behindInMarks op' r && mtX P top sc nm a l && mtX P top sc nm b r
    | _ => false)
  | .cmp2 op₁ op₂ a b d, e => (match e with
    | .Compare l [o₁, o₂] [r₁, r₂] _ => op₁ == o₁ && op₂ == o₂ && !lastMarks [o₁, o₂] [r₁, r₂] && mtX P top sc nm a l && mtX P top sc nm b r₁ && mtX P top sc nm d r₂
    | _ => false)
  | .sub a i, e => (match e with
    | .Subscript v sl _ => noSlice sl && mtX P top sc nm a v && mtX P top sc nm i sl
    | _ => false)
  | .slice a lo hi st, e => (match e with
    | .Subscript v (.Slice l u t _) _ => mtX P top sc nm a v && mtO P top sc nm lo l && mtO P top sc nm hi u && mtO P top sc nm st t
    | _ => false)
  | .attr a n, e => (match e with
    | .Attribute v at' _ => at' == Str.ofString n && baseOk v && mtX P top sc nm a v
    | _ => false)
  | .call f xs, e => (match e with
    | .Call fe args [] _ => nameIs sc f fe && P.gfns.contains f && mtXs P top sc nm xs args
    | _ => false)
  | .new cl xs, e => (match e with
    | .Call fe args [] _ => nameIs sc cl fe && P.classes.contains cl && mtXs P top sc nm xs args
    | _ => false)
  | .meth a m xs, e => (match e with
    | .Call (.Attribute o name apos) args [] pos => name == Str.ofString m && (apos.endLine == pos.line) && baseOk o && decide (args.length < 29) && mtX P top sc nm a o && mtXs P top sc nm xs args
    | _ => false)
  | .prim f xs, e => (match e with
    | .Call fe args [] _ => nameIs sc f fe && P.prims.contains f && mtXs P top sc nm xs args
    | _ => false)
  | .isinst a ty, e => (match e with
    | .Call fe [x, t] [] _ => nameIs sc "isinstance" fe && P.prims.contains "isinstance" && P.prims.contains ty && nameIs sc ty t && mtX P top sc nm a x
    | _ => false)
  | .list xs, e => (match e with
    | .List es _ => mtXs P top sc nm xs es && decide (es.length < 1000)
    | _ => false)
  | .tuple xs, e => (match e with
    | .Tuple es _ _ => mtXs P top sc nm xs es && decide (es.length < 1000)
    | _ => false)
  | .dict ks vs, e => (match e with
    | .Dict ks' vs' _ => (match ks, vs, ks', vs' with | [], [], [], [] => true | _, _, _, _ => false)
    | _ => false)
  | .comp x k tup it c, e => false && top && (match e with
    | .ListComp elt [⟨tg, iter, ifs, ia⟩] csc _ => ia == 0 && mtX P top sc nm it iter && (match iter with | .Set .. => false | _ => true) &&
        (match (if tup then (match tg with | .Tuple es _ _ => namesOfE es | _ => none) else (match tg with | .Name id _ => some [id] | _ => none)) with
        | some ts => decide (ts.length = k) && compScOk sc csc ts && mtX P false csc (hideN nm ts ++ ts) x elt && mtC P csc (hideN nm ts ++ ts) c ifs
        | none => false)
    | _ => false)
def mtXs (P : Pg) (top : Bool) (sc : Scope) (nm : List Str) : List X → List PySem.Expr → Bool
  | [], es => es.isEmpty
  | x :: r, es => (match es with
    | e :: q => mtX P top sc nm x e && mtXs P top sc nm r q
    | [] => false)
def mtO (P : Pg) (top : Bool) (sc : Scope) (nm : List Str) : Option X → Option PySem.Expr → Bool
  | none, e => e.isNone
  | some x, e => (match e with
    | some e => mtX P top sc nm x e
    | none => false)
def mtOs (P : Pg) (top : Bool) (sc : Scope) (nm : List Str) : List X → List (Option PySem.Expr) → Bool
  | [], es => es.isEmpty
  | x :: r, es => (match es with
    | some e :: q => mtX P top sc nm x e && mtOs P top sc nm r q
    | _ => false)
def mtC (P : Pg) (sc : Scope) (nm : List Str) : Option X → List PySem.Expr → Bool
  | none, es => es.isEmpty
  | some x, es => (match es with
    | [e] => mtX P false sc nm x e
    | _ => false)
end

/-! ## frames -/
def locKind (sc : Scope) (id : Str) : Bool := match sc.names.lookup id with
  | some .local => true
  | some .cell => true
  | _ => false
/-- a name's value as known -/
inductive OVW : Option AV → Option Value → Prop
  | none {x} : OVW Option.none x
  | some {a v} : VR a v → OVW (Option.some a) (Option.some v)
structure Frm (R : RR) (env : Env) (sc : Scope) (nm : List Str) (V : VV) : Prop where
  kind : env.scope.kind = .function
  glob : env.globals = mainGlobals
  blt : env.builtins = builtinsNs
  sco : ∀ id, isGlob sc id = true → env.kindOf id = some .globalImplicit
  kok : ∀ id, kindOk sc id = true → env.kindOf id = some .local ∨ env.kindOf id = some .cell ∨ env.kindOf id = some .free
  lok : ∀ id, locKind sc id = true → env.kindOf id = some .local ∨ env.kindOf id = some .cell
  lco : ∀ id, sc.names.lookup id = some .local → env.kindOf id = some .local
  inj : ∀ n n' a, env.cells.lookup n = some a → env.cells.lookup n' = some a → n = n'
  ns : ∃ m, R env.locals = some (.ns m) ∧ ∀ (i : Nat) n, nm[i]? = some n → env.kindOf n = some .local → ∃ v, V[i]? = some v ∧ OVW v (m n)
  cell : ∀ (i : Nat) n, nm[i]? = some n → (env.kindOf n = some .cell ∨ env.kindOf n = some .free) → ∃ a x v, env.cells.lookup n = some a ∧ R a = some (.cell x) ∧ V[i]? = some v ∧ OVW v x

def veM : List Value := [.type "ValueError", .type "Exception", .type "BaseException", .type "object"]
/-- what the program's own tables say, held against the written part of the heap -/
structure PgOk (c : Cx) : Prop where
  fn : ∀ f, c.P.gfns.contains f = true → nsIn c.K mainGlobals (Str.ofString f) = some (some (.ref (c.fa f))) ∧ keepIn c.K (.ref (c.fa f)) = true
  cls : ∀ cl, c.P.classes.contains cl = true → nsIn c.K mainGlobals (Str.ofString cl) = some (some (.ref (c.ca cl))) ∧ keepIn c.K (.ref (c.ca cl)) = true ∧ makesIn c.K (c.ca cl) = true ∧
    findIn c.K (.ref (c.ca cl)) "__init__" = some (some (.ref (c.fa (cl ++ ".__init__")))) ∧ isFn c.K (.ref (c.fa (cl ++ ".__init__"))) = true
  meth : ∀ cl m, c.P.meths.contains (cl, m) = true → plainGet c.K (c.ca cl) (Str.ofString m) = true ∧ findIn c.K (.ref (c.ca cl)) (Str.ofString m) = some (some (.ref (c.fa (cl ++ "." ++ m)))) ∧ isFn c.K (.ref (c.fa (cl ++ "." ++ m))) = true ∧
    keepIn c.K (.ref (c.fa (cl ++ "." ++ m))) = true
  attr : ∀ cl n, c.P.attrs.contains (cl, n) = true → plainGet c.K (c.ca cl) (Str.ofString n) = true ∧ hasDictIn c.K (c.ca cl) = true ∧ findIn c.K (.ref (c.ca cl)) (Str.ofString n) = some none ∧
    findIn c.K (.ref (c.ca cl)) "__setattr__" = some (some (.builtin "object.__setattr__")) ∧ plainOver c.K (c.ca cl) = true ∧ takerIn c.K (c.ca cl) (Str.ofString n) = some none
  prim : ∀ f, c.P.prims.contains f = true → nsIn c.K mainGlobals (Str.ofString f) = some none ∧ (Str.ofString f == Str.ofString "__name__") = false ∧ bootBuiltins (Str.ofString f) = some (primVal f)
  exc : ∀ cl ty, ((c.P.excs.lookup cl).map (·.contains ty)).getD false = true → c.P.prims.contains ty = true → ty = "ValueError" ∧ subIn c.K (.ref (c.ca cl)) (.type ty) = some true
  excR : ∀ cl, (c.P.excs.lookup cl).isSome = true → nsIn c.K mainGlobals (Str.ofString cl) = some (some (.ref (c.ca cl))) ∧ excIn c.K (c.ca cl) veM "ValueError.__new__" = true ∧ instIn c.K (.ref (c.ca cl)) (.type "tuple") = some false ∧ subIn c.K (.ref (c.ca cl)) (.type "BaseException") = some true ∧ (clsIn c.K (c.ca cl)).isSome = true
  excC : ∀ cl d, (c.P.excs.lookup cl).isSome = true → (c.P.excs.lookup d).isSome = true → subIn c.K (.ref (c.ca cl)) (.ref (c.ca d)) = some (excSub c.P cl d)
  const : ∀ n v, c.P.consts.lookup n = some v → ∃ x, nsIn c.K mainGlobals (Str.ofString n) = some (some x) ∧ VR v x
end Mine

namespace Mine
/-! ## statements -/
def notComp : PySem.Expr → Bool
  | .ListComp .. => false
  | .SetComp .. => false
  | .DictComp .. => false
  | .Set .. => false
  | _ => true
def tgtOk (sc : Scope) (nm : List Str) (i : Nat) : PySem.Expr → Bool
  | .Name id _ => nm[i]? == some id && locKind sc id
  | _ => false
def mtT (P : Pg) (sc : Scope) (nm : List Str) : T → PySem.Expr → Bool
  | .var i, e => tgtOk sc nm i e
  | .sub a i, e => (match e with
    | .Subscript v sl _ => noSlice sl && mtX P true sc nm a v && mtX P true sc nm i sl
    | _ => false)
  | _, _ => false
mutual
def mtS (P : Pg) (sc : Scope) (nm : List Str) : S → Stmt → Bool
  | .assign t e, st => (match st with
    | .Assign [tg] v _ => notComp v && mtT P sc nm t tg && mtX P true sc nm e v
    | _ => false)
  | .expr e, st => (match st with
    | .Expr v _ => notComp v && mtX P true sc nm e v
    | _ => false)
  | .ret e, st => (match st with
    | .Return (some v) _ => mtX P true sc nm e v
    | _ => false)
  | .ite c a b, st => (match st with
    | .If t x y _ => mtX P true sc nm c t && mtSs P sc nm a x && mtSs P sc nm b y
    | _ => false)
  | .while c b, st => (match st with
    | .While t x [] _ => mtX P true sc nm c t && mtSs P sc nm b x
    | _ => false)
  | .for t it b, st => (match t with
    | .var i => (match st with
      | .For tg iter x [] _ => notComp iter && tgtOk sc nm i tg && mtX P true sc nm it iter && mtSs P sc nm b x
      | _ => false)
    | .tup _ => false)
  | .raise cl msg, st => (match st with
    | .Raise (some (.Call fe [.Constant (.str m) _ _] [] _)) none _ => nameIs sc cl fe && (P.excs.lookup cl).isSome && m == msg && PyData.strOk msg
    | _ => false)
  | .try b hs, st => (match st with
    | .Try x (h₀ :: hs') [] [] _ => mtSs P sc nm b x && mtHs P sc nm hs (h₀ :: hs')
    | _ => false)
  | .pass, st => (match st with
    | .Pass _ => true
    | _ => false)
def mtSs (P : Pg) (sc : Scope) (nm : List Str) : List S → List Stmt → Bool
  | [], es => es.isEmpty
  | x :: r, es => (match es with
    | e :: q => mtS P sc nm x e && mtSs P sc nm r q
    | [] => false)
def mtHs (P : Pg) (sc : Scope) (nm : List Str) : List Hd → List ExceptHandler → Bool
  | [], es => es.isEmpty
  | h :: r, es => (match es with
    | e :: q => mtH P sc nm h e && mtHs P sc nm r q
    | [] => false)
def mtH (P : Pg) (sc : Scope) (nm : List Str) : Hd → ExceptHandler → Bool
  | .mk cl nmi b, e => (match e with
    | .ExceptHandler (some t) name (x :: body) _ => nameIs sc cl t && (P.excs.lookup cl).isSome && mtSs P sc nm b (x :: body) && (match nmi, name with
      | none, none => true
      | some i, some n => nm[i]? == some n && sc.names.lookup n == some .local
      | _, _ => false)
    | _ => false)
end
end Mine

namespace Mine

def HX (g : Gx) (A : Around) (R : RR) (V : VV) (s₀ : Shared) (x : X) (t : Sem Value) : Prop :=
  ∀ (H : AHeap) (s : Shared) (Q : AV → AHeap → Prop) (E : String → AHeap → Prop), St g.c R H s.heap → Sm s₀ s → wpX g x V Q E H → wpAny (model g.c.prog g.c.w) A t (TQ g R s₀ Q) (TE g R s₀ E) s
def TT (g : Gx) (R : RR) (s₀ : Shared) (Q : AV → Bool → AHeap → Prop) (b : Bool) (s' : Shared) : Prop := ∃ v H', St g.c R H' s'.heap ∧ Sm s₀ s' ∧ Q v b H' ∧ ∀ P : Bool → Prop, wtruth v H' P → P b
def HT (g : Gx) (A : Around) (R : RR) (V : VV) (s₀ : Shared) (x : X) (t : Sem Bool) : Prop :=
  ∀ (H : AHeap) (s : Shared) (Q : AV → Bool → AHeap → Prop) (E : String → AHeap → Prop), St g.c R H s.heap → Sm s₀ s → wpX g x V (fun v H => wtruth v H fun b => Q v b H) E H →
    wpAny (model g.c.prog g.c.w) A t (TT g R s₀ Q) (TE g R s₀ E) s
def TQs (g : Gx) (R : RR) (s₀ : Shared) (Q : List AV → AHeap → Prop) (vs : List Value) (s' : Shared) : Prop := ∃ as H', VRs as vs ∧ St g.c R H' s'.heap ∧ Sm s₀ s' ∧ Q as H'
def HXs (g : Gx) (A : Around) (R : RR) (V : VV) (s₀ : Shared) (xs : List X) (t : Sem (List Value)) : Prop :=
  ∀ (H : AHeap) (s : Shared) (Q : List AV → AHeap → Prop) (E : String → AHeap → Prop), St g.c R H s.heap → Sm s₀ s → wpXs g xs V Q E H → wpAny (model g.c.prog g.c.w) A t (TQs g R s₀ Q) (TE g R s₀ E) s

theorem wtruth_self {v : AV} {H : AHeap} {P : Bool → Prop} (h : wtruth v H P) : ∃ b, P b ∧ (∀ P' : Bool → Prop, wtruth v H P' → P' b) ∧ ∀ P' : Bool → Prop, P' b → wtruth v H P' := by
  cases v with
  | none => exact ⟨_, h, fun _ x => x, fun _ x => x⟩
  | bool b => exact ⟨_, h, fun _ x => x, fun _ x => x⟩
  | int i => exact ⟨_, h, fun _ x => x, fun _ x => x⟩
  | str s => exact ⟨_, h.2, fun _ x => x.2, fun _ x => ⟨h.1, x⟩⟩
  | ref a =>
    unfold wtruth at h ⊢
    dsimp only at h ⊢
    split at h
    · exact ⟨_, h.2, fun P' x => x.2, fun P' x => ⟨h.1, x⟩⟩
    · exact ⟨_, h.2, fun P' x => x.2, fun P' x => ⟨h.1, x⟩⟩
    · exact h.elim

section
variable {g : Gx} {A : Around} {R : RR} {V : VV} {s₀ : Shared} {env : Env} {mg mb : Str → Option Value} {e₀ : Env} {l₀ : List Env}

/-- a value's truth asked -/
theorem s_truthT {H : AHeap} {s : Shared} {v : Value} {a : AV} {Q : AV → Bool → AHeap → Prop} {E : Value → Shared → Prop} (hv : VR a v) (S : St g.c R H s.heap) (m : Sm s₀ s) (q : wtruth a H (fun b => Q a b H)) :
    wpAny (model g.c.prog g.c.w) A (truthy v) (TT g R s₀ Q) E s := by
  obtain ⟨b, qb, hb, hb'⟩ := wtruth_self q
  refine wpAny_mono (s_truth (A := A) (E := E) (Qb := fun b' H' => H' = H ∧ b' = b) hv S m (hb' _ ⟨rfl, rfl⟩)) (fun b' s' h => ?_) fun _ _ x => x
  obtain ⟨H', S', m', e1, e2⟩ := h
  subst e1 e2
  exact ⟨a, H', S', m', qb, hb⟩

theorem HT.plain {x : X} {e : PySem.Expr} {whole : Sem Value} (h : HX g A R V s₀ x whole) (he : isTrue e env whole = (do let v ← whole; standAt e.pos; holding [v] (truthy v))) :
    HT g A R V s₀ x (isTrue e env whole) := fun H s Q E S m q => by
  refine isTrue_plain (wpAny_mono (h H s _ E S m q) (fun v s' z => ?_) fun _ _ z => z) he
  obtain ⟨a, H', hv, S', m', q'⟩ := z
  exact s_truthT hv S' m' q'

theorem hx_lit {v : AV} {cc : Const} {k : Nat} {p : Pos} (hc : (match v, cc with
      | .none, .none => true
      | .bool a, .bool b => a == b
      | .int a, .int b => a == b
      | .str a, .str b => a == b && PyData.strOk a
      | _, _ => false) = true) : HX g A R V s₀ (.lit v) (eval (.Constant cc k p) env) := fun H s Q E S m q => by
  split at hc
  · exact wpAny_Constant_none (TQ.pure .none S m q)
  · rw [beq_iff_eq.mp hc] at q; exact wpAny_Constant_bool (TQ.pure (.bool _) S m q)
  · rw [beq_iff_eq.mp hc] at q; exact wpAny_Constant_int (TQ.toks (.int _ _) S m q)
  · obtain ⟨h1, h2⟩ := Bool.and_eq_true_iff.mp hc
    rw [beq_iff_eq.mp h1] at q h2
    exact wpAny_Constant_str (TQ.toks (.str _ _ h2) S m q)
  · cases hc

theorem hx_var {sc : Scope} {nm : List Str} {i : Nat} {id : Str} {p : Pos} (fr : Frm R env sc nm V) (h1 : nm[i]? = some id) (h2 : kindOk sc id = true) (h3 : plainName id = true) :
    HX g A R V s₀ (.var i) (eval (.Name id p) env) := fun H s Q E S m q => by
  unfold plainName at h3
  simp only [Bool.and_eq_true, Bool.not_eq_true'] at h3
  simp only [wpX] at q
  rcases fr.kok id h2 with k | k | k
  · obtain ⟨mm, r1, r2⟩ := fr.ns
    obtain ⟨v, e, ov⟩ := r2 i id h1 k
    rw [e] at q
    generalize hw : mm id = w at ov
    cases ov with
    | none => exact q.elim
    | some hv => exact wpAny_Name (wpAny_loadName_local fr.kind k (S.res _ _ r1).2 hw (TQ.pure hv S m q)) h3.1
  · obtain ⟨a, x, v, e1, e2, e3, ov⟩ := fr.cell i id h1 (.inl k)
    rw [e3] at q
    cases ov with
    | none => exact q.elim
    | some hv => exact wpAny_Name (wpAny_loadName_cell fr.kind k e1 (S.res _ _ e2).2 (TQ.pure hv S m q)) h3.1
  · obtain ⟨a, x, v, e1, e2, e3, ov⟩ := fr.cell i id h1 (.inr k)
    rw [e3] at q
    cases ov with
    | none => exact q.elim
    | some hv => exact wpAny_Name (wpAny_loadName_free fr.kind k e1 (S.res _ _ e2).2 (TQ.pure hv S m q) h3.2) h3.1

/-- a global name of the text's, or a built-in one -/
theorem glob_K {sc : Scope} {nm : List Str} {n : String} {e : PySem.Expr} {v : Value} {H : AHeap} {s : Shared} {Q : Value → Shared → Prop} {E : Value → Shared → Prop} (C : g.c.Ok mg mb) (fr : Frm R env sc nm V) (S : St g.c R H s.heap)
    (hn : nameIs sc n e = true) (hk : nsIn g.c.K mainGlobals (Str.ofString n) = some (some v)) (q : Q v s) : wpAny (model g.c.prog g.c.w) A (eval e env) Q E s := by
  unfold nameIs at hn
  split at hn
  · rename_i id p
    simp only [Bool.and_eq_true, beq_iff_eq] at hn
    obtain ⟨⟨h1, h2⟩, h3⟩ := hn
    unfold plainName at h3
    simp only [Bool.and_eq_true, Bool.not_eq_true'] at h3
    subst h1
    refine Name_function_global fr.kind (fr.sco _ h2) (loadGlobal_global (mg := mg) ?_ (mg_of C.kin C.g hk) q) h3.1
    rw [fr.glob]; exact C.g.keeps S.stays
  · cases hn
theorem glob_B {sc : Scope} {nm : List Str} {n : String} {e : PySem.Expr} {v : Value} {H : AHeap} {s : Shared} {Q : Value → Shared → Prop} {E : Value → Shared → Prop} (C : g.c.Ok mg mb) (fr : Frm R env sc nm V) (S : St g.c R H s.heap)
    (hn : nameIs sc n e = true) (hk : nsIn g.c.K mainGlobals (Str.ofString n) = some none) (hne : (Str.ofString n == Str.ofString "__name__") = false) (hb : bootBuiltins (Str.ofString n) = some v) (q : Q v s) :
    wpAny (model g.c.prog g.c.w) A (eval e env) Q E s := by
  unfold nameIs at hn
  split at hn
  · rename_i id p
    simp only [Bool.and_eq_true, beq_iff_eq] at hn
    obtain ⟨⟨h1, h2⟩, h3⟩ := hn
    unfold plainName at h3
    simp only [Bool.and_eq_true, Bool.not_eq_true'] at h3
    subst h1
    have hne' : Str.ofString n ≠ "__name__" := fun z => by rw [z] at hne; simp at hne
    refine Name_function_global fr.kind (fr.sco _ h2) (loadGlobal_builtin (mg := mg) (mb := mb) ?_ (mg_none_of C.kin C.g hk) ?_ ((C.builtins _ hne').trans hb) q) h3.1
    · rw [fr.glob]; exact C.g.keeps S.stays
    · rw [fr.blt]; exact C.b.keeps S.stays
  · cases hn

theorem hx_glob {sc : Scope} {nm : List Str} {n : String} {e : PySem.Expr} (C : g.c.Ok mg mb) (PO : PgOk g.c) (fr : Frm R env sc nm V) (hn : nameIs sc n e = true) : HX g A R V s₀ (.glob n) (eval e env) := fun H s Q E S m q => by
  simp only [wpX] at q
  split at q
  · rename_i v hv
    obtain ⟨x, h1, h2⟩ := PO.const n v hv
    exact glob_K C fr S hn h1 (TQ.pure h2 S m q)
  · exact q.elim

theorem hx_bin {op : Operator} {a b : X} {l r : PySem.Expr} {p : Pos} (C : g.c.Ok mg mb) (ev : Ev g A R e₀ l₀) (ha : HX g A R V s₀ a (eval l env)) (hb : HX g A R V s₀ b (eval r env)) : HX g A R V s₀ (.bin op a b) (eval (.BinOp l op r p) env) :=
  fun H s Q E S m q => by
  simp only [wpX] at q
  refine wpAny_BinOp (wpAny_mono (ha H s _ E S m q) (fun u s₁ z => ?_) fun _ _ z => z)
  obtain ⟨au, H₁, hu, S₁, m₁, q₁⟩ := z
  refine wpAny_mono (hb H₁ s₁ _ E S₁ m₁ q₁) (fun v s₂ z => ?_) fun _ _ z => z
  obtain ⟨av, H₂, hv, S₂, m₂, q₂⟩ := z
  exact s_bin C ev hu hv S₂ m₂ q₂

theorem hx_neg {a : X} {l : PySem.Expr} {p : Pos} (ha : HX g A R V s₀ a (eval l env)) : HX g A R V s₀ (.neg a) (eval (.UnaryOp .USub l p) env) := fun H s Q E S m q => by
  simp only [wpX] at q
  refine wpAny_UnaryOp (wpAny_mono (ha H s _ E S m q) (fun u s₁ z => ?_) fun _ _ z => z)
  obtain ⟨au, H₁, hu, S₁, m₁, q₁⟩ := z
  split at q₁
  · cases hu; exact neg_int (TQ.toks (.int _ _) S₁ m₁ q₁)
  · exact q₁.elim

theorem hx_not {a : X} {l : PySem.Expr} {p : Pos} (ha : HX g A R V s₀ a (eval l env)) : HX g A R V s₀ (.not a) (eval (.UnaryOp .Not l p) env) := fun H s Q E S m q => by
  simp only [wpX] at q
  refine wpAny_UnaryOp (wpAny_mono (ha H s _ E S m q) (fun u s₁ z => ?_) fun _ _ z => z)
  obtain ⟨au, H₁, hu, S₁, m₁, q₁⟩ := z
  refine not_of (wpAny_mono (s_truth hu S₁ m₁ (Qb := fun b H => Q (.bool (!b)) H) q₁) (fun b s₂ z => ?_) fun _ _ z => z)
  obtain ⟨H₂, S₂, m₂, q₂⟩ := z
  exact TQ.pure (.bool _) S₂ m₂ q₂
theorem ht_not {a : X} {l : PySem.Expr} {p : Pos} {whole : Sem Value} (ha : HT g A R V s₀ a (isTrue l env (eval l env))) : HT g A R V s₀ (.not a) (isTrue (.UnaryOp .Not l p) env whole) := fun H s Q E S m q => by
  simp only [wpX] at q
  refine isTrue_not (wpAny_mono (ha H s (fun _ b H => Q (.bool (!b)) (!b) H) E S m q) (fun b s₁ z => ?_) fun _ _ z => z)
  obtain ⟨v, H₁, S₁, m₁, q₁, _⟩ := z
  exact ⟨.bool (!b), H₁, S₁, m₁, q₁, fun P z => z⟩

theorem hx_ite {c a b : X} {t x y : PySem.Expr} {p : Pos} (hc : HT g A R V s₀ c (isTrue t env (eval t env))) (ha : HX g A R V s₀ a (eval x env)) (hb : HX g A R V s₀ b (eval y env)) :
    HX g A R V s₀ (.ite c a b) (eval (.IfExp t x y p) env) := fun H s Q E S m q => by
  simp only [wpX] at q
  refine wpAny_IfExp (wpAny_mono (hc H s (fun _ t H => if t then wpX g a V Q E H else wpX g b V Q E H) E S m q) (fun b s₁ z => ?_) fun _ _ z => z)
  obtain ⟨v, H₁, S₁, m₁, q₁, _⟩ := z
  cases b with
  | true => exact ha H₁ s₁ Q E S₁ m₁ q₁
  | false => exact hb H₁ s₁ Q E S₁ m₁ q₁
theorem ht_ite {c a b : X} {t x y : PySem.Expr} {p : Pos} {whole : Sem Value} (hc : HT g A R V s₀ c (isTrue t env (eval t env))) (ha : HT g A R V s₀ a (isTrue x env (eval x env))) (hb : HT g A R V s₀ b (isTrue y env (eval y env))) :
    HT g A R V s₀ (.ite c a b) (isTrue (.IfExp t x y p) env whole) := fun H s Q E S m q => by
  simp only [wpX] at q
  rw [arm_isTrue_IfExp]
  refine wpAny_bind (wpAny_mono (hc H s (fun _ t H => if t then wpX g a V _ E H else wpX g b V _ E H) E S m q) (fun b s₁ z => ?_) fun _ _ z => z)
  obtain ⟨v, H₁, S₁, m₁, q₁, _⟩ := z
  cases b with
  | true => exact ha H₁ s₁ Q E S₁ m₁ q₁
  | false => exact hb H₁ s₁ Q E S₁ m₁ q₁

theorem hx_cmp {op : CmpOp} {a b : X} {l r : PySem.Expr} {p : Pos} (C : g.c.Ok mg mb) (ev : Ev g A R e₀ l₀) (hm : behindInMarks op r = false) (ha : HX g A R V s₀ a (eval l env)) (hb : HX g A R V s₀ b (eval r env)) :
    HX g A R V s₀ (.cmp op a b) (eval (.Compare l [op] [r] p) env) := fun H s Q E S m q => by
  simp only [wpX] at q
  refine wpAny_Compare1 (wpAny_mono (ha H s _ E S m q) (fun u s₁ z => ?_) fun _ _ z => z) hm
  obtain ⟨au, H₁, hu, S₁, m₁, q₁⟩ := z
  refine wpAny_mono (hb H₁ s₁ _ E S₁ m₁ q₁) (fun v s₂ z => ?_) fun _ _ z => z
  obtain ⟨av, H₂, hv, S₂, m₂, q₂⟩ := z
  exact s_cmp C ev hu hv S₂ m₂ q₂
theorem ht_cmp {op : CmpOp} {a b : X} {l r : PySem.Expr} {p : Pos} {whole : Sem Value} (C : g.c.Ok mg mb) (ev : Ev g A R e₀ l₀) (hm : behindInMarks op r = false) (ha : HX g A R V s₀ a (eval l env)) (hb : HX g A R V s₀ b (eval r env)) :
    HT g A R V s₀ (.cmp op a b) (isTrue (.Compare l [op] [r] p) env whole) := fun H s Q E S m q => by
  simp only [wpX] at q
  refine wpAny_isTrue_Compare1 (wpAny_mono (ha H s _ E S m q) (fun u s₁ z => ?_) fun _ _ z => z) hm
  obtain ⟨au, H₁, hu, S₁, m₁, q₁⟩ := z
  refine wpAny_mono (hb H₁ s₁ _ E S₁ m₁ q₁) (fun v s₂ z => ?_) fun _ _ z => z
  obtain ⟨av, H₂, hv, S₂, m₂, q₂⟩ := z
  refine wpAny_mono (s_cmp C ev hu hv S₂ m₂ q₂) (fun c s₃ z => ?_) fun _ _ z => z
  obtain ⟨ac, H₃, hc, S₃, m₃, q₃⟩ := z
  exact s_truthT hc S₃ m₃ q₃

theorem chain2 {M : Model} {E : Value → Shared → Prop} {s : Shared} {pos : Pos} {a : Value} {op₁ op₂ : CmpOp} {t₁ t₂ : Sem Value} {Q : Value → Shared → Prop}
    (h : wpAny M A t₁ (fun b s₁ => wpAny M A (compareOp op₁ a b) (fun c s₂ => wpAny M A (truthy c) (fun t s₃ => if t then wpAny M A t₂ (fun d s₄ => wpAny M A (compareOp op₂ b d) Q E s₄) E s₃ else Q c s₃) E s₂) E s₁) E s) :
    wpAny M A (compareChain pos a [op₁, op₂] [t₁, t₂]) Q E s := by
  unfold compareChain
  refine wpAny_bind (wpAny_holding (wpAny_mono h (fun b s₁ z => ?_) fun _ _ z => z))
  refine wpAny_bind (wpAny_standAt (wpAny_bind (wpAny_holding (wpAny_mono z (fun c s₂ z => ?_) fun _ _ z => z))))
  refine wpAny_bind (wpAny_release (wpAny_bind (wpAny_holding (wpAny_mono z (fun t s₃ z => ?_) fun _ _ z => z))))
  cases t with
  | false => exact wpAny_pure z
  | true =>
    simp only [if_true] at z ⊢
    unfold compareChain
    exact wpAny_bind (wpAny_holding (wpAny_mono z (fun d s₄ z => wpAny_bind (wpAny_standAt (wpAny_operating z))) fun _ _ z => z))
theorem test2 {M : Model} {E : Value → Shared → Prop} {s : Shared} {pos : Pos} {a : Value} {op₁ op₂ : CmpOp} {t₁ t₂ : Sem Value} {Q : Bool → Shared → Prop}
    (h : wpAny M A t₁ (fun b s₁ => wpAny M A (compareOp op₁ a b) (fun c s₂ => wpAny M A (truthy c) (fun t s₃ => if t then wpAny M A t₂ (fun d s₄ => wpAny M A (compareOp op₂ b d) (fun c' s₅ => wpAny M A (truthy c') Q E s₅) E s₄) E s₃ else Q false s₃) E s₂) E s₁) E s) :
    wpAny M A (testChain pos a [op₁, op₂] [t₁, t₂]) Q E s := by
  unfold testChain
  refine wpAny_bind (wpAny_holding (wpAny_mono h (fun b s₁ z => ?_) fun _ _ z => z))
  refine wpAny_bind (wpAny_standAt (wpAny_bind (wpAny_holding (wpAny_mono z (fun c s₂ z => ?_) fun _ _ z => z))))
  refine wpAny_bind (wpAny_release (wpAny_bind (wpAny_holding (wpAny_mono z (fun t s₃ z => ?_) fun _ _ z => z))))
  cases t with
  | false => exact wpAny_pure z
  | true =>
    simp only [if_true] at z ⊢
    unfold testChain
    exact wpAny_bind (wpAny_holding (wpAny_mono z (fun d s₄ z => wpAny_bind (wpAny_standAt (wpAny_bind (wpAny_operating (wpAny_mono z (fun c' s₅ z => wpAny_holding z) fun _ _ z => z))))) fun _ _ z => z))

theorem hx_cmp2 {op₁ op₂ : CmpOp} {a b d : X} {l r₁ r₂ : PySem.Expr} {p : Pos} (C : g.c.Ok mg mb) (ev : Ev g A R e₀ l₀) (hm : lastMarks [op₁, op₂] [r₁, r₂] = false)
    (ha : HX g A R V s₀ a (eval l env)) (hb : HX g A R V s₀ b (eval r₁ env)) (hd : HX g A R V s₀ d (eval r₂ env)) :
    HX g A R V s₀ (.cmp2 op₁ op₂ a b d) (eval (.Compare l [op₁, op₂] [r₁, r₂] p) env) := fun H s Q E S m q => by
  simp only [wpX] at q
  rw [arm_eval_Compare, markedEach_of_false _ _ _ hm]
  refine wpAny_bind (wpAny_mono (ha H s _ E S m q) (fun u s₁ z => ?_) fun _ _ z => z)
  obtain ⟨au, H₁, hu, S₁, m₁, q₁⟩ := z
  refine chain2 (wpAny_mono (hb H₁ s₁ _ E S₁ m₁ q₁) (fun v s₂ z => ?_) fun _ _ z => z)
  obtain ⟨av, H₂, hv, S₂, m₂, q₂⟩ := z
  refine wpAny_mono (s_cmp C ev hu hv S₂ m₂ q₂) (fun c s₃ z => ?_) fun _ _ z => z
  obtain ⟨ac, H₃, hc, S₃, m₃, q₃⟩ := z
  refine wpAny_mono (s_truth (Qb := fun t H => if t then wpX g d V (fun z H => wcmp op₂ av z Q H) E H else Q ac H) hc S₃ m₃ q₃) (fun t s₄ z => ?_) fun _ _ z => z
  obtain ⟨H₄, S₄, m₄, q₄⟩ := z
  cases t with
  | false => exact TQ.pure hc S₄ m₄ q₄
  | true =>
    refine wpAny_mono (hd H₄ s₄ _ E S₄ m₄ q₄) (fun w s₅ z => ?_) fun _ _ z => z
    obtain ⟨aw, H₅, hw, S₅, m₅, q₅⟩ := z
    exact s_cmp C ev hv hw S₅ m₅ q₅
theorem ht_cmp2 {op₁ op₂ : CmpOp} {a b d : X} {l r₁ r₂ : PySem.Expr} {p : Pos} {whole : Sem Value} (C : g.c.Ok mg mb) (ev : Ev g A R e₀ l₀) (hm : lastMarks [op₁, op₂] [r₁, r₂] = false)
    (ha : HX g A R V s₀ a (eval l env)) (hb : HX g A R V s₀ b (eval r₁ env)) (hd : HX g A R V s₀ d (eval r₂ env)) :
    HT g A R V s₀ (.cmp2 op₁ op₂ a b d) (isTrue (.Compare l [op₁, op₂] [r₁, r₂] p) env whole) := fun H s Q E S m q => by
  simp only [wpX] at q
  rw [arm_isTrue_Compare, markedEach_of_false _ _ _ hm]
  refine wpAny_bind (wpAny_mono (ha H s _ E S m q) (fun u s₁ z => ?_) fun _ _ z => z)
  obtain ⟨au, H₁, hu, S₁, m₁, q₁⟩ := z
  refine test2 (wpAny_mono (hb H₁ s₁ _ E S₁ m₁ q₁) (fun v s₂ z => ?_) fun _ _ z => z)
  obtain ⟨av, H₂, hv, S₂, m₂, q₂⟩ := z
  refine wpAny_mono (s_cmp C ev hu hv S₂ m₂ q₂) (fun c s₃ z => ?_) fun _ _ z => z
  obtain ⟨ac, H₃, hc, S₃, m₃, q₃⟩ := z
  refine wpAny_mono (s_truthT (Q := fun ac t H => if t then wpX g d V (fun z H => wcmp op₂ av z (fun v H => wtruth v H fun b => Q v b H) H) E H else wtruth ac H fun b => Q ac b H) hc S₃ m₃ q₃) (fun t s₄ z => ?_) fun _ _ z => z
  obtain ⟨ac', H₄, S₄, m₄, q₄, hb4⟩ := z
  cases t with
  | false =>
    simp only [Bool.false_eq_true, if_false] at q₄ ⊢
    exact ⟨ac', H₄, S₄, m₄, hb4 _ q₄, hb4⟩
  | true =>
    simp only [if_true] at q₄ ⊢
    refine wpAny_mono (hd H₄ s₄ _ E S₄ m₄ q₄) (fun w s₅ z => ?_) fun _ _ z => z
    obtain ⟨aw, H₅, hw, S₅, m₅, q₅⟩ := z
    refine wpAny_mono (s_cmp C ev hv hw S₅ m₅ q₅) (fun c' s₆ z => ?_) fun _ _ z => z
    obtain ⟨ac'', H₆, hc'', S₆, m₆, q₆⟩ := z
    exact s_truthT hc'' S₆ m₆ q₆

/-- lists of trees that are each an expression's -/
inductive Each (P : X → PySem.Expr → Prop) : List X → List PySem.Expr → Prop
  | nil : Each P [] []
  | cons {x e xs es} : P x e → Each P xs es → Each P (x :: xs) (e :: es)

theorem hx_ao {isAnd : Bool} {p : Pos} : ∀ {xs : List X} {es : List PySem.Expr}, Each (fun x e => HX g A R V s₀ x (eval e env)) xs es → HX g A R V s₀ (.ao isAnd xs) (boolOp p (if isAnd then .And else .Or) (evalEach es env))
  | _, _, .nil => fun H s Q E S m q => by simp [wpX, wpAO] at q
  | [x], [e], .cons hx .nil => fun H s Q E S m q => by
    simp only [wpX, wpAO] at q
    show wpAny _ _ (eval e env) _ _ _
    exact hx H s Q E S m q
  | x :: y :: xs, e :: f :: es, .cons hx (.cons hy r) => fun H s Q E S m q => by
    have ih := hx_ao (isAnd := isAnd) (p := p) (.cons hy r)
    simp only [wpX] at q ih
    unfold wpAO at q
    show wpAny _ _ (do
      let v ← eval e env
      standAt p
      let t ← holding [v] (truthy v)
      match (if isAnd then PySem.BoolOp.And else PySem.BoolOp.Or), t with
      | .And, false | .Or, true => pure v
      | _, _ => boolOp p (if isAnd then .And else .Or) (evalEach (f :: es) env)) _ _ _
    refine wpAny_bind (wpAny_mono (hx H s _ E S m q) (fun v s₁ z => ?_) fun _ _ z => z)
    obtain ⟨av, H₁, hv, S₁, m₁, q₁⟩ := z
    refine wpAny_bind (wpAny_standAt (wpAny_bind (wpAny_holding (wpAny_mono (s_truth (Qb := fun b H => if b = isAnd then wpAO g isAnd (y :: xs) V Q E H else Q av H) hv S₁ m₁ q₁) (fun t s₂ z => ?_) fun _ _ z => z))))
    obtain ⟨H₂, S₂, m₂, q₂⟩ := z
    have ih' := ih H₂ s₂ Q E S₂ m₂
    simp only [wpX] at ih'
    cases isAnd <;> cases t <;> simp only [Bool.false_eq_true, if_false, if_true, reduceIte] at q₂ ih' ⊢
    · exact ih' q₂
    · exact wpAny_pure (TQ.pure hv S₂ m₂ q₂)
    · exact wpAny_pure (TQ.pure hv S₂ m₂ q₂)
    · exact ih' q₂

theorem ht_ao {isAnd : Bool} : ∀ {xs : List X} {es : List PySem.Expr}, Each (fun x e => HT g A R V s₀ x (isTrue e env (eval e env))) xs es → HT g A R V s₀ (.ao isAnd xs) (allTrue (if isAnd then .And else .Or) es env)
  | _, _, .nil => fun H s Q E S m q => by simp [wpX, wpAO] at q
  | [x], [e], .cons hx .nil => fun H s Q E S m q => by
    simp only [wpX, wpAO] at q
    rw [arm_allTrue_cons]
    refine wpAny_bind (wpAny_mono (hx H s Q E S m q) (fun t s₁ z => ?_) fun _ _ z => z)
    cases isAnd <;> cases t <;> exact wpAny_pure z
  | x :: y :: xs, e :: f :: es, .cons hx (.cons hy r) => fun H s Q E S m q => by
    have ih := ht_ao (isAnd := isAnd) (.cons hy r)
    simp only [wpX] at q
    unfold wpAO at q
    rw [arm_allTrue_cons]
    refine wpAny_bind (wpAny_mono (hx H s (fun v b H => if b = isAnd then wpAO g isAnd (y :: xs) V (fun v H => wtruth v H fun b => Q v b H) E H else wtruth v H fun b => Q v b H) E S m q) (fun t s₁ z => ?_) fun _ _ z => z)
    obtain ⟨v, H₁, S₁, m₁, q₁, hb⟩ := z
    have ih' := ih H₁ s₁ Q E S₁ m₁
    simp only [wpX] at ih'
    cases isAnd <;> cases t <;> simp only [Bool.false_eq_true, if_false, if_true, reduceIte] at q₁ ih' ⊢
    · exact ih' q₁
    · exact wpAny_pure ⟨v, H₁, S₁, m₁, hb (fun b => Q v b H₁) q₁, hb⟩
    · exact wpAny_pure ⟨v, H₁, S₁, m₁, hb (fun b => Q v b H₁) q₁, hb⟩
    · exact ih' q₁
end
end Mine

namespace Mine

def noStar : PySem.Expr → Bool
  | .Starred .. => false
  | _ => true
theorem mtX_noStar {P : Pg} {top : Bool} {sc : Scope} {nm : List Str} {x : X} {e : PySem.Expr} (h : mtX P top sc nm x e = true) : noStar e = true := by
  cases e <;> first | rfl | (exfalso; cases x <;> simp [mtX, nameIs] at h)
theorem starEach_plain {e : PySem.Expr} {r : List PySem.Expr} {env : Env} (h : noStar e = true) : starEach (e :: r) env = (false, eval e env) :: starEach r env := by
  cases e <;> first | rfl | cases h
theorem backTo_cons {pos : Pos} {t : Sem Value} {r : List (Bool × Sem Value)} : backTo pos ((false, t) :: r) = (false, t) :: backTo pos r := rfl

section
variable {g : Gx} {A : Around} {R : RR} {V : VV} {s₀ : Shared} {env : Env} {mg mb : Str → Option Value} {e₀ : Env} {l₀ : List Env}

abbrev EachX (g : Gx) (A : Around) (R : RR) (V : VV) (s₀ : Shared) (env : Env) : List X → List PySem.Expr → Prop := Each (fun x e => HX g A R V s₀ x (eval e env) ∧ noStar e = true)

theorem hxs {pos : Pos} : ∀ {xs : List X} {es : List PySem.Expr}, EachX g A R V s₀ env xs es → HXs g A R V s₀ xs (spliced (backTo pos (starEach es env)))
  | _, _, .nil => fun H s Q E S m q => by
    simp only [wpXs] at q
    exact spliced_nil ⟨[], H, .nil, S, m, q⟩
  | _, _, .cons hx r => fun H s Q E S m q => by
    simp only [wpXs] at q
    rw [starEach_plain hx.2, backTo_cons]
    refine spliced_cons (wpAny_mono (hx.1 H s _ E S m q) (fun v s₁ z => ?_) fun _ _ z => z)
    obtain ⟨av, H₁, hv, S₁, m₁, q₁⟩ := z
    refine wpAny_mono (hxs r H₁ s₁ _ E S₁ m₁ q₁) (fun vs s₂ z => ?_) fun _ _ z => z
    obtain ⟨as, H₂, hvs, S₂, m₂, q₂⟩ := z
    exact ⟨av :: as, H₂, .cons hv hvs, S₂, m₂, q₂⟩

theorem each_plain {pos : Pos} : ∀ {xs : List X} {es : List PySem.Expr}, EachX g A R V s₀ env xs es → (backTo pos (starEach es env)).any (·.1) = false
  | _, _, .nil => rfl
  | _, _, .cons hx r => by
    rw [starEach_plain hx.2, backTo_cons, List.any_cons, each_plain r]; rfl

theorem args_of {pos : Pos} {f : Value} {xs : List X} {es : List PySem.Expr} {H : AHeap} {s : Shared} {Q' : List AV → AHeap → Prop} {E : String → AHeap → Prop} {Q : Args → Shared → Prop} (hx : EachX g A R V s₀ env xs es) (S : St g.c R H s.heap) (m : Sm s₀ s)
    (q : wpXs g xs V Q' E H) (k : ∀ as vs H' s', VRs as vs → St g.c R H' s'.heap → Sm s₀ s' → Q' as H' → Q ⟨vs, []⟩ s') :
    wpAny (model g.c.prog g.c.w) A (evalArgs f true (backTo pos (starEach es env)) []) Q (TE g R s₀ E) s := by
  have z := hxs (pos := pos) hx H s Q' E S m q
  cases hx with
  | nil =>
    simp only [wpXs] at q
    exact evalArgs_nil3 (k [] [] H s .nil S m q)
  | cons hx r =>
    rw [starEach_plain hx.2, backTo_cons] at z ⊢
    refine evalArgs_plain (wpAny_mono z (fun vs s' z => ?_) fun _ _ z => z)
    obtain ⟨as, H', h1, h2, h3, h4⟩ := z
    exact k as vs H' s' h1 h2 h3 h4

/-- a call of the text's def or class -/
theorem cw_ref {pos : Pos} {f : Addr} {first : List Value} {xs : List X} {es : List PySem.Expr} {H : AHeap} {s : Shared} {Q' : List AV → AHeap → Prop} {E : String → AHeap → Prop} {Q : Value → Shared → Prop} (C : g.c.Ok mg mb) (hk : keepIn g.c.K (.ref f) = true)
    (hx : EachX g A R V s₀ env xs es) (S : St g.c R H s.heap) (m : Sm s₀ s) (q : wpXs g xs V Q' E H)
    (k : ∀ as vs H' s', VRs as vs → St g.c R H' s'.heap → Sm s₀ s' → Q' as H' → wpAny (model g.c.prog g.c.w) A (call (.ref f) (first ++ vs)) Q (TE g R s₀ E) s') :
    wpAny (model g.c.prog g.c.w) A (callWith pos (.ref f) first (backTo pos (starEach es env)) []) Q (TE g R s₀ E) s :=
  callWith_of (P := fun h => g.c.K.In h) (by rw [each_plain hx]; rfl) (keeps_K hk) (args_of hx S m q fun as vs H' s' h1 h2 h3 h4 => ⟨C.kin.keeps h2.stays, k as vs H' s' h1 h2 h3 h4⟩)
theorem cw_prim {pos : Pos} {f : Value} {first : List Value} {xs : List X} {es : List PySem.Expr} {H : AHeap} {s : Shared} {Q' : List AV → AHeap → Prop} {E : String → AHeap → Prop} {Q : Value → Shared → Prop} (hf : (∃ i, f = .builtin i) ∨ ∃ i, f = .type i)
    (hx : EachX g A R V s₀ env xs es) (S : St g.c R H s.heap) (m : Sm s₀ s) (q : wpXs g xs V Q' E H)
    (k : ∀ as vs H' s', VRs as vs → St g.c R H' s'.heap → Sm s₀ s' → Q' as H' → wpAny (model g.c.prog g.c.w) A (call f (first ++ vs)) Q (TE g R s₀ E) s') :
    wpAny (model g.c.prog g.c.w) A (callWith pos f first (backTo pos (starEach es env)) []) Q (TE g R s₀ E) s := by
  rcases hf with ⟨i, rfl⟩ | ⟨i, rfl⟩
  · exact Calls.callWith_builtin (each_plain hx) (args_of hx S m q k)
  · exact PyProof.Rows.callWith_type (each_plain hx) (args_of hx S m q k)

theorem nameIs_name {sc : Scope} {n : String} {e : PySem.Expr} (h : nameIs sc n e = true) : ∃ id p, e = .Name id p := by
  unfold nameIs at h
  split at h
  · exact ⟨_, _, rfl⟩
  · cases h

/-- a call met: its two ends -/
theorem callOK_at {f : String} {as : List AV} {vs : List Value} {H : AHeap} {s : Shared} {Q : AV → AHeap → Prop} {E : String → AHeap → Prop} (ev : Ev g A R e₀ l₀) (hv : VRs as vs) (S : St g.c R H s.heap) (m : Sm s₀ s)
    (q : CallOK g.c g.n g.md f as Q E H) : wpAny (model g.c.prog g.c.w) A (call (.ref (g.c.fa f)) vs) (TQ g R s₀ Q) (TE g R s₀ E) s := by
  refine wpAny_call (q A (e₀ :: l₀) R s vs _ ⟨ev.aok.frames, by have := ev.aok.depth; omega, by have := ev.aok.units; omega, ev.aok.hand⟩ ev.stk S hv ?_ ?_)
  · exact fun av v s' H' h1 h2 h3 h4 => ⟨av, H', h1, h2, m.trans h3, h4⟩
  · exact fun e cl s' H' h1 h2 h3 => ⟨e, cl, H', rfl, h1, m.trans h2, h3⟩

theorem hx_call {sc : Scope} {nm : List Str} {f : String} {fe : PySem.Expr} {args : List PySem.Expr} {xs : List X} {pos : Pos} (C : g.c.Ok mg mb) (PO : PgOk g.c) (ev : Ev g A R e₀ l₀) (fr : Frm R env sc nm V) (hn : nameIs sc f fe = true)
    (hg : g.c.P.gfns.contains f = true) (hx : EachX g A R V s₀ env xs args) : HX g A R V s₀ (.call f xs) (eval (.Call fe args [] pos) env) := fun H s Q E S m q => by
  simp only [wpX] at q
  obtain ⟨h1, h2⟩ := PO.fn f hg
  obtain ⟨id, p, rfl⟩ := nameIs_name hn
  refine wpAny_Call_NameR (glob_K C fr S hn h1 ?_)
  refine cw_ref C h2 hx S m q fun as vs H' s' k1 k2 k3 k4 => ?_
  exact callOK_at ev k1 k2 k3 k4

theorem hx_prim {sc : Scope} {nm : List Str} {f : String} {fe : PySem.Expr} {args : List PySem.Expr} {xs : List X} {pos : Pos} (C : g.c.Ok mg mb) (PO : PgOk g.c) (fr : Frm R env sc nm V) (hn : nameIs sc f fe = true)
    (hg : g.c.P.prims.contains f = true) (hx : EachX g A R V s₀ env xs args) : HX g A R V s₀ (.prim f xs) (eval (.Call fe args [] pos) env) := fun H s Q E S m q => by
  simp only [wpX] at q
  obtain ⟨h1, h2, h3⟩ := PO.prim f hg
  obtain ⟨id, p, rfl⟩ := nameIs_name hn
  refine wpAny_Call_NameR (glob_B C fr S hn h1 h2 h3 ?_)
  exact cw_prim (primVal_is f) hx S m q fun as vs H' s' k1 k2 k3 k4 => s_prim C k1 k2 k3 k4

theorem hx_isT {sc : Scope} {nm : List Str} {ty : String} {fe t x : PySem.Expr} {a : X} {pos : Pos} (C : g.c.Ok mg mb) (PO : PgOk g.c) (fr : Frm R env sc nm V) (hn : nameIs sc "isinstance" fe = true) (hg : g.c.P.prims.contains "isinstance" = true)
    (ht : g.c.P.prims.contains ty = true) (hn' : nameIs sc ty t = true) (hty : ty = "int" ∨ ty = "bool" ∨ ty = "str" ∨ ty = "list") (hx : HX g A R V s₀ a (eval x env)) (hs : noStar x = true) :
    HX g A R V s₀ (.isinst a ty) (eval (.Call fe [x, t] [] pos) env) := fun H s Q E S m q => by
  simp only [wpX] at q
  obtain ⟨h1, h2, h3⟩ := PO.prim _ hg
  obtain ⟨k1, k2, k3⟩ := PO.prim _ ht
  obtain ⟨id, p, rfl⟩ := nameIs_name hn
  obtain ⟨id', p', rfl⟩ := nameIs_name hn'
  refine wpAny_Call_NameR (glob_B C fr S hn h1 h2 h3 ?_)
  refine Calls.callWith_builtin (by rw [starEach_plain hs, starEach_plain rfl]; rfl) ?_
  rw [starEach_plain hs, backTo_cons, starEach_plain rfl, backTo_cons]
  refine evalArgs_plain (spliced_cons (wpAny_mono (hx H s _ E S m q) (fun v s₁ z => ?_) fun _ _ z => z))
  obtain ⟨av, H₁, hv, S₁, m₁, q₁⟩ := z
  refine spliced_cons (glob_B C fr S₁ hn' k1 k2 k3 (spliced_nil ?_))
  have hp : primVal ty = .type ty := by rcases hty with rfl | rfl | rfl | rfl <;> rfl
  rw [hp]
  split at q₁
  · rename_i b hb
    unfold isinstV at hb
    rw [if_pos hty] at hb
    obtain ⟨k, e1, e2⟩ := Option.map_eq_some_iff.mp hb
    exact s_isT hv S₁ m₁ e1 hty e2 q₁
  · exact q₁.elim

theorem hx_sub {a i : X} {v sl : PySem.Expr} {pos : Pos} (C : g.c.Ok mg mb) (hns : noSlice sl = true) (ha : HX g A R V s₀ a (eval v env)) (hi : HX g A R V s₀ i (eval sl env)) : HX g A R V s₀ (.sub a i) (eval (.Subscript v sl pos) env) :=
  fun H s Q E S m q => by
  simp only [wpX] at q
  refine Subscript_ (wpAny_mono (ha H s _ E S m q) (fun u s₁ z => ?_) fun _ _ z => z)
  obtain ⟨au, H₁, hu, S₁, m₁, q₁⟩ := z
  refine wpAny_mono (hi H₁ s₁ _ E S₁ m₁ q₁) (fun w s₂ z => ?_) fun _ _ z => z
  obtain ⟨aw, H₂, hw, S₂, m₂, q₂⟩ := z
  exact s_sub C hu hw S₂ m₂ q₂ (by intro o j; cases sl <;> first | rfl | cases hns)

def HO (g : Gx) (A : Around) (R : RR) (V : VV) (s₀ : Shared) (env : Env) : Option X → Option PySem.Expr → Prop
  | none, none => True
  | some x, some e => HX g A R V s₀ x (eval e env)
  | _, _ => False
theorem ho_at {o : Option X} {oe : Option PySem.Expr} {H : AHeap} {s : Shared} {Q : Option AV → AHeap → Prop} {E : String → AHeap → Prop} (h : HO g A R V s₀ env o oe) (S : St g.c R H s.heap) (m : Sm s₀ s) (q : wpO g o V Q E H) :
    wpAny (model g.c.prog g.c.w) A (valueOrNone (evalOpt oe env)) (fun v s' => ∃ a H', ((a = none ∧ v = .none) ∨ ∃ x, a = some x ∧ VR x v) ∧ St g.c R H' s'.heap ∧ Sm s₀ s' ∧ Q a H') (TE g R s₀ E) s := by
  cases o with
  | none => cases oe with
    | none => simp only [wpO] at q; exact wpAny_pure ⟨none, H, .inl ⟨rfl, rfl⟩, S, m, q⟩
    | some => exact h.elim
  | some x => cases oe with
    | none => exact h.elim
    | some e =>
      simp only [wpO] at q
      refine wpAny_mono (h H s _ E S m q) (fun v s' z => ?_) fun _ _ z => z
      obtain ⟨a, H', hv, S', m', q'⟩ := z
      exact ⟨some a, H', .inr ⟨a, rfl, hv⟩, S', m', q'⟩

theorem hx_slice {a : X} {lo hi st : Option X} {v : PySem.Expr} {l u t : Option PySem.Expr} {p pos : Pos} (ha : HX g A R V s₀ a (eval v env)) (hl : HO g A R V s₀ env lo l) (hu : HO g A R V s₀ env hi u) (ht : HO g A R V s₀ env st t) :
    HX g A R V s₀ (.slice a lo hi st) (eval (.Subscript v (.Slice l u t p) pos) env) := fun H s Q E S m q => by
  simp only [wpX] at q
  refine Subscript_ (wpAny_mono (ha H s _ E S m q) (fun o s₁ z => ?_) fun _ _ z => z)
  obtain ⟨ao, H₁, ho, S₁, m₁, q₁⟩ := z
  rw [arm_eval_Slice]
  refine wpAny_bind (wpAny_mono (ho_at hl S₁ m₁ q₁) (fun vl s₂ z => ?_) fun _ _ z => z)
  obtain ⟨al, H₂, hvl, S₂, m₂, q₂⟩ := z
  refine wpAny_bind (wpAny_holding (wpAny_mono (ho_at hu S₂ m₂ q₂) (fun vu s₃ z => ?_) fun _ _ z => z))
  obtain ⟨au, H₃, hvu, S₃, m₃, q₃⟩ := z
  refine wpAny_bind (wpAny_holding (wpAny_mono (ho_at ht S₃ m₃ q₃) (fun vt s₄ z => ?_) fun _ _ z => z))
  obtain ⟨at', H₄, hvt, S₄, m₄, q₄⟩ := z
  unfold newFields
  refine wpAny_newObj_type ?_ (by show (3:Nat) ≤ sizeLine + 2; exact Nat.le_of_ble_eq_true (by rfl))
  exact s_slice ho hvl hvu hvt S₄ m₄ q₄

theorem handed_of {a : AV} {v : Value} (h : VR a v) : handedIn v = true := by cases h <;> rfl

theorem ofString_inj {a b : String} (h : Str.ofString a = Str.ofString b) : a = b := by
  rw [Str.ofString_eq_toList, Str.ofString_eq_toList] at h
  have h1 := congrArg (fun x : Str => x.cps.toList) h
  simp only [List.toList_toArray] at h1
  have h2 := (List.map_inj_right (f := Char.toNat) fun x y e => Char.ext (UInt32.toNat_inj.mp e)).mp h1
  exact String.ext h2

theorem attrs_find {n : String} : ∀ {es : List (String × AV)} {ents : List DictEntry}, attrsAre es ents → OVR (lookA es n) ((ents.find? (·.key.isStr (Str.ofString n))).map (·.val)) ∧ (ents.any (·.refKey)) = false
  | [], [], _ => ⟨.none, rfl⟩
  | (n', a) :: r, e :: q, h => by
    obtain ⟨⟨t, hk⟩, hv, hr⟩ := h
    obtain ⟨i1, i2⟩ := attrs_find (n := n) hr
    refine ⟨?_, ?_⟩
    · unfold lookA at i1 ⊢
      simp only [List.find?_cons, hk, Value.isStr]
      by_cases z : n' = n
      · subst z; simp; exact .some hv
      · have : (Str.ofString n' == Str.ofString n) = false := by
          apply beq_eq_false_iff_ne.mpr
          intro w
          exact z (ofString_inj w)
        simp [this, z]; exact i1
    · rw [List.any_cons, i2]
      simp [DictEntry.refKey, hk]
  | [], _ :: _, h => h.elim
  | _ :: _, [], h => h.elim

theorem attr_base {v : PySem.Expr} {at' : Str} (hb : baseOk v = true) : attributeBase v at' env (eval v env) = eval v env := by
  unfold attributeBase
  split
  · cases hb
  · rfl

theorem hx_attr {a : X} {n : String} {v : PySem.Expr} {pos : Pos} (C : g.c.Ok mg mb) (PO : PgOk g.c) (hb : baseOk v = true) (ha : HX g A R V s₀ a (eval v env)) : HX g A R V s₀ (.attr a n) (eval (.Attribute v (Str.ofString n) pos) env) :=
  fun H s Q E S m q => by
  simp only [wpX] at q
  rw [arm_eval_Attribute, attr_base hb]
  refine wpAny_bind (wpAny_mono (ha H s _ E S m q) (fun o s₁ z => ?_) fun _ _ z => z)
  obtain ⟨ao, H₁, ho, S₁, m₁, q₁⟩ := z
  refine wpAny_bind (wpAny_standAt (wpAny_bind (wpAny_holding ?_)))
  split at q₁
  · rename_i p
    cases ho
    split at q₁
    · rename_i cl es e
      obtain ⟨hat, q₁⟩ := q₁
      obtain ⟨c1, c2, c3, _⟩ := PO.attr cl n hat
      obtain ⟨d, ents, k, x1, x2, x3, x4, _⟩ := S₁.setAttr e
      obtain ⟨f1, f2⟩ := attrs_find (n := n) x3
      have I : InstAt s₁.heap p (instObj (g.c.ca cl) d) (g.c.ca cl) (some (dictOf ents k)) := ⟨x1, rfl, rfl, x2⟩
      split at q₁
      · rename_i w hw
        rw [hw] at f1
        generalize hf : (ents.find? (·.key.isStr (Str.ofString n))) = fe at f1
        cases fe with
        | none => cases f1
        | some en =>
          cases f1 with
          | some hv =>
            refine get_value (v := en.val) (C.kin.keeps S₁.stays) I (plainGet_of c1).1 (findObj_own c2 c3 rfl ?_) ?_ ?_
            · rw [lookIn_dict]; unfold getL; rw [hf]
            · exact handed_of hv
            · exact wpAny_bind (wpAny_letTemporaryGo (wpAny_pure (TQ.toks hv S₁ m₁ q₁)))
      · exact q₁.elim
    · exact q₁.elim
  · exact q₁.elim
end
end Mine

namespace Mine

section
variable {g : Gx} {A : Around} {R : RR} {V : VV} {s₀ : Shared} {env : Env} {mg mb : Str → Option Value} {e₀ : Env} {l₀ : List Env}

theorem hxsL {pos : Pos} : ∀ {xs : List X} {es : List PySem.Expr}, EachX g A R V s₀ env xs es → ∀ (H : AHeap) (s : Shared) (Q : List AV → AHeap → Prop) (E : String → AHeap → Prop), St g.c R H s.heap → Sm s₀ s → wpXs g xs V Q E H →
    wpAny (model g.c.prog g.c.w) A (spliced (backTo pos (starEach es env))) (fun vs s' => vs.length = es.length ∧ TQs g R s₀ Q vs s') (TE g R s₀ E) s
  | _, _, .nil => fun H s Q E S m q => by
    simp only [wpXs] at q
    exact spliced_nil ⟨rfl, [], H, .nil, S, m, q⟩
  | _, _, .cons hx r => fun H s Q E S m q => by
    simp only [wpXs] at q
    rw [starEach_plain hx.2, backTo_cons]
    refine spliced_cons (wpAny_mono (hx.1 H s _ E S m q) (fun v s₁ z => ?_) fun _ _ z => z)
    obtain ⟨av, H₁, hv, S₁, m₁, q₁⟩ := z
    refine wpAny_mono (hxsL r H₁ s₁ _ E S₁ m₁ q₁) (fun vs s₂ z => ?_) fun _ _ z => z
    obtain ⟨hl, as, H₂, hvs, S₂, m₂, q₂⟩ := z
    exact ⟨by simp [hl], av :: as, H₂, .cons hv hvs, S₂, m₂, q₂⟩

theorem hx_list {xs : List X} {es : List PySem.Expr} {pos : Pos} (hx : EachX g A R V s₀ env xs es) (hl : es.length < 1000) : HX g A R V s₀ (.list xs) (eval (.List es pos) env) := fun H s Q E S m q => by
  simp only [wpX] at q
  refine wpAny_List (wpAny_mono (hxsL hx H s _ E S m q) (fun vs s₁ z => ?_) fun _ _ z => z)
  obtain ⟨hn, as, H₁, hv, S₁, m₁, q₁⟩ := z
  refine ⟨by rw [hn]; unfold sizeLine; omega, ?_⟩
  obtain ⟨e, S'⟩ := S₁.newObj (o := .list as) (Nat.le_refl _) (fun _ _ z => Heap.get?_push_of_some _ z) (by rw [Heap.size_push]; omega) (by intro _ _ z; cases z) (fun D => ⟨vs, 0, Heap.get?_push_size _ rfl, hv⟩)
  exact ⟨_, _, .ref _, S', m₁.heap _, q₁ _ e⟩

theorem hx_tuple {xs : List X} {es : List PySem.Expr} {k : Nat} {pos : Pos} (hx : EachX g A R V s₀ env xs es) (hl : es.length < 1000) : HX g A R V s₀ (.tuple xs) (eval (.Tuple es k pos) env) := fun H s Q E S m q => by
  simp only [wpX] at q
  refine wpAny_Tuple (wpAny_mono (hxsL hx H s _ E S m q) (fun vs s₁ z => ?_) fun _ _ z => z)
  obtain ⟨hn, as, H₁, hv, S₁, m₁, q₁⟩ := z
  refine ⟨by rw [hn]; unfold sizeLine; omega, ?_⟩
  obtain ⟨e, S'⟩ := S₁.newObj (o := .tuple as) (Nat.le_refl _) (fun _ _ z => Heap.get?_push_of_some _ z) (by rw [Heap.size_push]; omega) (by intro _ _ z; cases z) (fun D => ⟨vs, 0, Heap.get?_push_size _ rfl, hv⟩)
  exact ⟨_, _, .ref _, S', m₁.heap _, q₁ _ e⟩

theorem hx_dict0 {pos : Pos} : HX g A R V s₀ (.dict [] []) (eval (.Dict [] [] pos) env) := fun H s Q E S m q => by
  simp only [wpX] at q
  refine wpAny_Dict_empty ?_
  obtain ⟨e, S'⟩ := S.newObj (o := .dict 0 []) (h' := s.heap.push { cls := .type "dict", data := .dict #[] }) (Nat.le_refl _) (fun _ _ z => Heap.get?_push_of_some _ z) (by rw [Heap.size_push]; omega) (by intro _ _ z; cases z) (fun D => ⟨[], ⟨_, #[], Heap.get?_push_size _ rfl, ⟨rfl, rfl, rfl⟩, rfl, fun _ h => by simp at h, .nil, List.nodup_nil⟩, .nil⟩)
  · exact ⟨_, _, .ref _, S', m.heap _, q _ e⟩

theorem each_all {pos : Pos} : ∀ {xs : List X} {es : List PySem.Expr}, EachX g A R V s₀ env xs es → (backTo pos (starEach es env)).all (fun x => !x.1) = true
  | _, _, .nil => rfl
  | _, _, .cons hx r => by
    rw [starEach_plain hx.2, backTo_cons, List.all_cons, each_all r]; rfl

theorem meth_call {M : Model} {E : Value → Shared → Prop} {s : Shared} {o : PySem.Expr} {name : Str} {apos pos : Pos} {args : List PySem.Expr} {Q : Value → Shared → Prop} (hb : baseOk o = true) (hall : (backTo pos (starEach args env)).all (fun x => !x.1) = true)
    (hlen : args.length < 29) (hline : (apos.endLine == pos.line) = true)
    (h : wpAny M A (eval o env) (fun ov s₁ => ∀ pl, wpAny M A (getMethod ov name pl) (fun fx s₂ => wpAny M A (callWith pos fx.1 fx.2 (backTo pos (starEach args env)) []) Q E s₂) E s₁) E s) :
    wpAny M A (eval (.Call (.Attribute o name apos) args [] pos) env) Q E s := by
  rw [arm_eval_Call, attr_base hb]
  refine wpAny_bind (wpAny_mono h (fun ov s₁ h₁ => ?_) fun _ _ e => e)
  refine wpAny_bind (wpAny_standAt ?_)
  have hform : methodCallForm (args.length + ([] : List Keyword).length) (backTo pos (starEach args env)) (backToKw pos (keywordEach [] env)) = true := by
    unfold methodCallForm
    rw [hall]
    simp only [Bool.true_and]
    show (true && decide (args.length + 0 + 0 < 30)) = true
    simp; omega
  have hpos : methodCallPos true o env apos pos = pure pos := by unfold methodCallPos; simp [hline]
  unfold methodCall
  rw [hform]
  refine wpAny_bind (wpAny_holding (wpAny_mono (h₁ _) (fun fx s₂ h₂ => ?_) fun _ _ e => e))
  exact wpAny_bind (wpAny_of_eq hpos h₂)

theorem s_index {p : Addr} {v : AV} {u : Value} {xs : List AV} {H : AHeap} {s : Shared} {Q : AV → AHeap → Prop} {E : Value → Shared → Prop} {d : PyData} {ds : List PyData} {k : Nat} (hv : VR v u) (S : St g.c R H s.heap) (m : Sm s₀ s) (e : H p = some (.list xs))
    (h1 : RD H v d) (h2 : RDs H xs ds) (h3 : okD d) (h4 : flatDs ds = true) (hz : xs.length < 2 ^ 62) (un : A.units + 1 + 64 < cLine) (h5 : ds.findIdx? (fun y => PyData.eqv y d) = some k) (q : Q (.int k) H) :
    wpAny (model g.c.prog g.c.w) A (call (.builtin "list.index") [.ref p, u]) (TQ g R s₀ Q) E s := by
  obtain ⟨⟨as, r1⟩, c1⟩ := reads_of S h1 hv
  obtain ⟨ws, n, k1, k2, k3⟩ := isList_of S e
  obtain ⟨⟨bs, r2⟩, c2⟩ := readsAll_of S h2 k2
  have dd : d.depth ≤ 64 := h3.2
  have cd := c1 h3.1
  have cs := c2 h4
  have hl := RDs.len h2
  have hl2 := k2.length
  have hkl : k < ds.length := by
    have := List.findIdx?_eq_some_iff_findIdx_eq.mp h5
    exact this.1
  have mp := readsAll_map ds _ _ cs r2
  have hget : ∀ (j : Nat) (h1 : j < ws.length) (h2 : j < ds.length), readOf s.heap ws[j] = ds[j] := by
    intro j h1 h2
    have : (ws.map (readOf s.heap))[j]'(by simpa using h1) = ds[j] := by simp only [mp]
    simpa using this
  have hf := List.findIdx?_eq_some_iff_getElem.mp h5
  obtain ⟨hk, hyes, hno⟩ := hf
  refine call_meets PySem.F.slot_list_index ⟨_, k1, rfl⟩ PySem.F.entry_list_index (PySem.F.args_list_index_2 _ _)
    (list_indexAt p ws.toArray n none #[] u (fun y => PyData.eqv (readOf s.heap y) d) k (by simp; omega) (by omega) ?_ ?_) ⟨k1, items_eqAt (by simpa using r2) r1 cs cd (by omega), TQ.toks (.int _ _) S m q⟩
  · simp only [List.getElem_toArray]
    rw [hget k (by omega) hk]; exact hyes
  · intro j hj hlt
    simp only [List.getElem_toArray]
    rw [hget j (by simpa using hj) (by omega)]
    simpa using hno j hlt

theorem hx_meth {a : X} {mt : String} {xs : List X} {o : PySem.Expr} {args : List PySem.Expr} {apos pos : Pos} (C : g.c.Ok mg mb) (PO : PgOk g.c) (ev : Ev g A R e₀ l₀) (hb : baseOk o = true) (hline : (apos.endLine == pos.line) = true) (hlen : args.length < 29)
    (ha : HX g A R V s₀ a (eval o env)) (hx : EachX g A R V s₀ env xs args) : HX g A R V s₀ (.meth a mt xs) (eval (.Call (.Attribute o (Str.ofString mt) apos) args [] pos) env) := fun H s Q E S m q => by
  simp only [wpX] at q
  refine meth_call hb (each_all hx) hlen hline (wpAny_mono (ha H s _ E S m q) (fun ov s₁ z => ?_) fun _ _ z => z)
  obtain ⟨ao, H₁, ho, S₁, m₁, q₁⟩ := z
  intro pl
  split at q₁
  · rename_i p
    cases ho
    split at q₁
    · rename_i cl es e
      obtain ⟨hmm, hno, q₁⟩ := q₁
      obtain ⟨c1, c2, c3, c4⟩ := PO.meth cl mt hmm
      obtain ⟨d, ents, k, x1, x2, x3, x4, _⟩ := S₁.setAttr e
      obtain ⟨f1, f2⟩ := attrs_find (n := mt) x3
      rw [hno] at f1
      have hf : (ents.find? (·.key.isStr (Str.ofString mt))) = none := by
        generalize hz : (ents.find? (·.key.isStr (Str.ofString mt))) = fe at f1
        cases fe with
        | none => rfl
        | some => cases f1
      have I : InstAt s₁.heap p (instObj (g.c.ca cl) d) (g.c.ca cl) (some (dictOf ents k)) := ⟨x1, rfl, rfl, x2⟩
      refine method_fn (C.kin.keeps S₁.stays) I (plainGet_of c1).1 (plainGet_of c1).2 c2 (beq_iff_eq.mp c3) ?_ ?_
      · show (lookIn (Str.ofString mt) (dictOf ents k)).map _ = _
        rw [lookIn_dict]; unfold getL; rw [hf, f2]; rfl
      · exact cw_ref C c4 hx S₁ m₁ q₁ fun as vs H' s' k1 k2 k3 k4 => callOK_at ev (.cons (.ref p) k1) k2 k3 k4
    · rename_i ys e
      obtain ⟨ws, n, k1, k2, k3⟩ := isList_of S₁ e
      obtain ⟨hmm, q₁⟩ := q₁
      simp only [lmeths, List.contains_cons, List.contains_nil, Bool.or_false, Bool.or_eq_true, beq_iff_eq] at hmm
      have un : A.units + 1 + 64 < cLine := by have := ev.aok.units; omega
      rcases hmm with rfl | rfl
      · refine getMethod_builtin ⟨_, k1, rfl⟩ PySem.F.plainAttrs_list PySem.F.slot_list_append PySem.F.type_list_append (fun a h => by cases h; exact ⟨_, k1, rfl⟩) ?_
        refine cw_prim (.inl ⟨_, rfl⟩) hx S₁ m₁ q₁ fun as vs H' s' k1 k2 k3 k4 => ?_
        unfold wmList at k4
        split at k4
        · cases k1 with | cons h1 h2 =>
          cases h2
          split at k4
          · rename_i e'; exact s_append h1 k2 k3 e' k4.1 k4.2
          · exact k4.elim
        · rename_i z; exact absurd z (by decide)
        · exact k4.elim
      · refine getMethod_builtin ⟨_, k1, rfl⟩ PySem.F.plainAttrs_list PySem.F.slot_list_index PySem.F.type_list_index (fun a h => by cases h; exact ⟨_, k1, rfl⟩) ?_
        refine cw_prim (.inl ⟨_, rfl⟩) hx S₁ m₁ q₁ fun as vs H' s' k1 k2 k3 k4 => ?_
        unfold wmList at k4
        split at k4
        · rename_i z; exact absurd z (by decide)
        · cases k1 with | cons h1 h2 =>
          cases h2
          split at k4
          · rename_i e'
            obtain ⟨z1, d, ds, z2, z3, z4, z5, k, z6, z7⟩ := k4
            exact s_index h1 k2 k3 e' z2 z3 z4 z5 z1 un z6 z7
          · exact k4.elim
        · exact k4.elim
    · exact q₁.elim
  · exact q₁.elim

theorem hx_new {sc : Scope} {nm : List Str} {cl : String} {fe : PySem.Expr} {args : List PySem.Expr} {xs : List X} {pos : Pos} (C : g.c.Ok mg mb) (PO : PgOk g.c) (ev : Ev g A R e₀ l₀) (fr : Frm R env sc nm V) (hn : nameIs sc cl fe = true)
    (hg : g.c.P.classes.contains cl = true) (hx : EachX g A R V s₀ env xs args) : HX g A R V s₀ (.new cl xs) (eval (.Call fe args [] pos) env) := fun H s Q E S m q => by
  simp only [wpX] at q
  obtain ⟨h1, h2, h3, h4, h5⟩ := PO.cls cl hg
  obtain ⟨id, p, rfl⟩ := nameIs_name hn
  refine wpAny_Call_NameR (glob_K C fr S hn h1 ?_)
  refine cw_ref C h2 hx S m q fun as vs H' s' k1 k2 k3 k4 => ?_
  obtain ⟨hh, gg, dd, t, os⟩ := s'
  have X := C.kin.keeps k2.stays
  obtain ⟨e, S'⟩ := k2.newInst (cl := cl)
  refine wpAny_call (make_core (makes_of X h3) (looks_findIn X h4) (fun self => bind_fn X self (beq_iff_eq.mp h5)) (.inl rfl) ?_)
  refine k4 _ e _ (e₀ :: l₀) R _ _ _ ⟨?_, ?_, ?_, ?_⟩ ev.stk S' (.cons (.ref _) k1) ?_ ?_
  · exact ev.aok.frames
  · have := ev.aok.depth
    have hw : (Code.builtin "type.__call__" ⟨.ref (g.c.ca cl) :: vs, []⟩).weight = 1 := rfl
    show A.depth + (Code.builtin "type.__call__" ⟨.ref (g.c.ca cl) :: vs, []⟩).weight + 110 + 0 + 8 * g.n < recursionLimit
    omega
  · have := ev.aok.units
    have hw : (Code.builtin "type.__call__" ⟨.ref (g.c.ca cl) :: vs, []⟩).cUnits = 1 := rfl
    show A.units + (Code.builtin "type.__call__" ⟨.ref (g.c.ca cl) :: vs, []⟩).cUnits + 100 + 10 * 0 + 60 * g.n < cLine
    omega
  · exact ev.aok.hand
  · rintro av v s' H' z1 z2 z3 ⟨rfl, z4⟩
    cases z1
    exact ⟨rfl, _, _, .ref _, z2, k3.trans ((Sm.mk' _ _ _).trans z3), z4⟩
  · exact fun e cl s' H' z1 z2 z3 => ⟨e, cl, H', rfl, z1, k3.trans ((Sm.mk' _ _ _).trans z2), z3⟩
end
end Mine

namespace Mine

theorem type_ve : typeOf (.type "ValueError") = pure (.type "type") := by kernel_rfl

theorem isi_nestedT {M : Model} {A : Around} {E : Value → Shared → Prop} {K : Frag} {s : Shared} {v : Value} {C : Addr} {T : String} {dep : Int} {tk : Tok} {Q : Fin → Shared → Prop} (X : K.In s.heap) (ht : Looks M s.heap (typeOf v) (.ref C))
    (hty : typeOf (.type T) = pure (.type "type")) (e : subIn K (.ref C) (.type T) = some true) (h : Q (.done (.ret (.bool true))) s) :
    wpAny M A (Builtin.«isinstance.nested» ⟨[v, .type T, .int dep tk], []⟩) Q E s := by
  obtain ⟨hh, g, d, tt, os⟩ := s
  unfold Builtin.«isinstance.nested»
  refine wpAny_bind (ht.at ?_)
  rw [if_neg (by simp)]
  have L3 : Looks M hh (isInstance v (.type T)) true := ht.andThen (looks_subIn X e)
  rw [hty]
  refine wpAny_bind (wpAny_pure ?_)
  rw [if_pos (by decide)]
  k_delta "plainIsInstance"
  unfold isType
  refine wpAny_bind (wpAny_bind (wpAny_pure ?_))
  simp only [Bool.not_true, Bool.false_eq_true, if_false]
  refine wpAny_bind (L3.at ?_)
  simp only [if_true]
  exact wpAny_pure (wpAny_pure h)
theorem isi_callT {prog : Program} {w : World} {A : Around} {E : Value → Shared → Prop} {K : Frag} {s : Shared} {v : Value} {C : Addr} {T : String} {Q : Value → Shared → Prop} (X : K.In s.heap) (ht : ∀ M, Looks M s.heap (typeOf v) (.ref C))
    (hty : typeOf (.type T) = pure (.type "type")) (e : subIn K (.ref C) (.type T) = some true) (hx : v ≠ .builtin "__main__.__loader__#opaque") (h : Q (.bool true) s) :
    wpAny (model prog w) A (call (.builtin "isinstance") [v, .type T]) Q E s :=
  call_isinstance (S := fun _ R s => (K.In s.heap ∧ ∀ M, Looks M s.heap (typeOf v) (.ref C)) ∧ R (.ok (.ret (.bool true))) s) (fun _ _ _ _ _ hs => isinstance_outer (isi_nestedT hs.1.1 (hs.1.2 _) hty e hs.2) hx) ⟨⟨X, ht⟩, h⟩

section
variable {g : Gx} {A : Around} {R : RR} {V : VV} {s₀ : Shared} {env : Env} {mg mb : Str → Option Value} {e₀ : Env} {l₀ : List Env}

theorem hx_isinst {sc : Scope} {nm : List Str} {ty : String} {fe t x : PySem.Expr} {a : X} {pos : Pos} (C : g.c.Ok mg mb) (PO : PgOk g.c) (fr : Frm R env sc nm V) (hn : nameIs sc "isinstance" fe = true) (hg : g.c.P.prims.contains "isinstance" = true)
    (ht : g.c.P.prims.contains ty = true) (hn' : nameIs sc ty t = true) (hx : HX g A R V s₀ a (eval x env)) (hs : noStar x = true) :
    HX g A R V s₀ (.isinst a ty) (eval (.Call fe [x, t] [] pos) env) := by
  by_cases hty : ty = "int" ∨ ty = "bool" ∨ ty = "str" ∨ ty = "list"
  · exact hx_isT C PO fr hn hg ht hn' hty hx hs
  intro H s Q E S m q
  simp only [wpX] at q
  obtain ⟨h1, h2, h3⟩ := PO.prim _ hg
  obtain ⟨k1, k2, k3⟩ := PO.prim _ ht
  obtain ⟨id, p, rfl⟩ := nameIs_name hn
  obtain ⟨id', p', rfl⟩ := nameIs_name hn'
  refine wpAny_Call_NameR (glob_B C fr S hn h1 h2 h3 ?_)
  refine Calls.callWith_builtin (by rw [starEach_plain hs, starEach_plain rfl]; rfl) ?_
  rw [starEach_plain hs, backTo_cons, starEach_plain rfl, backTo_cons]
  refine evalArgs_plain (spliced_cons (wpAny_mono (hx H s _ E S m q) (fun v s₁ z => ?_) fun _ _ z => z))
  obtain ⟨av, H₁, hv, S₁, m₁, q₁⟩ := z
  refine spliced_cons (glob_B C fr S₁ hn' k1 k2 k3 (spliced_nil ?_))
  split at q₁
  · rename_i b hb
    unfold isinstV at hb
    rw [if_neg hty] at hb
    split at hb
    · rename_i p
      cases hv
      split at hb
      · rename_i cl e
        split at hb
        · rename_i hc
          cases hb
          obtain ⟨e1, e3⟩ := PO.exc cl ty hc ht
          subst e1
          have e2 := type_ve
          show wpAny _ _ (call (.builtin "isinstance") [.ref p, .type "ValueError"]) _ _ _
          obtain ⟨D, hr⟩ := S₁.rep
          obtain ⟨o, o1, o2, vs, o3⟩ := hr.rep _ _ e
          refine isi_callT (C.kin.keeps S₁.stays) (fun M => ?_) e2 e3 (by simp) (TQ.pure (.bool _) S₁ m₁ q₁)
          rw [← o2]
          exact (Looks.ld o1).andThen .now
        · cases hb
      · cases hb
    · cases hb
  · exact q₁.elim
end
end Mine

namespace Mine

section
variable {g : Gx} {mg mb : Str → Option Value} (C : g.c.Ok mg mb) (PO : PgOk g.c)
def XOk (g : Gx) (sc : Scope) (nm : List Str) (x : X) (e : PySem.Expr) : Prop :=
  ∀ (A : Around) (R : RR) (V : VV) (env : Env) (e₀ : Env) (l₀ : List Env) (s₀ : Shared), Ev g A R e₀ l₀ → Frm R env sc nm V → HX g A R V s₀ x (eval e env) ∧ HT g A R V s₀ x (isTrue e env (eval e env))

theorem each_of {sc : Scope} {nm : List Str} {xs : List X} {es : List PySem.Expr} {A : Around} {R : RR} {V : VV} {env : Env} {e₀ : Env} {l₀ : List Env} {s₀ : Shared} (h : Each (fun x e => XOk g sc nm x e ∧ noStar e = true) xs es) (ev : Ev g A R e₀ l₀) (fr : Frm R env sc nm V) :
    EachX g A R V s₀ env xs es := by
  induction h with
  | nil => exact .nil
  | cons a _ ih => exact .cons ⟨(a.1 A R V env e₀ l₀ s₀ ev fr).1, a.2⟩ ih
theorem each_of1 {sc : Scope} {nm : List Str} {xs : List X} {es : List PySem.Expr} {A : Around} {R : RR} {V : VV} {env : Env} {e₀ : Env} {l₀ : List Env} {s₀ : Shared} (h : Each (fun x e => XOk g sc nm x e ∧ noStar e = true) xs es) (ev : Ev g A R e₀ l₀) (fr : Frm R env sc nm V) :
    Each (fun x e => HX g A R V s₀ x (eval e env)) xs es := by
  induction h with
  | nil => exact .nil
  | cons a _ ih => exact .cons (a.1 A R V env e₀ l₀ s₀ ev fr).1 ih
theorem each_of2 {sc : Scope} {nm : List Str} {xs : List X} {es : List PySem.Expr} {A : Around} {R : RR} {V : VV} {env : Env} {e₀ : Env} {l₀ : List Env} {s₀ : Shared} (h : Each (fun x e => XOk g sc nm x e ∧ noStar e = true) xs es) (ev : Ev g A R e₀ l₀) (fr : Frm R env sc nm V) :
    Each (fun x e => HT g A R V s₀ x (isTrue e env (eval e env))) xs es := by
  induction h with
  | nil => exact .nil
  | cons a _ ih => exact .cons (a.1 A R V env e₀ l₀ s₀ ev fr).2 ih

theorem XOk.of {sc : Scope} {nm : List Str} {x : X} {e : PySem.Expr} (h : ∀ (A : Around) (R : RR) (V : VV) (env : Env) (e₀ : Env) (l₀ : List Env) (s₀ : Shared), Ev g A R e₀ l₀ → Frm R env sc nm V → HX g A R V s₀ x (eval e env))
    (he : ∀ env whole, isTrue e env whole = (do let v ← whole; standAt e.pos; holding [v] (truthy v))) : XOk g sc nm x e := fun A R V env e₀ l₀ s₀ ev fr =>
  ⟨h A R V env e₀ l₀ s₀ ev fr, HT.plain (h A R V env e₀ l₀ s₀ ev fr) (he _ _)⟩

include C PO in
mutual
theorem sX : ∀ (x : X) (e : PySem.Expr) (top : Bool) (sc : Scope) (nm : List Str), mtX g.c.P top sc nm x e = true → XOk g sc nm x e
  | .lit v, e, top, sc, nm, h => by
    simp only [mtX] at h
    split at h
    · exact .of (fun A R V env e₀ l₀ s₀ ev fr => hx_lit h) fun _ _ => rfl
    · cases h
  | .var i, e, top, sc, nm, h => by
    simp only [mtX] at h
    split at h
    · simp only [Bool.and_eq_true, beq_iff_eq] at h
      exact .of (fun A R V env e₀ l₀ s₀ ev fr => hx_var fr h.1.1 h.1.2 h.2) fun _ _ => rfl
    · cases h
  | .glob n, e, top, sc, nm, h => by
    simp only [mtX] at h
    obtain ⟨id, p, rfl⟩ := nameIs_name h
    exact .of (fun A R V env e₀ l₀ s₀ ev fr => hx_glob C PO fr h) fun _ _ => rfl
  | .bin op a b, e, top, sc, nm, h => by
    simp only [mtX] at h
    split at h
    · simp only [Bool.and_eq_true, beq_iff_eq] at h
      obtain ⟨⟨rfl, h1⟩, h2⟩ := h
      exact .of (fun A R V env e₀ l₀ s₀ ev fr => hx_bin C ev (sX a _ top sc nm h1 A R V env e₀ l₀ s₀ ev fr).1 (sX b _ top sc nm h2 A R V env e₀ l₀ s₀ ev fr).1) fun _ _ => rfl
    · cases h
  | .neg a, e, top, sc, nm, h => by
    simp only [mtX] at h
    split at h
    · exact .of (fun A R V env e₀ l₀ s₀ ev fr => hx_neg (sX a _ top sc nm h A R V env e₀ l₀ s₀ ev fr).1) fun _ _ => rfl
    · cases h
  | .not a, e, top, sc, nm, h => by
    simp only [mtX] at h
    split at h
    · exact fun A R V env e₀ l₀ s₀ ev fr => ⟨hx_not (sX a _ top sc nm h A R V env e₀ l₀ s₀ ev fr).1, ht_not (sX a _ top sc nm h A R V env e₀ l₀ s₀ ev fr).2⟩
    · cases h
  | .ao isAnd xs, e, top, sc, nm, h => by
    simp only [mtX] at h
    split at h
    · simp only [Bool.and_eq_true, beq_iff_eq] at h
      obtain ⟨rfl, h2⟩ := h
      exact fun A R V env e₀ l₀ s₀ ev fr => ⟨hx_ao (each_of1 (sXs xs _ top sc nm h2) ev fr), ht_ao (each_of2 (sXs xs _ top sc nm h2) ev fr)⟩
    · cases h
  | .ite c a b, e, top, sc, nm, h => by
    simp only [mtX] at h
    split at h
    · simp only [Bool.and_eq_true] at h
      obtain ⟨⟨h1, h2⟩, h3⟩ := h
      exact fun A R V env e₀ l₀ s₀ ev fr => ⟨hx_ite (sX c _ top sc nm h1 A R V env e₀ l₀ s₀ ev fr).2 (sX a _ top sc nm h2 A R V env e₀ l₀ s₀ ev fr).1 (sX b _ top sc nm h3 A R V env e₀ l₀ s₀ ev fr).1,
        ht_ite (sX c _ top sc nm h1 A R V env e₀ l₀ s₀ ev fr).2 (sX a _ top sc nm h2 A R V env e₀ l₀ s₀ ev fr).2 (sX b _ top sc nm h3 A R V env e₀ l₀ s₀ ev fr).2⟩
    · cases h
  | .cmp op a b, e, top, sc, nm, h => by
    simp only [mtX] at h
    split at h
    · simp only [Bool.and_eq_true, beq_iff_eq, Bool.not_eq_true'] at h
      obtain ⟨⟨⟨rfl, h0⟩, h1⟩, h2⟩ := h
      exact fun A R V env e₀ l₀ s₀ ev fr => ⟨hx_cmp C ev h0 (sX a _ top sc nm h1 A R V env e₀ l₀ s₀ ev fr).1 (sX b _ top sc nm h2 A R V env e₀ l₀ s₀ ev fr).1,
        ht_cmp C ev h0 (sX a _ top sc nm h1 A R V env e₀ l₀ s₀ ev fr).1 (sX b _ top sc nm h2 A R V env e₀ l₀ s₀ ev fr).1⟩
    · cases h
  | .cmp2 op₁ op₂ a b d, e, top, sc, nm, h => by
    simp only [mtX] at h
    split at h
    · simp only [Bool.and_eq_true, beq_iff_eq, Bool.not_eq_true'] at h
      obtain ⟨⟨⟨⟨⟨rfl, rfl⟩, h0⟩, h1⟩, h2⟩, h3⟩ := h
      exact fun A R V env e₀ l₀ s₀ ev fr => ⟨hx_cmp2 C ev h0 (sX a _ top sc nm h1 A R V env e₀ l₀ s₀ ev fr).1 (sX b _ top sc nm h2 A R V env e₀ l₀ s₀ ev fr).1 (sX d _ top sc nm h3 A R V env e₀ l₀ s₀ ev fr).1,
        ht_cmp2 C ev h0 (sX a _ top sc nm h1 A R V env e₀ l₀ s₀ ev fr).1 (sX b _ top sc nm h2 A R V env e₀ l₀ s₀ ev fr).1 (sX d _ top sc nm h3 A R V env e₀ l₀ s₀ ev fr).1⟩
    · cases h
  | .sub a i, e, top, sc, nm, h => by
    simp only [mtX] at h
    split at h
    · simp only [Bool.and_eq_true] at h
      obtain ⟨⟨h0, h1⟩, h2⟩ := h
      exact .of (fun A R V env e₀ l₀ s₀ ev fr => hx_sub C h0 (sX a _ top sc nm h1 A R V env e₀ l₀ s₀ ev fr).1 (sX i _ top sc nm h2 A R V env e₀ l₀ s₀ ev fr).1) fun _ _ => rfl
    · cases h
  | .slice a lo hi st, e, top, sc, nm, h => by
    simp only [mtX] at h
    split at h
    · simp only [Bool.and_eq_true] at h
      obtain ⟨⟨⟨h0, h1⟩, h2⟩, h3⟩ := h
      exact .of (fun A R V env e₀ l₀ s₀ ev fr => hx_slice (sX a _ top sc nm h0 A R V env e₀ l₀ s₀ ev fr).1 (sO lo _ top sc nm h1 A R V env e₀ l₀ s₀ ev fr) (sO hi _ top sc nm h2 A R V env e₀ l₀ s₀ ev fr) (sO st _ top sc nm h3 A R V env e₀ l₀ s₀ ev fr)) fun _ _ => rfl
    · cases h
  | .attr a n, e, top, sc, nm, h => by
    simp only [mtX] at h
    split at h
    · simp only [Bool.and_eq_true, beq_iff_eq] at h
      obtain ⟨⟨rfl, h1⟩, h2⟩ := h
      exact .of (fun A R V env e₀ l₀ s₀ ev fr => hx_attr C PO h1 (sX a _ top sc nm h2 A R V env e₀ l₀ s₀ ev fr).1) fun _ _ => rfl
    · cases h
  | .call f xs, e, top, sc, nm, h => by
    simp only [mtX] at h
    split at h
    · simp only [Bool.and_eq_true] at h
      obtain ⟨⟨h0, h1⟩, h2⟩ := h
      exact .of (fun A R V env e₀ l₀ s₀ ev fr => hx_call C PO ev fr h0 h1 (each_of (sXs xs _ top sc nm h2) ev fr)) fun _ _ => rfl
    · cases h
  | .new f xs, e, top, sc, nm, h => by
    simp only [mtX] at h
    split at h
    · simp only [Bool.and_eq_true] at h
      obtain ⟨⟨h0, h1⟩, h2⟩ := h
      exact .of (fun A R V env e₀ l₀ s₀ ev fr => hx_new C PO ev fr h0 h1 (each_of (sXs xs _ top sc nm h2) ev fr)) fun _ _ => rfl
    · cases h
  | .meth a m xs, e, top, sc, nm, h => by
    simp only [mtX] at h
    split at h
    · simp only [Bool.and_eq_true, decide_eq_true_eq] at h
      obtain ⟨⟨⟨⟨⟨h0, h1⟩, h2⟩, h3⟩, h4⟩, h5⟩ := h
      cases beq_iff_eq.mp h0
      exact .of (fun A R V env e₀ l₀ s₀ ev fr => hx_meth C PO ev h2 h1 h3 (sX a _ top sc nm h4 A R V env e₀ l₀ s₀ ev fr).1 (each_of (sXs xs _ top sc nm h5) ev fr)) fun _ _ => rfl
    · cases h
  | .prim f xs, e, top, sc, nm, h => by
    simp only [mtX] at h
    split at h
    · simp only [Bool.and_eq_true] at h
      obtain ⟨⟨h0, h1⟩, h2⟩ := h
      exact .of (fun A R V env e₀ l₀ s₀ ev fr => hx_prim C PO fr h0 h1 (each_of (sXs xs _ top sc nm h2) ev fr)) fun _ _ => rfl
    · cases h
  | .isinst a ty, e, top, sc, nm, h => by
    simp only [mtX] at h
    split at h
    · simp only [Bool.and_eq_true] at h
      obtain ⟨⟨⟨⟨h0, h1⟩, h2⟩, h3⟩, h4⟩ := h
      exact .of (fun A R V env e₀ l₀ s₀ ev fr => hx_isinst C PO fr h0 h1 h2 h3 (sX a _ top sc nm h4 A R V env e₀ l₀ s₀ ev fr).1 (mtX_noStar h4)) fun _ _ => rfl
    · cases h
  | .list xs, e, top, sc, nm, h => by
    simp only [mtX] at h
    split at h
    · simp only [Bool.and_eq_true, decide_eq_true_eq] at h
      exact .of (fun A R V env e₀ l₀ s₀ ev fr => hx_list (each_of (sXs xs _ top sc nm h.1) ev fr) h.2) fun _ _ => rfl
    · cases h
  | .tuple xs, e, top, sc, nm, h => by
    simp only [mtX] at h
    split at h
    · simp only [Bool.and_eq_true, decide_eq_true_eq] at h
      exact .of (fun A R V env e₀ l₀ s₀ ev fr => hx_tuple (each_of (sXs xs _ top sc nm h.1) ev fr) h.2) fun _ _ => rfl
    · cases h
  | .dict ks vs, e, top, sc, nm, h => by
    simp only [mtX] at h
    split at h
    · split at h
      · exact .of (fun A R V env e₀ l₀ s₀ ev fr => hx_dict0) fun _ _ => rfl
      · cases h
    · cases h
  | .comp x k tup it c, e, top, sc, nm, h => by
    simp [mtX] at h
theorem sXs : ∀ (xs : List X) (es : List PySem.Expr) (top : Bool) (sc : Scope) (nm : List Str), mtXs g.c.P top sc nm xs es = true → Each (fun x e => XOk g sc nm x e ∧ noStar e = true) xs es
  | [], es, top, sc, nm, h => by
    simp only [mtXs, List.isEmpty_iff] at h
    subst h; exact .nil
  | x :: r, es, top, sc, nm, h => by
    simp only [mtXs] at h
    split at h
    · simp only [Bool.and_eq_true] at h
      exact .cons ⟨sX x _ top sc nm h.1, mtX_noStar h.1⟩ (sXs r _ top sc nm h.2)
    · cases h
theorem sO : ∀ (o : Option X) (e : Option PySem.Expr) (top : Bool) (sc : Scope) (nm : List Str), mtO g.c.P top sc nm o e = true →
    ∀ (A : Around) (R : RR) (V : VV) (env : Env) (e₀ : Env) (l₀ : List Env) (s₀ : Shared), Ev g A R e₀ l₀ → Frm R env sc nm V → HO g A R V s₀ env o e
  | none, e, top, sc, nm, h => by
    simp only [mtO, Option.isNone_iff_eq_none] at h
    subst h
    intros; trivial
  | some x, e, top, sc, nm, h => by
    simp only [mtO] at h
    split at h
    · exact fun A R V env e₀ l₀ s₀ ev fr => (sX x _ top sc nm h A R V env e₀ l₀ s₀ ev fr).1
    · cases h
end
end
end Mine

namespace Mine

section
variable {c : Cx} {R : RR} {H : AHeap} {h h' : Heap}

/-- a heap turned at the frames' namespaces and at records that nobody holds -/
theorem St.noted (S : St c R H h) {ls : List Addr}
    (hls : ∀ a ∈ ls, (∃ m, R a = some (.ns m)) ∨ (R a = none ∧ H a = none ∧ c.base.get? a = none ∧ ∃ o vs, h.get? a = some o ∧ o.data = .fields vs))
    (k : ∀ b o, h.get? b = some o → b ∉ ls → h'.get? b = some o) (sl : ∀ b o, h.get? b = some o → (∀ vs, o.data ≠ .fields vs) → ∃ t, h'.get? b = some { o with slots := t })
    (hsz : c.base.objs.size ≤ h'.objs.size) : St c R H h' := by
  obtain ⟨s1, s2, s3, D, s4⟩ := S
  have hb : ∀ b o, c.base.get? b = some o → b ∉ ls := fun b o e hm => by
    rcases hls b hm with ⟨m, q⟩ | ⟨_, _, q, _⟩
    · have := leN (s3 b _ q).1; have := lts e; omega
    · rw [q] at e; cases e
  have hH : ∀ a o, H a = some o → a ∉ ls := fun a o e hm => by
    rcases hls a hm with ⟨m, q⟩ | ⟨_, q, _⟩
    · have := (s4.above a o e).2; rw [q] at this; cases this
    · rw [q] at e; cases e
  refine ⟨fun b o e => k b o (s1 b o e) (hb b o e), hsz, fun b r e => ⟨(s3 b r e).1, ?_⟩, D, ⟨fun a o e => ?_, s4.above, s4.dict, s4.inj⟩⟩
  · by_cases q : b ∈ ls
    · rcases hls b q with ⟨m, z⟩ | ⟨z, _⟩
      · rw [e] at z; cases z
        obtain ⟨o, es, ep, ho, hd, rr⟩ := (s3 b _ e).2
        obtain ⟨t, ht⟩ := sl b o ho (fun vs w => by rw [hd] at w; cases w)
        exact ⟨_, es, ep, ht, hd, rr⟩
      · rw [e] at z; cases z
    · exact (s3 b r e).2.agree fun ob z => k b ob z q
  · refine (s4.rep a o e).agree (fun ob z => k a ob z (hH a o e)) fun cl es eo => ⟨rfl, fun ob z => ?_⟩
    subst eo
    refine k _ ob z fun hm => ?_
    obtain ⟨_, y2, y3⟩ := s4.dict a cl es e
    rcases hls _ hm with ⟨m, q⟩ | ⟨_, _, _, o', vs, q1, q2⟩
    · rw [q] at y2; cases y2
    · obtain ⟨_, ents, n, w, _⟩ := s4.rep a _ e
      rw [w] at q1; cases q1; cases q2

theorem St.frames (S : St c R H h) {l : List Env} (hs : Stk R l) {B : Heap} (hB : ∀ e ∈ l, B.get? e.locals = none) : h.FunFrames B l := by
  induction l with
  | nil => trivial
  | cons e l ih =>
    have F := hs e (.head _)
    obtain ⟨m, hm⟩ := F.ns
    obtain ⟨o, es, ep, ho, hd, _⟩ := (S.res _ _ hm).2
    exact ⟨by rw [F.kind]; simp, ⟨e.locals, o, F.frame, hB e (.head _), ho, fun vs w => by rw [hd] at w; cases w⟩, ih (fun x hx => hs x (.tail _ hx)) fun x hx => hB x (.tail _ hx)⟩

def FlOk (env : Env) (fl : Value) : Prop := fl = .ellipsis ∨ fl = .none ∨ fl = rawInt env.locals

/-- behind a new entry -/
theorem exc_noted {e : Addr} {cl : String} {env : Env} {outer : List Env} {ls : List Addr} {a0 fl : Value} (X : St c R H h) (re : R e = none) (he : H e = none) (be : c.base.get? e = none) (hs : Stk R (env :: outer))
    (hls : ∀ a ∈ ls, (∃ m, R a = some (.ns m)) ∨ (R a = none ∧ H a = none ∧ c.base.get? a = none ∧ ∃ o vs, h.get? a = some o ∧ o.data = .fields vs))
    (N : Heap.NotedW (hideAll h ls) (env :: outer) e (.ref (c.ca cl)) a0 fl h h') (hfl : fl ≠ .ellipsis) (kn : (c.P.excs.lookup cl).isSome = true) : ExcSt c R H e cl fl h' := by
  obtain ⟨n1, n2, n3, n4⟩ := N
  have F := hs env (.head _)
  obtain ⟨m, hm⟩ := F.ns
  obtain ⟨o, es, ep, ho, hd, _⟩ := (X.res _ _ hm).2
  obtain ⟨t, ht⟩ := n4 _ o ho (fun vs w => by rw [hd] at w; cases w)
  have hsz : c.base.objs.size ≤ h'.objs.size := by
    have h1 := leN (X.res _ _ hm).1; have h2 := lts ht; omega
  have S' := X.noted hls (fun b o e q => n1 b o (hideAll_get _ e q)) n4 hsz
  obtain ⟨oe, vs, T, oT, ts, h1, ⟨h2, h3⟩, h4, h5, h6, h7, h8, h9, h10⟩ := n3
  have out : ∀ b o, h.get? b = some o → b ∉ ls → b ≠ T := fun b o e q z => by
    have := hideAll_get ls e q
    rw [z, h6] at this; cases this
  refine ⟨S', re, he, be, .traced h1 h2 h4 h3 h5 h7 ?_ ?_ ?_ h8 h9 h10 hfl, kn⟩
  · cases q : R T with
    | none => rfl
    | some r =>
      exfalso
      obtain ⟨ob, hob⟩ := (X.res _ _ q).2.there
      by_cases z : T ∈ ls
      · rcases hls T z with ⟨m', q'⟩ | ⟨q', _⟩
        · obtain ⟨o', es', ep', ho', hd', _⟩ := (S'.res _ _ q').2
          rw [h8] at ho'; cases ho'; rw [h9] at hd'; cases hd'
        · rw [q] at q'; cases q'
      · exact out T ob hob z rfl
  · cases q : H T with
    | none => rfl
    | some r =>
      exfalso
      obtain ⟨D, s4⟩ := X.rep
      obtain ⟨ob, hob⟩ := (s4.rep _ _ q).there
      by_cases z : T ∈ ls
      · rcases hls T z with ⟨m', q'⟩ | ⟨_, q', _⟩
        · have := (s4.above _ _ q).2; rw [q'] at this; cases this
        · rw [q] at q'; cases q'
      · exact out T ob hob z rfl
  · cases q : c.base.get? T with
    | none => rfl
    | some ob =>
      exfalso
      by_cases z : T ∈ ls
      · rcases hls T z with ⟨m', q'⟩ | ⟨_, _, q', _⟩
        · have := leN (X.res _ _ q').1; have := lts q; omega
        · rw [q] at q'; cases q'
      · exact out T ob (X.stays _ _ q) z rfl

theorem exc_note {M : Model} {A : Around} {E : Value → Shared → Prop} {s : Shared} {e : Addr} {cl : String} {fl : Value} {env : Env} {outer : List Env} {Q : Unit → Shared → Prop} (hfr : A.frames = some (env :: outer)) (hs : Stk R (env :: outer))
    (X : ExcSt c R H e cl fl s.heap) (hfl : FlOk env fl) (q : ∀ h', ExcSt c R H e cl (rawInt env.locals) h' → Q () { s with heap := h' }) : wpAny M A (noteFrame (.ref e) env) Q E s := by
  obtain ⟨st, re, he, be, ob, kn⟩ := X
  have F := hs env (.head _)
  cases ob with
  | fresh h1 =>
    have hls : ∀ a ∈ e :: (env :: outer).map (·.locals), (∃ m, R a = some (.ns m)) ∨ (R a = none ∧ H a = none ∧ c.base.get? a = none ∧ ∃ o vs, s.heap.get? a = some o ∧ o.data = .fields vs) := by
      intro a ha
      rcases List.mem_cons.mp ha with rfl | ha
      · exact .inr ⟨re, he, be, _, _, h1, rfl⟩
      · obtain ⟨x, hx, rfl⟩ := List.mem_map.mp ha
        exact .inl (hs x hx).ns
    unfold noteFrame
    simp only [F.frame]
    refine wpAny_bind (wpAny_field h1 rfl (x := .none) rfl ?_)
    rw [if_neg (by decide)]
    refine wpAny_entryW (base := hideAll s.heap (e :: (env :: outer).map (·.locals))) (a0 := _) hfr (st.frames hs fun x hx => hideAll_none _ (List.mem_cons_of_mem _ (List.mem_map_of_mem hx))) F.frame h1 (fun b o z => of_hideAll _ z) (hideAll_none _ (List.mem_cons_self ..)) rfl (by simp) rfl fun h' N => q h' ?_
    exact exc_noted st re he be hs hls N (by simp [rawInt]) kn
  | traced h1 h2 h3 h4 h5 h6 h7 h8 h9 h10 h11 h12 h13 =>
    rename_i oe vs T oT ts a0
    rcases hfl with rfl | rfl | rfl
    · exact absurd rfl h13
    · have hls : ∀ a ∈ e :: T :: (env :: outer).map (·.locals), (∃ m, R a = some (.ns m)) ∨ (R a = none ∧ H a = none ∧ c.base.get? a = none ∧ ∃ o vs, s.heap.get? a = some o ∧ o.data = .fields vs) := by
        intro a ha
        rcases List.mem_cons.mp ha with rfl | ha
        · exact .inr ⟨re, he, be, _, _, h1, h3⟩
        · rcases List.mem_cons.mp ha with rfl | ha
          · exact .inr ⟨h7, h8, h9, _, _, h10, h11⟩
          · obtain ⟨x, hx, rfl⟩ := List.mem_map.mp ha
            exact .inl (hs x hx).ns
      refine wpAny_noteFrame_onW (base := hideAll s.heap (e :: T :: (env :: outer).map (·.locals))) (cls := .ref (c.ca cl)) (a0 := a0) hfr (st.frames hs fun x hx => hideAll_none _ (List.mem_cons_of_mem _ (List.mem_cons_of_mem _ (List.mem_map_of_mem hx)))) F.frame
        ⟨oe, vs, T, oT, ts, h1, ⟨h2, h4⟩, h3, h5, hideAll_none _ (List.mem_cons_of_mem _ (List.mem_cons_self ..)), h6, h10, h11, h12⟩ (fun b o z => of_hideAll _ z) (hideAll_none _ (List.mem_cons_self ..)) fun h' N => q h' ?_
      exact exc_noted st re he be hs hls N (by simp [rawInt]) kn
    · refine wpAny_noteFrame_againW (base := hideAll s.heap [T]) (cls := .ref (c.ca cl)) (a0 := a0) F.frame ⟨oe, vs, T, oT, ts, h1, ⟨h2, h4⟩, h3, h5, hideAll_none _ (List.mem_cons_self ..), h6, h10, h11, h12⟩ ?_
      have := q s.heap ⟨st, re, he, be, .traced h1 h2 h3 h4 h5 h6 h7 h8 h9 h10 h11 h12 h13, kn⟩
      exact this

theorem exc_flight {M : Model} {A : Around} {E : Value → Shared → Prop} {s : Shared} {e : Addr} {cl : String} {fl : Value} {f : Option Addr} {Q : Unit → Shared → Prop}
    (X : ExcSt c R H e cl fl s.heap) (hfl : fl ≠ .ellipsis) (q : ∀ h', ExcSt c R H e cl (f.elim .none fun f => rawInt f) h' → Q () { s with heap := h' }) : wpAny M A (setFlight (.ref e) f) Q E s := by
  obtain ⟨st, re, he, be, ob, kn⟩ := X
  cases ob with
  | fresh h1 => exact absurd rfl hfl
  | traced h1 h2 h3 h4 h5 h6 h7 h8 h9 h10 h11 h12 h13 =>
    rename_i oe vs T oT ts a0
    have hsz3 : 3 < ts.size := (Array.getElem?_eq_some_iff.mp h12).1
    have other : ∀ b, b ≠ T → (s.heap.update T (Obj.mapFields (·.setIfInBounds 3 (f.elim Value.none fun f => rawInt f)))).get? b = s.heap.get? b :=
      fun b hb => Heap.get?_update_other _ _ (Ne.symm hb)
    unfold setFlight
    refine wpAny_bind (wpAny_field h1 h3 h5 ?_)
    rw [if_pos (show (Value.ref T != Value.none) = true from by simp)]
    refine wpAny_setField h10 h11 hsz3 (q _ ⟨?_, re, he, be, ?_, kn⟩)
    · refine st.noted (ls := [T]) (fun a ha => .inr ?_) (fun b o hb hn => (other b (by simpa using hn)).trans hb) (fun b o hb hn => ⟨o.slots, (other b (fun z => ?_)).trans hb⟩) ?_
      · simp only [List.mem_singleton] at ha
        subst ha
        exact ⟨h7, h8, h9, _, _, h10, h11⟩
      · rw [z, h10] at hb; cases hb; exact hn _ h11
      · rw [Heap.size_update]; exact st.size
    · exact .traced ((other e (Ne.symm h6)).trans h1) h2 h3 h4 h5 h6 h7 h8 h9 (Heap.get?_update_self _ h10 (Obj.isFreed_of_fields (Obj.data_mapFields h11 _))) (Obj.data_mapFields h11 _) (by simp [hsz3]) (by cases f <;> simp [rawInt])

theorem exc_leave {M : Model} {A : Around} {E : Value → Shared → Prop} {s : Shared} {e : Addr} {cl : String} {fl : Value} {env : Env} {outer : List Env} {Q : Unit → Shared → Prop} (hfr : A.frames = some (env :: outer)) (hs : Stk R (env :: outer))
    (X : ExcSt c R H e cl fl s.heap) (hfl : FlOk env fl) (q : ∀ h', ExcSt c R H e cl .none h' → Q () { s with heap := h' }) : wpAny M A (leaving env (.ref e)) Q E s := by
  unfold leaving
  exact wpAny_bind (exc_note hfr hs X hfl fun h₁ X₁ => exc_flight (s := { s with heap := h₁ }) X₁ (by simp [rawInt]) fun h₂ X₂ => q h₂ X₂)
end
end Mine

namespace Mine

def rdrop (R : RR) (a : Addr) : RR := fun b => if b = a then none else R b
theorem rdrop_le {R : RR} {a : Addr} : ∀ b r, rdrop R a b = some r → R b = some r := fun b r e => by
  unfold rdrop at e; split at e
  · cases e
  · exact e
theorem rdrop_other {R : RR} {a b : Addr} (h : b ≠ a) : rdrop R a b = R b := by simp [rdrop, h]
theorem rdrop_same {R : RR} {a : Addr} : rdrop R a a = none := by simp [rdrop]

/-- an iterator's object at its k-th item -/
def ItObj (H : AHeap) (v : AV) (k : Nat) (o : Obj) : Prop :=
  match v with
  | .ref a => (match H a with
    | some (.list _) => o.cls = .type "list_iterator" ∧ o.data = .fields #[.ref a, .int k 0]
    | some (.tuple _) => o.cls = .type "tuple_iterator" ∧ o.data = .fields #[.ref a, .int k 0]
    | some (.range lo hi) => o = { cls := .type "range_iterator", dict := none, data := .fields #[rawInt (lo + k), rawInt (((hi - lo).toNat : Int) - k), rawInt 1], slots := #[] }
    | some (.dict ep es) => o.cls = .type "dict_keyiterator" ∧ o.data = .fields #[.ref a, .int k 0, .int es.length 0, .int ep 0]
    | _ => False)
  | .str s => ∃ t, (o.cls = .type "str_ascii_iterator" ∨ o.cls = .type "str_iterator") ∧ o.data = .fields #[.str s t, .int k 0]
  | _ => False
theorem ItObj.same {H H' : AHeap} {v : AV} {k : Nat} {o : Obj} (h : ItObj H v k o) (e : sameIt H H' v) : ItObj H' v k o := by
  cases v with
  | ref a => simp only [sameIt] at e; simp only [ItObj] at h ⊢; rw [e]; exact h
  | str s => exact h
  | _ => exact h

theorem rg_size {a b : Int} : Builtin.Range.rangeSize a b 1 = ((b - a).toNat : Int) := by
  unfold Builtin.Range.rangeSize
  simp only [Int.ediv_one, show (1 : Int) > 0 from by decide, if_true]
  split <;> omega
theorem rg_small {a b : Int} (h : RgOk a b) : Builtin.Range.small a b 1 = true := by
  unfold Builtin.Range.small Builtin.Range.rangeFitsLong
  rw [rg_size]
  obtain ⟨h1, h2, h3, h4⟩ := h
  simp only [show (1 : Int) > 0 from by decide, if_true, Bool.and_eq_true, Bool.or_eq_true, decide_eq_true_eq, beq_iff_eq]
  refine ⟨⟨⟨⟨⟨?_, ?_⟩, ⟨?_, ?_⟩⟩, ⟨?_, ?_⟩⟩, ⟨?_, ?_⟩⟩, .inr ⟨?_, ?_⟩⟩ <;> omega

section
variable {c : Cx} {R : RR} {H : AHeap} {A : Around} {E : Value → Shared → Prop} {s : Shared}

theorem it_push {o : Obj} {Q : Value → Shared → Prop} (hnf : o.isFreed = false) (S : St c R H s.heap) (q : ∀ s' a, R a = none → H a = none → St c (rup R a (.obj o)) H s'.heap → Sm s s' → Q (.ref a) s') : Q (.ref s.heap.objs.size) { s with heap := s.heap.push o } := by
  obtain ⟨h1, h2, h3⟩ := S.newRes (x := s.heap.objs.size) (r := .obj o) (h' := s.heap.push o) (Nat.le_refl _) (fun _ _ z => Heap.get?_push_of_some _ z) (by rw [Heap.size_push]; omega) (Heap.get?_push_size _ hnf)
  exact q _ _ h1 h2 h3 ⟨_, _, rfl⟩

theorem it_new {mg mb : Str → Option Value} {v : AV} {u : Value} {xs : List AV} {Q : Value → Shared → Prop} (C : c.Ok mg mb) (hv : VR v u) (S : St c R H s.heap) (hx : itemsOf H v = some xs)
    (q : ∀ s' a o, R a = none → H a = none → ItObj H v 0 o → St c (rup R a (.obj o)) H s'.heap → Sm s s' → Q (.ref a) s') : wpAny (model c.prog c.w) A (pyIter u) Q E s := by
  cases hv with
  | ref a =>
    simp only [itemsOf] at hx
    split at hx
    · rename_i ys e
      obtain ⟨vs, n, k1, k2, k3⟩ := isList_of (g := ⟨c, 0, true⟩) S e
      exact wpAny_pyIter_list k3 (it_push rfl S fun s' b h1 h2 h3 h4 => q s' b _ h1 h2 (by simp [ItObj, e]) h3 h4)
    · rename_i ys e
      obtain ⟨vs, n, k1, k2, k3⟩ := isTup_of (g := ⟨c, 0, true⟩) S e
      exact wpAny_pyIter_tuple ⟨_, k1, rfl, _, rfl⟩ (it_push rfl S fun s' b h1 h2 h3 h4 => q s' b _ h1 h2 (by simp [ItObj, e]) h3 h4)
    · rename_i lo hi e
      obtain ⟨D, r⟩ := S.rep
      obtain ⟨rg, t, u, w, hr⟩ := r.rep _ _ e
      exact wpAny_pyIter_range hr (rg_small rg) (it_push rfl S fun s' b h1 h2 h3 h4 => q s' b _ h1 h2 (by simp [ItObj, e, rg_size]) h3 h4)
    · rename_i ep es e
      obtain ⟨kvs, hd, hr⟩ := isDict_of (g := ⟨c, 0, true⟩) S e
      have hl := hr.length
      refine wpAny_pyIter_dict (hds_of (g := ⟨c, 0, true⟩) C S e) hd (it_push rfl S fun s' b h1 h2 h3 h4 => q s' b _ h1 h2 ?_ h3 h4)
      simp [ItObj, e, hl]
    · cases hx
  | str x t =>
    cases ha : x.cps.all (· < 128)
    · exact wpAny_pyIter_wide ha (it_push rfl S fun s' b h1 h2 h3 h4 => q s' b _ h1 h2 ⟨t, .inr rfl, rfl⟩ h3 h4)
    · exact wpAny_pyIter_ascii ha (it_push rfl S fun s' b h1 h2 h3 h4 => q s' b _ h1 h2 ⟨t, .inl rfl, rfl⟩ h3 h4)
  | none => cases hx
  | bool b => cases hx
  | int i t => cases hx

theorem str_one {x : Str} {i ch : Nat} (h : PyData.strOk x = true) (e : x.cps[i]? = some ch) : PyData.strOk ⟨#[ch]⟩ = true :=
  strOk_of (l := [ch]) (by intro c hc; simp at hc; subst hc; exact strOk_mem h (Array.mem_of_getElem? e))

theorem strKind_key {prog : Program} {w : World} {k : Str} {key : Value} (h : (PySem.strKind prog w).is k key = true) : ∃ t, key = .str k t := by
  cases key <;> simp [PySem.strKind, Value.isStrOf] at h
  subst h; exact ⟨_, rfl⟩

theorem DRs.get {es : List (Str × AV)} {kvs : List (Str × Value)} (h : DRs es kvs) : ∀ {k : Nat} {n : Str} {a : AV}, es[k]? = some (n, a) → PyData.strOk n = true ∧ ∃ v, kvs[k]? = some (n, v) := by
  induction h with
  | nil => intro k n a e; simp at e
  | cons h1 h2 _ ih =>
    intro k n a e
    cases k with
    | zero => simp at e; obtain ⟨rfl, rfl⟩ := e; exact ⟨h1, _, rfl⟩
    | succ k => simp at e ⊢; exact ih e

theorem it_item {v : AV} {xs : List AV} {x : AV} {k : Nat} {a : Addr} {o : Obj} {Q : Option Value → Shared → Prop} (hx : itemsOf H v = some xs) (hk : xs[k]? = some x) (hi : ItObj H v k o) (hr : R a = some (.obj o)) (S : St c R H s.heap)
    (hsv : ∀ y, v = .str y → PyData.strOk y = true)
    (q : ∀ s' u o', VR x u → ItObj H v (k + 1) o' → St c (rup R a (.obj o')) H s'.heap → Sm s s' → Q (some u) s') : wpAny (model c.prog c.w) A (pyNext (.ref a)) Q E s := by
  have ho : s.heap.get? a = some o := (S.res _ _ hr).2
  cases v with
  | ref p =>
    simp only [itemsOf] at hx
    split at hx
    · rename_i ys e
      cases hx
      obtain ⟨vs, n, k1, k2, k3⟩ := isList_of (g := ⟨c, 0, true⟩) S e
      obtain ⟨w, hw, hvr⟩ := k2.get hk
      simp only [ItObj, e] at hi
      refine wpAny_pyNext_list_item ⟨o, ho, hi.1, hi.2⟩ k3 (by simpa using hw) fun h' ⟨o', p1, p2, p3⟩ hs => ?_
      exact q _ w o' hvr (by simp only [ItObj, e]; exact ⟨p2, p3⟩) (S.setRes hr hs p1) ⟨_, _, rfl⟩
    · rename_i ys e
      cases hx
      obtain ⟨vs, n, k1, k2, k3⟩ := isTup_of (g := ⟨c, 0, true⟩) S e
      obtain ⟨w, hw, hvr⟩ := k2.get hk
      simp only [ItObj, e] at hi
      refine wpAny_pyNext_tuple_item (items := vs.toArray) ⟨o, ho, hi.1, hi.2⟩ ⟨_, k1, rfl, _, rfl⟩ (by simpa using hw) fun h' ⟨o', p1, p2, p3⟩ hs => ?_
      exact q _ w o' hvr (by simp only [ItObj, e]; exact ⟨p2, p3⟩) (S.setRes hr hs p1) ⟨_, _, rfl⟩
    · rename_i lo hi' e
      cases hx
      simp only [ItObj, e] at hi
      subst hi
      have hlt : k < (hi' - lo).toNat := by
        have := (List.getElem?_eq_some_iff.mp hk).1
        simpa using this
      have hxe : x = .int (lo + k) := by
        rw [List.getElem?_map, List.getElem?_range hlt] at hk
        simpa using hk.symm
      subst hxe
      refine wpAny_pyNext_range_item (x := lo + k) (left := ((hi' - lo).toNat : Int) - k) (step := 1) ho (by omega) fun h' p1 hs => ?_
      refine q _ _ _ (.int _ _) ?_ (S.setRes (r' := .obj _) hr hs p1) ⟨_, _, rfl⟩
      simp only [ItObj, e]
      have e1 : lo + (k : Int) + 1 = lo + ((k + 1 : Nat) : Int) := by omega
      have e2 : ((hi' - lo).toNat : Int) - k - 1 = ((hi' - lo).toNat : Int) - ((k + 1 : Nat) : Int) := by omega
      rw [e1, e2]
    · rename_i ep es e
      cases hx
      obtain ⟨kvs, hd, hr'⟩ := isDict_of (g := ⟨c, 0, true⟩) S e
      have hl := hr'.length
      simp only [ItObj, e] at hi
      rw [List.getElem?_map, Option.map_eq_some_iff] at hk
      obtain ⟨⟨kk, av⟩, hk1, hk2⟩ := hk
      obtain ⟨hso, vv, hkv⟩ := hr'.get hk1
      subst hk2
      refine wpAny_pyNext_dict_item (k := kk) (v := vv) ⟨o, ho, hi.1, by rw [hl]; exact hi.2⟩ hd hkv fun key h' hkey ⟨o', p1, p2, p3⟩ hs => ?_
      obtain ⟨t, rfl⟩ := strKind_key hkey
      exact q _ _ o' (.str _ _ hso) (by simp only [ItObj, e]; exact ⟨p2, by rw [← hl]; exact p3⟩) (S.setRes hr hs p1) ⟨_, _, rfl⟩
    · cases hx
  | str y =>
    cases hx
    rw [List.getElem?_map, Option.map_eq_some_iff] at hk
    obtain ⟨ch, hk1, rfl⟩ := hk
    have hch : y.cps[k]? = some ch := by rw [← Array.getElem?_toList]; exact hk1
    obtain ⟨t, hc, hd⟩ := hi
    have hok := str_one (hsv y rfl) hch
    rcases hc with hc | hc
    · refine wpAny_pyNext_ascii_item ⟨o, ho, hc, hd⟩ hch fun h' ⟨o', p1, p2, p3⟩ hs => ?_
      exact q _ _ o' (.str _ _ hok) ⟨t, .inl p2, p3⟩ (S.setRes hr hs p1) ⟨_, _, rfl⟩
    · refine wpAny_pyNext_wide_item ⟨o, ho, hc, hd⟩ hch fun h' ⟨o', p1, p2, p3⟩ hs => ?_
      exact q _ _ o' (.str _ _ hok) ⟨t, .inr p2, p3⟩ (S.setRes hr hs p1) ⟨_, _, rfl⟩
  | none => cases hx
  | bool b => cases hx
  | int i => cases hx

theorem St.dropRes {h h' : Heap} {a : Addr} {o : Obj} (S : St c R H h) (hr : R a = some (.obj o)) (k : Heap.ExtBut a h h') (hsz : c.base.objs.size ≤ h'.objs.size) : St c (rdrop R a) H h' := by
  obtain ⟨s1, s2, s3, D, s4⟩ := S
  have nn : ∀ b, R b = none → rdrop R a b = none := fun b e => by
    cases q : rdrop R a b with
    | none => rfl
    | some r => rw [rdrop_le b r q] at e; cases e
  refine ⟨fun b o' e => k b o' (fun z => ?_) (s1 b o' e), hsz, fun b r e => ⟨(s3 b r (rdrop_le b r e)).1, (s3 b r (rdrop_le b r e)).2.agree fun ob z => k b ob (fun w => ?_) z⟩, D, ⟨fun b ao e => ?_, fun b ao e => ⟨(s4.above b ao e).1, nn _ (s4.above b ao e).2⟩, fun b cl es e => ?_, s4.inj⟩⟩
  · have := leN (s3 a _ hr).1; have := lts e; rw [z] at this; omega
  · rw [w, rdrop_same] at e; cases e
  · refine (s4.rep b ao e).agree (fun ob z => k b ob (fun w => ?_) z) fun cl es eo => ⟨rfl, fun ob z => k _ ob (fun w => ?_) z⟩
    · have := (s4.above b ao e).2; rw [w, hr] at this; cases this
    · subst eo; have := (s4.dict b cl es e).2.1; rw [w, hr] at this; cases this
  · obtain ⟨y1, y2, y3⟩ := s4.dict b cl es e
    exact ⟨y1, nn _ y2, y3⟩

theorem it_end {v : AV} {xs : List AV} {k : Nat} {a L : Addr} {m : Str → Option Value} {o : Obj} {Q : Option Value → Shared → Prop} (hh : A.handled = none) (hx : itemsOf H v = some xs) (hk : xs[k]? = none) (hi : ItObj H v k o) (hr : R a = some (.obj o)) (hL : R L = some (.ns m)) (S : St c R H s.heap)
    (q : ∀ s', St c (rdrop R a) H s'.heap → Sm s s' → Q none s') : wpAny (model c.prog c.w) A (pyNext (.ref a)) Q E s := by
  have ho : s.heap.get? a = some o := (S.res _ _ hr).2
  have fin : ∀ h', Heap.ExtBut a s.heap h' → Q none { s with heap := h' } := fun h' k => by
    refine q _ (S.dropRes hr k ?_) ⟨_, _, rfl⟩
    obtain ⟨oL, es, ep, w, _⟩ := (S.res _ _ hL).2
    have h1 := leN (S.res _ _ hL).1
    have h2 := lts (k L oL (fun z => by rw [z, hr] at hL; cases hL) w)
    exact Nat.le_of_lt (Nat.lt_of_le_of_lt h1 h2)
  cases v with
  | ref p =>
    simp only [itemsOf] at hx
    split at hx
    · rename_i ys e
      cases hx
      obtain ⟨vs, n, k1, k2, k3⟩ := isList_of (g := ⟨c, 0, true⟩) S e
      simp only [ItObj, e] at hi
      refine wpAny_pyNext_list_end hh ⟨o, ho, hi.1, hi.2⟩ k3 ?_ fin
      have := k2.length
      simp at hk ⊢; omega
    · rename_i ys e
      cases hx
      obtain ⟨vs, n, k1, k2, k3⟩ := isTup_of (g := ⟨c, 0, true⟩) S e
      simp only [ItObj, e] at hi
      refine wpAny_pyNext_tuple_end (items := vs.toArray) hh ⟨o, ho, hi.1, hi.2⟩ ⟨_, k1, rfl, _, rfl⟩ ?_ fin
      have := k2.length
      simp at hk ⊢; omega
    · rename_i lo hi' e
      cases hx
      simp only [ItObj, e] at hi
      subst hi
      have hlt : (hi' - lo).toNat ≤ k := by simpa using hk
      exact wpAny_pyNext_range_end (x := lo + k) (left := ((hi' - lo).toNat : Int) - k) (step := 1) hh ho (by omega) fin
    · rename_i ep es e
      cases hx
      obtain ⟨kvs, hd, hr'⟩ := isDict_of (g := ⟨c, 0, true⟩) S e
      have hl := hr'.length
      simp only [ItObj, e] at hi
      refine wpAny_pyNext_dict_end hh ⟨o, ho, hi.1, by rw [hl]; exact hi.2⟩ hd ?_ fin
      simp at hk ⊢; omega
    · cases hx
  | str y =>
    cases hx
    have hch : y.cps[k]? = none := by rw [← Array.getElem?_toList]; simpa using hk
    obtain ⟨t, hc, hd⟩ := hi
    rcases hc with hc | hc
    · exact wpAny_pyNext_ascii_end hh ⟨o, ho, hc, hd⟩ hch fin
    · exact wpAny_pyNext_wide_end hh ⟨o, ho, hc, hd⟩ hch fin
  | none => cases hx
  | bool b => cases hx
  | int i => cases hx
end
end Mine

namespace Mine

/-! ## stores -/
def RStep (env : Env) (R R' : RR) : Prop := ∀ b, R' b = R b ∨ (b = env.locals ∧ ∃ m m', R b = some (.ns m) ∧ R' b = some (.ns m')) ∨ ((∃ n, env.cells.lookup n = some b) ∧ ∃ x x', R b = some (.cell x) ∧ R' b = some (.cell x'))
theorem RStep.refl {env : Env} {R : RR} : RStep env R R := fun _ => .inl rfl
theorem RStep.trans {env : Env} {R R' R'' : RR} (x : RStep env R R') (y : RStep env R' R'') : RStep env R R'' := fun b => by
  rcases x b with h | ⟨h1, m, m', h2, h3⟩ | ⟨h1, m, m', h2, h3⟩
  · rcases y b with k | ⟨k1, m, m', k2, k3⟩ | ⟨k1, m, m', k2, k3⟩
    · exact .inl (k.trans h)
    · exact .inr (.inl ⟨k1, m, m', by rw [← h]; exact k2, k3⟩)
    · exact .inr (.inr ⟨k1, m, m', by rw [← h]; exact k2, k3⟩)
  · rcases y b with k | ⟨k1, n, n', k2, k3⟩ | ⟨k1, n, n', k2, k3⟩
    · exact .inr (.inl ⟨h1, m, m', h2, by rw [k]; exact h3⟩)
    · exact .inr (.inl ⟨h1, m, n', h2, k3⟩)
    · rw [h3] at k2; cases k2
  · rcases y b with k | ⟨k1, n, n', k2, k3⟩ | ⟨k1, n, n', k2, k3⟩
    · exact .inr (.inr ⟨h1, m, m', h2, by rw [k]; exact h3⟩)
    · rw [h3] at k2; cases k2
    · exact .inr (.inr ⟨h1, m, n', h2, k3⟩)
theorem RStep.ns {env : Env} {R R' : RR} (x : RStep env R R') {a : Addr} {m} (h : R a = some (.ns m)) : ∃ m', R' a = some (.ns m') := by
  rcases x a with k | ⟨_, _, m', _, k⟩ | ⟨_, _, _, k, _⟩
  · exact ⟨m, k.trans h⟩
  · exact ⟨m', k⟩
  · rw [h] at k; cases k
theorem RStep.obj {env : Env} {R R' : RR} (x : RStep env R R') {a : Addr} {o} (h : R a = some (.obj o)) : R' a = some (.obj o) := by
  rcases x a with k | ⟨_, _, m', k, _⟩ | ⟨_, _, _, k, _⟩
  · exact k.trans h
  · rw [h] at k; cases k
  · rw [h] at k; cases k
theorem RStep.none {env : Env} {R R' : RR} (x : RStep env R R') {a : Addr} (h : R a = Option.none) : R' a = Option.none := by
  rcases x a with k | ⟨_, _, m', k, _⟩ | ⟨_, _, _, k, _⟩
  · exact k.trans h
  · rw [h] at k; cases k
  · rw [h] at k; cases k
theorem RStep.stk {env : Env} {R R' : RR} (x : RStep env R R') {l : List Env} (h : Stk R l) : Stk R' l := fun e he =>
  let F := h e he
  ⟨F.kind, F.frame, F.gen, F.co, F.blt, F.glob, let ⟨_, hm⟩ := F.ns; x.ns hm⟩
theorem Ev.step {g : Gx} {A : Around} {R R' : RR} {env e : Env} {l : List Env} (x : RStep env R R') (h : Ev g A R e l) : Ev g A R' e l := ⟨h.aok, x.stk h.stk⟩

theorem Frm.congr {R R' : RR} {env : Env} {sc : Scope} {nm : List Str} {V : VV} (fr : Frm R env sc nm V) (h : ∀ b, (∃ m, R b = some (.ns m)) ∨ (∃ x, R b = some (.cell x)) → R' b = R b) : Frm R' env sc nm V := by
  obtain ⟨k1, k2, k3, k4, k5, k6, k7, k8, ⟨m, n1, n2⟩, k9⟩ := fr
  refine ⟨k1, k2, k3, k4, k5, k6, k7, k8, ⟨m, (h _ (.inl ⟨m, n1⟩)).trans n1, n2⟩, fun i n hn hk => ?_⟩
  obtain ⟨a, x, v, c1, c2, c3⟩ := k9 i n hn hk
  exact ⟨a, x, v, c1, (h _ (.inr ⟨x, c2⟩)).trans c2, c3⟩

section
variable {c : Cx} {R : RR} {H : AHeap} {V : VV} {env : Env} {sc : Scope} {nm : List Str}

theorem Frm.local' (fr : Frm R env sc nm V) (nd : nm.Nodup) {i : Nat} {id : Str} {x : Option AV} {w : Option Value} {m : Str → Option Value} (hi : nm[i]? = some id) (hl : env.kindOf id = some .local) (hm : R env.locals = some (.ns m)) (hv : OVW x w) :
    Frm (rup R env.locals (.ns fun y => if y = id then w else m y)) env sc nm (V.set i x) := by
  obtain ⟨k1, k2, k3, k4, k5, k6, k7, k8, ⟨m', n1, n2⟩, k9⟩ := fr
  rw [hm] at n1; cases n1
  have hnd : ∀ {j : Nat} {n : Str}, nm[j]? = some n → (n = id ↔ j = i) := fun {j n} hj => by
    constructor
    · rintro rfl
      have h1 := List.getElem?_eq_some_iff.mp hj
      have h2 := List.getElem?_eq_some_iff.mp hi
      exact (List.getElem_inj nd).mp (h1.2.trans h2.2.symm)
    · rintro rfl; rw [hi] at hj; cases hj; rfl
  refine ⟨k1, k2, k3, k4, k5, k6, k7, k8, ⟨_, rup_same, fun j n hj hk => ?_⟩, fun j n hj hk => ?_⟩
  · obtain ⟨v, v1, v2⟩ := n2 j n hj hk
    by_cases q : n = id
    · have := (hnd hj).mp q
      subst q this
      have hlt := (List.getElem?_eq_some_iff.mp v1).1
      exact ⟨x, by simp [hlt], by simpa using hv⟩
    · have hne : j ≠ i := fun z => q ((hnd hj).mpr z)
      exact ⟨v, by rw [List.getElem?_set_ne (Ne.symm hne)]; exact v1, by simp only [q, if_false]; exact v2⟩
  · obtain ⟨a, y, v, c1, c2, c3, c4⟩ := k9 j n hj hk
    have hna : a ≠ env.locals := fun z => by rw [z, hm] at c2; cases c2
    have hne : j ≠ i := fun z => by
      have := (hnd hj).mpr z
      subst this
      rw [hl] at hk; rcases hk with hk | hk <;> cases hk
    exact ⟨a, y, v, c1, by rw [rup_other hna]; exact c2, by rw [List.getElem?_set_ne (Ne.symm hne)]; exact c3, c4⟩

theorem Frm.cell' (fr : Frm R env sc nm V) (nd : nm.Nodup) {i : Nat} {id : Str} {a : Addr} {x : Option AV} {w y : Option Value} (hi : nm[i]? = some id) (hl : env.kindOf id = some .cell) (ha : env.cells.lookup id = some a) (hr : R a = some (.cell y)) (hv : OVW x w) :
    Frm (rup R a (.cell w)) env sc nm (V.set i x) := by
  obtain ⟨k1, k2, k3, k4, k5, k6, k7, k8, ⟨m', n1, n2⟩, k9⟩ := fr
  have hnd : ∀ {j : Nat} {n : Str}, nm[j]? = some n → (n = id ↔ j = i) := fun {j n} hj => by
    constructor
    · rintro rfl
      have h1 := List.getElem?_eq_some_iff.mp hj
      have h2 := List.getElem?_eq_some_iff.mp hi
      exact (List.getElem_inj nd).mp (h1.2.trans h2.2.symm)
    · rintro rfl; rw [hi] at hj; cases hj; rfl
  have hna : env.locals ≠ a := fun z => by rw [z, hr] at n1; cases n1
  refine ⟨k1, k2, k3, k4, k5, k6, k7, k8, ⟨m', by rw [rup_other hna]; exact n1, fun j n hj hk => ?_⟩, fun j n hj hk => ?_⟩
  · obtain ⟨v, v1, v2⟩ := n2 j n hj hk
    have hne : j ≠ i := fun z => by
      have := (hnd hj).mpr z
      subst this
      rw [hl] at hk; cases hk
    exact ⟨v, by rw [List.getElem?_set_ne (Ne.symm hne)]; exact v1, v2⟩
  · obtain ⟨b, z, v, c1, c2, c3, c4⟩ := k9 j n hj hk
    by_cases q : n = id
    · have := (hnd hj).mp q
      subst q this
      rw [ha] at c1; cases c1
      have hlt := (List.getElem?_eq_some_iff.mp c3).1
      exact ⟨a, w, x, ha, rup_same, by simp [hlt], hv⟩
    · have hne : j ≠ i := fun z => q ((hnd hj).mpr z)
      have hab : b ≠ a := fun z => q (k8 n id a (by rw [← z]; exact c1) ha)
      exact ⟨b, z, v, c1, by rw [rup_other hab]; exact c2, by rw [List.getElem?_set_ne (Ne.symm hne)]; exact c3, c4⟩

/-- a name is stored -/
theorem st_name {M : Model} {A : Around} {E : Value → Shared → Prop} {s : Shared} {i : Nat} {id : Str} {x : AV} {u : Value} {Q : Unit → Shared → Prop} (fr : Frm R env sc nm V) (nd : nm.Nodup) (hi : nm[i]? = some id) (hk : locKind sc id = true) (hv : VR x u)
    (S : St c R H s.heap) (q : ∀ s' R', RStep env R R' → Frm R' env sc nm (V.set i (some x)) → St c R' H s'.heap → Sm s s' → Q () s') : wpAny M A (storeName env id u) Q E s := by
  obtain ⟨m, hm, _⟩ := fr.ns
  rcases fr.lok id hk with hl | hl
  · refine wpAny_storeName_local hl (S.res _ _ hm).2 (fun h' hn hs => ?_) (by rw [fr.kind]; rfl)
    refine q _ _ (fun b => ?_) (fr.local' nd hi hl hm (.some hv)) (S.setRes (r' := .ns _) hm hs hn) ⟨_, _, rfl⟩
    by_cases z : b = env.locals
    · subst z; exact .inr (.inl ⟨rfl, _, _, hm, rup_same⟩)
    · exact .inl (rup_other z)
  · obtain ⟨a, y, v, c1, c2, c3, c4⟩ := fr.cell i id hi (.inl hl)
    refine wpAny_storeName_cell fr.kind hl c1 (S.res _ _ c2).2 fun h' hn hs => ?_
    refine q _ _ (fun b => ?_) (fr.cell' nd hi hl c1 c2 (.some hv)) (S.setRes (r' := .cell _) c2 hs hn) ⟨_, _, rfl⟩
    by_cases z : b = a
    · subst z; exact .inr (.inr ⟨⟨_, c1⟩, _, _, c2, rup_same⟩)
    · exact .inl (rup_other z)

theorem ExcSt.weaken {R' : RR} {e : Addr} {cl : String} {fl : Value} {h : Heap} (X : ExcSt c R' H e cl fl h) (k : ∀ b r, R b = some r → R' b = some r) : ExcSt c R H e cl fl h := by
  obtain ⟨st, re, he, be, ob, kn⟩ := X
  have nn : ∀ a, R' a = none → R a = none := fun a e => by
    cases q : R a with
    | none => rfl
    | some r => rw [k a r q] at e; cases e
  refine ⟨st.weaken k, nn _ re, he, be, ?_, kn⟩
  cases ob with
  | fresh h1 => exact .fresh h1
  | traced h1 h2 h3 h4 h5 h6 h7 h8 h9 h10 h11 h12 h13 => exact .traced h1 h2 h3 h4 h5 h6 (nn _ h7) h8 h9 h10 h11 h12 h13

theorem ExcAt.obj {e : Addr} {cls fl : Value} {h : Heap} (X : ExcAt c R H h e cls fl) : ∃ o vs, h.get? e = some o ∧ o.cls = cls ∧ o.data = .fields vs := by
  cases X with
  | fresh h1 => exact ⟨_, _, h1, rfl, rfl⟩
  | traced h1 h2 h3 => exact ⟨_, _, h1, h2, h3⟩

theorem ExcSt.caught {e : Addr} {cl : String} {fl : Value} {h : Heap} (X : ExcSt c R H e cl fl h) : St c R (up H e (.exc cl)) h := by
  obtain ⟨⟨s1, s2, s3, D, s4⟩, re, he, be, ob, kn⟩ := X
  obtain ⟨o, vs, o1, o2, o3⟩ := ob.obj
  refine ⟨s1, s2, s3, D, ⟨fun a ao z => ?_, fun a ao z => ?_, fun a cl' es z => ?_, fun a b cl' es cl'' es' z z' => ?_⟩⟩
  · by_cases q : a = e
    · subst q; rw [up_same] at z; cases z; exact ⟨o, o1, o2, vs, o3⟩
    · rw [up_other q] at z; exact s4.rep a ao z
  · by_cases q : a = e
    · subst q; rw [up_same] at z; cases z; exact ⟨⟨fun _ => be, fun w => by cases w⟩, re⟩
    · rw [up_other q] at z; exact s4.above a ao z
  · by_cases q : a = e
    · subst q; rw [up_same] at z; cases z
    · rw [up_other q] at z
      obtain ⟨y1, y2, y3⟩ := s4.dict a cl' es z
      refine ⟨y1, y2, ?_⟩
      rw [up_other (fun w => ?_)]; · exact y3
      obtain ⟨_, ents, n, w', _⟩ := s4.rep a _ z
      rw [w, o1] at w'; cases w'; cases o3
  · by_cases q : a = e
    · subst q; rw [up_same] at z; cases z
    · by_cases q' : b = e
      · subst q'; rw [up_same] at z'; cases z'
      · rw [up_other q] at z; rw [up_other q'] at z'; exact s4.inj a b cl' es cl'' es' z z'
end

/-! ## ends of statements -/
def TF (g : Gx) (env : Env) (sc : Scope) (nm : List Str) (R : RR) (s₀ : Shared) (QN : VV → AHeap → Prop) (QR : AV → AHeap → Prop) (f : Flow) (s' : Shared) : Prop :=
  match f with
  | .next => ∃ R' V' H', RStep env R R' ∧ Frm R' env sc nm V' ∧ St g.c R' H' s'.heap ∧ Sm s₀ s' ∧ QN V' H'
  | .ret v => ∃ R' av H', RStep env R R' ∧ VR av v ∧ St g.c R' H' s'.heap ∧ Sm s₀ s' ∧ QR av H'
  | _ => False
def TX (g : Gx) (env : Env) (sc : Scope) (nm : List Str) (R : RR) (s₀ : Shared) (E : String → VV → AHeap → Prop) (e : Value) (s' : Shared) : Prop :=
  ∃ a cl R' V' H' fl, e = .ref a ∧ RStep env R R' ∧ Frm R' env sc nm V' ∧ FlOk env fl ∧ ExcSt g.c R' H' a cl fl s'.heap ∧ Sm s₀ s' ∧ E cl V' H'

def SOk (g : Gx) (sc : Scope) (nm : List Str) (w : Gx → (VV → AHeap → Prop) → (AV → AHeap → Prop) → (String → VV → AHeap → Prop) → VV → AHeap → Prop) (t : Env → Sem Flow) : Prop :=
  ∀ (md : Bool) (A : Around) (env : Env) (l₀ : List Env) (R : RR) (V : VV) (s₀ s : Shared) (H : AHeap) (QN : VV → AHeap → Prop) (QR : AV → AHeap → Prop) (E : String → VV → AHeap → Prop),
    Ev { g with md := md } A R env l₀ → Frm R env sc nm V → St g.c R H s.heap → Sm s₀ s → w { g with md := md } QN QR E V H →
    wpAny (model g.c.prog g.c.w) A (t env) (TF g env sc nm R s₀ QN QR) (TX g env sc nm R s₀ E) s
end Mine

namespace Mine

section
variable {g : Gx} {sc : Scope} {nm : List Str} {mg mb : Str → Option Value}

abbrev XMd (g : Gx) (sc : Scope) (nm : List Str) (x : X) (e : PySem.Expr) : Prop := ∀ md, XOk { g with md := md } sc nm x e

theorem te_tx {md : Bool} {R : RR} {env : Env} {V : VV} {s₀ s' : Shared} {E : String → VV → AHeap → Prop} {e : Value} (fr : Frm R env sc nm V) (h : TE { g with md := md } R s₀ (fun cl H => E cl V H) e s') : TX g env sc nm R s₀ E e s' := by
  obtain ⟨a, cl, H', rfl, x, m, q⟩ := h
  exact ⟨a, cl, R, V, H', .none, rfl, .refl, fr, .inr (.inl rfl), x, m, q⟩
theorem TF.trans {R R' : RR} {env : Env} {s₀ s' : Shared} {QN : VV → AHeap → Prop} {QR : AV → AHeap → Prop} {f : Flow} (x : RStep env R R') (h : TF g env sc nm R' s₀ QN QR f s') : TF g env sc nm R s₀ QN QR f s' := by
  cases f with
  | next => obtain ⟨R₂, V', H', r, k⟩ := h; exact ⟨R₂, V', H', x.trans r, k⟩
  | ret v => obtain ⟨R₂, V', H', r, k⟩ := h; exact ⟨R₂, V', H', x.trans r, k⟩
  | brk => exact h
  | cont => exact h
theorem TX.trans {R R' : RR} {env : Env} {s₀ s' : Shared} {E : String → VV → AHeap → Prop} {e : Value} (x : RStep env R R') (h : TX g env sc nm R' s₀ E e s') : TX g env sc nm R s₀ E e s' := by
  obtain ⟨a, cl, R₂, V', H', fl, h1, r, k⟩ := h
  exact ⟨a, cl, R₂, V', H', fl, h1, x.trans r, k⟩

theorem swaps_plain {v : PySem.Expr} {t : Option PySem.Expr} {l : Nat} {env : Env} (h : notComp v = true) : swapsWith v t l env = pure false := by
  cases v <;> first | rfl | cases h

theorem s_ret {e : X} {v : PySem.Expr} {pos : Pos} (hx : XMd g sc nm e v) : SOk g sc nm (fun g => wpS g (.ret e)) (exec (.Return (some v) pos)) := fun md A env l₀ R V s₀ s H QN QR E ev fr S m q => by
  simp only [wpS] at q
  refine wpAny_Return_some (wpAny_mono ((hx md A R V env env l₀ s₀ ev fr).1 H s _ _ S m q) (fun u s' z => ?_) fun _ _ z => te_tx fr z)
  obtain ⟨av, H', hv, S', m', q'⟩ := z
  exact ⟨R, av, H', .refl, hv, S', m', q'⟩

theorem s_pass {pos : Pos} : SOk g sc nm (fun g => wpS g .pass) (exec (.Pass pos)) := fun md A env l₀ R V s₀ s H QN QR E ev fr S m q => by
  simp only [wpS] at q
  exact wpAny_Pass ⟨R, V, H, .refl, fr, S, m, q⟩

theorem s_expr {e : X} {v : PySem.Expr} {pos : Pos} (hn : notComp v = true) (hx : XMd g sc nm e v) : SOk g sc nm (fun g => wpS g (.expr e)) (exec (.Expr v pos)) := fun md A env l₀ R V s₀ s H QN QR E ev fr S m q => by
  simp only [wpS] at q
  refine wpAny_Expr (wpAny_mono ((hx md A R V env env l₀ s₀ ev fr).1 H s _ _ S m q) (fun u s' z => ?_) fun _ _ z => te_tx fr z) (by unfold interactive; rw [fr.kind]; rfl) (swaps_plain hn)
  obtain ⟨av, H', hv, S', m', hne, q'⟩ := z
  cases hv with
  | ref a => exact absurd rfl (hne a)
  | none => exact ⟨R, V, H', .refl, fr, S', m', q'⟩
  | bool => exact ⟨R, V, H', .refl, fr, S', m', q'⟩
  | int => exact ⟨R, V, H', .refl, fr, S', m', q'⟩
  | str => exact ⟨R, V, H', .refl, fr, S', m', q'⟩

theorem s_asgn_var {i : Nat} {e : X} {tg v : PySem.Expr} {pos : Pos} (nd : nm.Nodup) (hn : notComp v = true) (ht : tgtOk sc nm i tg = true) (hx : XMd g sc nm e v) : SOk g sc nm (fun g => wpS g (.assign (.var i) e)) (exec (.Assign [tg] v pos)) :=
  fun md A env l₀ R V s₀ s H QN QR E ev fr S m q => by
  simp only [wpS, wpT] at q
  unfold tgtOk at ht
  split at ht
  · rename_i id p
    simp only [Bool.and_eq_true, beq_iff_eq] at ht
    refine wpAny_Assign_Name (wpAny_mono ((hx md A R V env env l₀ s₀ ev fr).1 H s _ _ S m q) (fun u s₁ z => ?_) fun _ _ z => te_tx fr z) (swaps_plain hn)
    obtain ⟨av, H', hv, S', m', _, q'⟩ := z
    exact st_name fr nd ht.1 ht.2 hv S' fun s₂ R' r f' S₂ m₂ => ⟨R', _, H', r, f', S₂, m'.trans m₂, q'⟩
  · cases ht

theorem s_if {c : X} {a b : List S} {t : PySem.Expr} {x y : List Stmt} {pos : Pos} (hc : XMd g sc nm c t) (ha : SOk g sc nm (fun g => wpSs g a) (execs x)) (hb : SOk g sc nm (fun g => wpSs g b) (execs y)) :
    SOk g sc nm (fun g => wpS g (.ite c a b)) (exec (.If t x y pos)) := fun md A env l₀ R V s₀ s H QN QR E ev fr S m q => by
  simp only [wpS] at q
  refine wpAny_If (wpAny_mono ((hc md A R V env env l₀ s₀ ev fr).2 H s (fun _ t H => if t then wpSs { g with md := md } a QN QR E V H else wpSs { g with md := md } b QN QR E V H) (fun cl H => E cl V H) S m q) (fun u s' z => ?_) fun _ _ z => te_tx fr z)
  obtain ⟨v, H', S', m', q', _⟩ := z
  cases u with
  | true => exact ha md A env l₀ R V s₀ s' H' QN QR E ev fr S' m' (by simpa using q')
  | false => exact hb md A env l₀ R V s₀ s' H' QN QR E ev fr S' m' (by simpa using q')

theorem ss_nil : SOk g sc nm (fun g => wpSs g []) (execs []) := fun md A env l₀ R V s₀ s H QN QR E ev fr S m q => by
  simp only [wpSs] at q
  exact wpAny_execs_nil ⟨R, V, H, .refl, fr, S, m, q⟩
theorem ss_cons {st : S} {r : List S} {t : Stmt} {u : List Stmt} (h : SOk g sc nm (fun g => wpS g st) (exec t)) (hr : SOk g sc nm (fun g => wpSs g r) (execs u)) : SOk g sc nm (fun g => wpSs g (st :: r)) (execs (t :: u)) :=
  fun md A env l₀ R V s₀ s H QN QR E ev fr S m q => by
  simp only [wpSs] at q
  refine wpAny_execs_cons (wpAny_mono (h md A env l₀ R V s₀ s H _ QR E ev fr S m q) (fun f s' z => ?_) fun _ _ z => z)
  cases f with
  | next =>
    obtain ⟨R', V', H', r', f', S', m', q'⟩ := z
    exact wpAny_mono (hr md A env l₀ R' V' s₀ s' H' QN QR E (ev.step r') f' S' m' q') (fun _ _ z => z.trans r') fun _ _ z => z.trans r'
  | ret v => exact z
  | brk => exact z
  | cont => exact z

/-! loops -/
theorem came_back {M : Model} {A : Around} {env : Env} {R : RR} {H : AHeap} {a : Addr} {cl : String} {s : Shared} {E : Value → Shared → Prop} (hf : env.frame = some env.locals) (X : ExcSt g.c R H a cl (rawInt env.locals) s.heap)
    (q : ∀ h', ExcSt g.c R H a cl (rawInt env.locals) h' → E (.ref a) { s with heap := h' }) : cameBackBy M A env E (.ref a) s := by
  unfold cameBackBy
  have X' := X
  obtain ⟨st, re, he, be, ob, kn⟩ := X'
  cases ob with
  | traced h1 h2 h3 h4 h5 h6 h7 h8 h9 h10 h11 h12 h13 =>
    rename_i oe vs T oT ts a0
    refine wpAny_bind (wpAny_field h1 h3 h5 ?_)
    rw [if_neg (show ¬ ((Value.ref T == Value.none) = true) from by simp)]
    rw [hf]
    exact exc_flight X (by simp [rawInt]) fun h' X₂ => q h' X₂

theorem noted_came {md : Bool} {A : Around} {env : Env} {l₀ : List Env} {R : RR} {s₀ s : Shared} {E : String → VV → AHeap → Prop} {e : Value} {M : Model} (ev : Ev { g with md := md } A R env l₀) (h : TX g env sc nm R s₀ E e s) :
    notedBy M A env (fun e s' => cameBackBy M A env (TX g env sc nm R s₀ E) e s') e s := by
  obtain ⟨a, cl, R', V', H', fl, rfl, r, fr, hfl, X, m, q⟩ := h
  refine exc_note ev.aok.frames (r.stk ev.stk) X hfl fun h₁ X₁ => ?_
  refine came_back (g := g) (s := { s with heap := h₁ }) (ev.stk env (.head _)).frame X₁ fun h₂ X₂ => ?_
  exact ⟨a, cl, R', V', H', _, rfl, r, fr, .inr (.inr rfl), X₂, m.trans ⟨_, _, rfl⟩, q⟩

theorem s_while {c : X} {b : List S} {t : PySem.Expr} {x : List Stmt} {pos : Pos} (hc : XMd g sc nm c t) (hb : SOk g sc nm (fun g => wpSs g b) (execs x)) : SOk g sc nm (fun g => wpS g (.while c b)) (exec (.While t x [] pos)) :=
  fun md A env l₀ R V s₀ s H QN QR E ev fr S m q => by
  simp only [wpS, WWhile] at q
  obtain ⟨_, I, ⟨n, hI⟩, hstep⟩ := q
  refine wpAny_While (codeAny_whileLoop (fun n s => ∃ R' V' H', RStep env R R' ∧ Frm R' env sc nm V' ∧ St g.c R' H' s.heap ∧ Sm s₀ s ∧ I n V' H') ?_ n ⟨R, V, H, .refl, fr, S, m, hI⟩)
  rintro n s₁ ⟨R', V', H', r, f', S', m', hi⟩
  have ev' := ev.step r
  refine wpAny_mono ((hc md A R' V' env env l₀ s₀ ev' f').2 H' s₁ (fun _ b₁ H'' => if b₁ then wpSs { g with md := md } b (fun V₂ H₂ => ∃ m, m < n ∧ I m V₂ H₂) QR E V' H'' else QN V' H'') (fun cl H => E cl V' H) S' m' (hstep n V' H' hi)) (fun u s₂ z => ?_) fun _ _ z => noted_came ev (TX.trans r (te_tx f' z))
  obtain ⟨v, H₂, S₂, m₂, q₂, _⟩ := z
  cases u with
  | true =>
    simp only [if_true] at q₂ ⊢
    refine wpAny_mono (hb md A env l₀ R' V' s₀ s₂ H₂ _ QR E ev' f' S₂ m₂ q₂) (fun fl s₃ z => ?_) fun _ _ z => noted_came ev (TX.trans r z)
    cases fl with
    | next =>
      obtain ⟨R₃, V₃, H₃, r₃, f₃, S₃, m₃, k, hk, q₃⟩ := z
      exact ⟨k, hk, R₃, V₃, H₃, r.trans r₃, f₃, S₃, m₃, q₃⟩
    | ret v => exact TF.trans r z
    | brk => exact z.elim
    | cont => exact z.elim
  | false =>
    simp only [Bool.false_eq_true, if_false] at q₂ ⊢
    exact wpAny_execs_nil ⟨R', V', H₂, r, f', S₂, m₂, q₂⟩

theorem RStep.drop {env : Env} {R R' : RR} {a : Addr} (x : RStep env R R') : RStep env (rdrop R a) (rdrop R' a) := fun b => by
  by_cases z : b = a
  · subst z; left; rw [rdrop_same, rdrop_same]
  · rw [rdrop_other z, rdrop_other z]; exact x b

theorem folded_plain {iter : PySem.Expr} {env : Env} (h : notComp iter = true) (x : Value) : foldedSetIterable iter env x = pure x := by
  cases iter <;> first | rfl | cases h

theorem s_for {i : Nat} {it : X} {b : List S} {tg iter : PySem.Expr} {x : List Stmt} {pos : Pos} (C : g.c.Ok mg mb) (nd : nm.Nodup) (hn : notComp iter = true) (ht : tgtOk sc nm i tg = true) (hi : XMd g sc nm it iter) (hb : SOk g sc nm (fun g => wpSs g b) (execs x)) :
    SOk g sc nm (fun g => wpS g (.for (.var i) it b)) (exec (.For tg iter x [] pos)) := fun md A env l₀ R V s₀ s H QN QR E ev fr S m q => by
  simp only [wpS] at q
  obtain ⟨hmd, q⟩ := q
  subst hmd
  unfold tgtOk at ht
  split at ht
  · rename_i id p
    simp only [Bool.and_eq_true, beq_iff_eq] at ht
    refine wpAny_For (wpAny_mono ((hi true A R V env env l₀ s₀ ev fr).1 H s _ (fun cl H => E cl V H) S m q) (fun u s₁ z => ?_) fun _ _ z => te_tx fr z) (folded_plain hn)
    obtain ⟨av, H₁, hv, S₁, m₁, xs, hxs, I, hI, hstep⟩ := z
    refine it_new C hv S₁ hxs fun s₂ a o ha hHa ho S₂ m₂ => ?_
    have hsv : ∀ y, av = .str y → PyData.strOk y = true := by rintro y rfl; cases hv; assumption
    have hna : ∀ b, (∃ m, R b = some (.ns m)) ∨ (∃ x, R b = some (.cell x)) → b ≠ a := by rintro b (⟨m, h⟩ | ⟨m, h⟩) rfl <;> (rw [ha] at h; cases h)
    have ft : Frm (rup R a (.obj o)) env sc nm V := fr.congr fun b hb => rup_other (hna b hb)
    refine codeAny_forLoop (fun n s => ∃ k R' V' H' o', n = xs.length - k ∧ k ≤ xs.length ∧ R' a = some (.obj o') ∧ ItObj H' av k o' ∧ RStep env R (rdrop R' a) ∧ Frm R' env sc nm V' ∧ St g.c R' H' s.heap ∧ Sm s₀ s ∧ I k V' H') ?_ xs.length
      ⟨0, rup R a (.obj o), V, H₁, o, by omega, Nat.zero_le _, rup_same, ho, fun b => .inl ?_, ft, S₂, m₁.trans m₂, hI⟩
    · rintro n s₃ ⟨k, R', V', H', o', hn', hk, hR', hit, hrs, f', S', m', hi'⟩
      obtain ⟨hsame, hend, hturn⟩ := hstep k V' H' hi'
      have hxs' : itemsOf H' av = some xs := by
        rw [← hxs]
        cases av with
        | ref a' => simp only [sameIt] at hsame; simp only [itemsOf]; rw [hsame]
        | _ => rfl
      have hdrop : ∀ R₂ : RR, RStep env R (rdrop R₂ a) → Stk R₂ (env :: l₀) := fun R₂ r e he => by
        have F := ev.stk e he
        obtain ⟨mm, hm⟩ := F.ns
        obtain ⟨m', hm'⟩ := r.ns hm
        exact ⟨F.kind, F.frame, F.gen, F.co, F.blt, F.glob, m', rdrop_le _ _ hm'⟩
      have evd : ∀ R₂ : RR, RStep env R (rdrop R₂ a) → Ev { g with md := true } A R₂ env l₀ := fun R₂ r => ⟨ev.aok, hdrop R₂ r⟩
      have frd : ∀ {R₂ : RR} {V₂ : VV} {o₂ : Obj}, R₂ a = some (.obj o₂) → Frm R₂ env sc nm V₂ → Frm (rdrop R₂ a) env sc nm V₂ := fun {R₂ V₂ o₂} h f => f.congr fun b hb => rdrop_other fun z => by
        rw [z, h] at hb; rcases hb with ⟨_, hb⟩ | ⟨_, hb⟩ <;> cases hb
      have fin : ∀ {e : Value} {s' : Shared} {R₂ : RR} {o₂ : Obj}, R₂ a = some (.obj o₂) → RStep env R (rdrop R₂ a) → TX g env sc nm R₂ s₀ E e s' → TX g env sc nm R s₀ E e s' := by
        rintro e s' R₂ o₂ h r ⟨b, cl, R₃, V₃, H₃, fl, e1, r₃, f₃, hfl, X, m, q⟩
        exact ⟨b, cl, rdrop R₃ a, V₃, H₃, fl, e1, r.trans r₃.drop, frd (r₃.obj h) f₃, hfl, X.weaken rdrop_le, m, q⟩
      rcases Nat.lt_or_ge k xs.length with hlt | hge
      · obtain ⟨xv, hx⟩ : ∃ xv, xs[k]? = some xv := ⟨xs[k], by simp [hlt]⟩
        refine it_item hxs' hx hit hR' S' hsv fun s₄ u₄ o₂ hvx ho₂ S₄ m₄ => ?_
        have r₄ : RStep env R (rdrop (rup R' a (.obj o₂)) a) := by
          have : rdrop (rup R' a (.obj o₂)) a = rdrop R' a := by
            funext b
            by_cases z : b = a
            · subst z; rw [rdrop_same, rdrop_same]
            · rw [rdrop_other z, rdrop_other z, rup_other z]
          rw [this]; exact hrs
        have f₄ : Frm (rup R' a (.obj o₂)) env sc nm V' := f'.congr fun b hb => rup_other fun z => by
          rw [z, hR'] at hb; rcases hb with ⟨_, hb⟩ | ⟨_, hb⟩ <;> cases hb
        have hst := hturn xv hx
        simp only [wtg] at hst
        refine wpAny_assign_Name (st_name f₄ nd ht.1 ht.2 hvx S₄ fun s₅ R₅ r₅ f₅ S₅ m₅ => ?_)
        have h₅ := r₅.obj (rup_same (R := R'))
        have rr := r₄.trans r₅.drop
        refine wpAny_mono (hb true A env l₀ R₅ _ s₀ s₅ H' _ QR E (evd R₅ rr) f₅ S₅ ((m'.trans m₄).trans m₅) hst.2) (fun fl s₆ z => ?_) fun _ _ z => noted_came ev (fin h₅ rr z)
        cases fl with
        | next =>
          obtain ⟨R₆, V₆, H₆, r₆, f₆, S₆, m₆, q₆⟩ := z
          refine ⟨xs.length - (k + 1), by omega, k + 1, R₆, V₆, H₆, o₂, rfl, by omega, r₆.obj h₅, ?_, rr.trans r₆.drop, f₆, S₆, m₆, q₆⟩
          have hs6 := (hstep (k + 1) V₆ H₆ q₆).1
          cases av with
          | ref a' =>
            simp only [sameIt] at hsame hs6
            exact ho₂.same (by simp only [sameIt]; rw [hs6, hsame])
          | str y => exact ho₂
          | _ => exact ho₂
        | ret v =>
          obtain ⟨R₆, av₆, H₆, r₆, hv₆, S₆, m₆, q₆⟩ := z
          exact ⟨rdrop R₆ a, av₆, H₆, rr.trans r₆.drop, hv₆, S₆.weaken rdrop_le, m₆, q₆⟩
        | brk => exact z.elim
        | cont => exact z.elim
      · obtain ⟨mm, hmm, _⟩ := f'.ns
        refine it_end (ev.aok.hand rfl) hxs' (by simp; omega) hit hR' hmm S' fun s₄ S₄ m₄ => ?_
        exact wpAny_execs_nil ⟨rdrop R' a, V', H', hrs, frd hR' f', S₄, m'.trans m₄, hend (by omega)⟩
    · by_cases z : b = a
      · subst z; rw [rdrop_same, ha]
      · rw [rdrop_other z, rup_other z]
  · cases ht
end
end Mine

namespace Mine

section
variable {g : Gx} {sc : Scope} {nm : List Str} {mg mb : Str → Option Value}

theorem DRs.store {es : List (Str × AV)} {kvs : List (Str × Value)} (h : DRs es kvs) {k : Str} {x : AV} {u : Value} (hk : PyData.strOk k = true) (hv : VR x u) : DRs (putS es k x) (stored kvs k u) := by
  have ha : (lookS es k).isSome = kvs.any (fun kv => kv.1 = k) := by
    induction h with
    | nil => rfl
    | cons h1 h2 _ ih =>
      unfold lookS at ih ⊢
      rw [List.find?_cons, List.any_cons]
      split
      · rename_i z; simp at z; simp [z]
      · rename_i z; simp at z; rw [ih]; simp [z]
  unfold putS stored
  rw [ha]
  split
  · clear ha
    rename_i z; clear z
    induction h with
    | nil => exact .nil
    | cons h1 h2 _ ih =>
      rename_i k' a v as vs _
      simp only [List.map_cons]
      by_cases z : k' = k
      · simp only [z, if_true]; exact .cons hk hv ih
      · simp only [z, if_false]; exact .cons h1 h2 ih
  · clear ha
    rename_i z; clear z
    induction h with
    | nil => exact .cons hk hv .nil
    | cons h1 h2 _ ih => exact .cons h1 h2 ih

theorem s_setitem {A : Around} {R : RR} {H : AHeap} {s s₀ : Shared} {E : Value → Shared → Prop} {p : Addr} {k : Str} {t : Tok} {ep : Nat} {es : List (Str × AV)} {x : AV} {u : Value} {Q : Unit → Shared → Prop} (hv : VR x u) (hk : PyData.strOk k = true) (e : H p = some (.dict ep es)) (hz : es.length ≤ sizeLine)
    (S : St g.c R H s.heap) (m : Sm s₀ s) (q : ∀ s' ep', St g.c R (up H p (.dict ep' (putS es k x))) s'.heap → Sm s₀ s' → Q () s') : wpAny (model g.c.prog g.c.w) A (setItem (.ref p) (.str k t) u) Q E s := by
  obtain ⟨kvs, hd, hr⟩ := isDict_of S e
  refine wpAny_setItem_pairs (strKind_is _ _ k t) hd.dictOf (fun h' hd' hs => ?_) (by rw [hr.length]; exact hz)
  obtain ⟨ep', hat⟩ := hd'.dictAt
  exact q _ ep' (S.setObj e (by intro _ _ z; cases z) hs fun D => ⟨_, hat, hr.store hk hv⟩) (m.step _ _)

theorem s_asgn_sub {a i : X} {e : X} {o ix v : PySem.Expr} {p pos : Pos} (hn : notComp v = true) (hns : noSlice ix = true) (ha : XMd g sc nm a o) (hi : XMd g sc nm i ix) (hx : XMd g sc nm e v) : SOk g sc nm (fun g => wpS g (.assign (.sub a i) e)) (exec (.Assign [.Subscript o ix p] v pos)) :=
  fun md A env l₀ R V s₀ s H QN QR E ev fr S m q => by
  simp only [wpS, wpT] at q
  refine wpAny_Assign_Subscript (wpAny_mono ((hx md A R V env env l₀ s₀ ev fr).1 H s _ _ S m q) (fun u s₁ z => ?_) fun _ _ z => te_tx fr z) (swaps_plain hn)
  obtain ⟨av, H₁, hv, S₁, m₁, q₁⟩ := z
  refine wpAny_mono ((ha md A R V env env l₀ s₀ ev fr).1 H₁ s₁ _ _ S₁ m₁ q₁) (fun ov s₂ z => ?_) fun _ _ z => te_tx fr z
  obtain ⟨ao, H₂, ho, S₂, m₂, q₂⟩ := z
  refine wpAny_mono ((hi md A R V env env l₀ s₀ ev fr).1 H₂ s₂ _ _ S₂ m₂ q₂) (fun iv s₃ z => ?_) fun _ _ z => te_tx fr z
  obtain ⟨ai, H₃, hiv, S₃, m₃, q₃⟩ := z
  split at q₃
  · cases ho
    cases hiv with
    | str k t hk =>
    split at q₃
    · rename_i ep es e
      exact s_setitem hv hk e q₃.1 S₃ m₃ fun s' ep' S' m' => ⟨R, V, _, .refl, fr, S', m', q₃.2 ep'⟩
    · exact q₃.elim
  · exact q₃.elim

theorem s_raise {cl : String} {msg : Str} {fe : PySem.Expr} {k : Nat} {mp cp pos : Pos} (C : g.c.Ok mg mb) (PO : PgOk g.c) (hn : nameIs sc cl fe = true) (hx : (g.c.P.excs.lookup cl).isSome = true) : SOk g sc nm (fun g => wpS g (.raise cl msg)) (exec (.Raise (some (.Call fe [.Constant (.str msg) k mp] [] cp)) none pos)) :=
  fun md A env l₀ R V s₀ s H QN QR E ev fr S m q => by
  simp only [wpS] at q
  obtain ⟨hmd, q⟩ := q
  subst hmd
  obtain ⟨r1, r2, _⟩ := PO.excR cl hx
  obtain ⟨pp, loose, T⟩ := C.top
  obtain ⟨tl, N, nmm, qn, bs, hdct, sn, sub, ab, col, dd, k0, k1, k2, k3, k5, mN, hC, hN, hni, TL⟩ := ((own_of_in C.kin T r1 r2).keeps S.stays).obj
  have FB := PySem.F.excBase_ValueError
  obtain ⟨id, p, rfl⟩ := nameIs_name hn
  refine wpAny_Raise_call_subT (C := g.c.ca cl) (nm := nmm) (q := qn) (N := N) (bs := bs) (bm := tl) (hdct := hdct) (sn := sn) (sub := sub) (ab := ab) (col := col) (dd := dd) (k0 := k0) (k1 := k1) (k2 := k2) (k3 := k3) (k5 := k5)
    FB (mN := mN) (TL.hasType FB.hasBase) (ev.aok.hand rfl) rfl hni (glob_K C fr S hn r1 ⟨rfl, ?_⟩)
  refine evalArgs_plain (spliced_cons (wpAny_Constant_str (k := k) (pos := mp) (spliced_nil ⟨rfl, by show 1 ≤ sizeLine; decide, hC, hN, TL, fun h' e hm => ?_⟩)))
  obtain ⟨t, ht, _⟩ := hm.there
  obtain ⟨mm, hmm, _⟩ := fr.ns
  have S' : St g.c R H h' := by
    refine S.noted (ls := []) (fun a ha => by cases ha) (fun b o z _ => hm.keeps b o z) (fun b o z _ => ⟨o.slots, hm.keeps b o z⟩) ?_
    obtain ⟨oL, es, ep, w, _⟩ := (S.res _ _ hmm).2
    have h1 := leN (S.res _ _ hmm).1
    have h2 := lts (hm.keeps _ _ w)
    exact Nat.le_of_lt (Nat.lt_of_le_of_lt h1 h2)
  refine ⟨e, cl, R, V, H, .ellipsis, rfl, .refl, fr, .inl rfl, ⟨S', ?_, ?_, ?_, .fresh ht, hx⟩, m.step _ _, q⟩
  · cases z : R e with
    | none => rfl
    | some r => obtain ⟨ob, w⟩ := (S.res _ _ z).2.there; have := hm.new; rw [show s.heap.get? e = some ob from w] at this; cases this
  · cases z : H e with
    | none => rfl
    | some r => obtain ⟨D, s4⟩ := S.rep; obtain ⟨ob, w⟩ := (s4.rep _ _ z).there; have := hm.new; rw [show s.heap.get? e = some ob from w] at this; cases this
  · cases z : g.c.base.get? e with
    | none => rfl
    | some r => have w := S.stays _ _ z; have := hm.new; rw [show s.heap.get? e = some r from w] at this; cases this

/-! try -/
theorem exc_match {M : Model} {A : Around} {E : Value → Shared → Prop} {s : Shared} {K : Frag} {e C D : Addr} {oe : Obj} {r : Bool} {Q : Bool → Shared → Prop} (X : K.In s.heap) (he : s.heap.get? e = some oe) (hc : oe.cls = .ref C)
    (h1 : instIn K (.ref D) (.type "tuple") = some false) (h2 : subIn K (.ref D) (.type "BaseException") = some true) (h3 : (clsIn K D).isSome = true) (h4 : subIn K (.ref C) (.ref D) = some r) (q : Q r s) :
    wpAny M A (excMatches (.ref e) (.ref D)) Q E s := by
  obtain ⟨hh, gg, d, tt, os⟩ := s
  have L1 := looks_instIn (M := M) X h1
  have L2 := looks_subIn (M := M) X h2
  have L4 := looks_subIn (M := M) X h4
  have LT : Looks M hh (typeOf (.ref e)) (.ref C) := by rw [← hc]; exact (Looks.ld he).andThen .now
  obtain ⟨cd, h3⟩ := Option.isSome_iff_exists.mp h3
  unfold excMatches
  refine wpAny_bind (L1.at ?_)
  simp only [Bool.false_eq_true, if_false]
  refine wpAny_bind (wpAny_pure (wpAny_bind ?_))
  have L5 : Looks M hh (isExcClass (.ref D)) true := by
    unfold clsIn at h3
    split at h3
    · rename_i ho
      have Lt : Looks M hh (isType (.ref D)) true := (Looks.ld (part := none) (X _ _ ho)).andThen .now
      intro A' Q' E' s' k' q'
      unfold isExcClass
      refine wpAny_bind (Lt A' _ E' s' k' ?_)
      rw [if_pos rfl]
      exact L2 A' _ E' s' k' q'
    · cases h3
  rw [List.forIn_cons]
  refine wpAny_bind (wpAny_bind (L5.at ?_))
  simp only [Bool.not_true, Bool.false_eq_true, if_false]
  refine wpAny_pure ?_
  dsimp only
  rw [List.forIn_nil]
  refine wpAny_pure (wpAny_bind (LT.at (wpAny_bind ?_)))
  rw [List.forIn_cons]
  refine wpAny_bind (wpAny_bind (L4.at ?_))
  cases r with
  | true =>
    simp only [if_true]
    exact wpAny_pure (wpAny_pure (wpAny_pure q))
  | false =>
    simp only [Bool.false_eq_true, if_false]
    refine wpAny_pure ?_
    dsimp only
    rw [List.forIn_nil]
    exact wpAny_pure (wpAny_pure q)

end
end Mine

namespace Mine

section
variable {g : Gx} {sc : Scope} {nm : List Str} {mg mb : Str → Option Value}

def HdOk (g : Gx) (sc : Scope) (nm : List Str) : Hd → ExceptHandler → Prop
  | .mk cl nmi b, .ExceptHandler (some t) name (x :: body) _ => nameIs sc cl t = true ∧ (g.c.P.excs.lookup cl).isSome = true ∧ SOk g sc nm (fun g => wpSs g b) (execs (x :: body)) ∧ (match nmi, name with
      | none, none => True
      | some i, some n => nm[i]? = some n ∧ sc.names.lookup n = some .local
      | _, _ => False)
  | _, _ => False
inductive EachH (P : Hd → ExceptHandler → Prop) : List Hd → List ExceptHandler → Prop
  | nil : EachH P [] []
  | cons {x e xs es} : P x e → EachH P xs es → EachH P (x :: xs) (e :: es)

theorem ev_mark {A : Around} {R : RR} {env : Env} {l₀ : List Env} {e : Value} (ev : Ev { g with md := true } A R env l₀) : Ev { g with md := false } (A.mark (some e)) R env l₀ :=
  ⟨⟨ev.aok.frames, ev.aok.depth, ev.aok.units, fun h => by cases h⟩, ev.stk⟩

theorem tx_false {env : Env} {R : RR} {s₀ s : Shared} {e : Value} (h : TX g env sc nm R s₀ (fun _ _ _ => False) e s) {P : Prop} : P := by
  obtain ⟨_, _, _, _, _, _, _, _, _, _, _, _, q⟩ := h
  exact q.elim

theorem name_goes {M : Model} {A : Around} {E : Value → Shared → Prop} {s : Shared} {R : RR} {H : AHeap} {env : Env} {n : Str} {pos : Pos} {m : Str → Option Value} {Q : Unit → Shared → Prop} (hl : env.kindOf n = some .local) (hk : env.scope.kind = .function) (hm : R env.locals = some (.ns m)) (S : St g.c R H s.heap)
    (q : ∀ s' v, St g.c (rup R env.locals (.ns fun x => if x = n then v else m x)) H s'.heap → Sm s s' → Q () s') : wpAny M A (do bindName env n .none; unbindBehindTheSuite env n pos) Q E s :=
  wpAny_nameGoes_keeps hl (S.res _ _ hm).2 (by rw [hk]; rfl) fun h' v hn hs => q _ v (S.setRes (r' := .ns _) hm hs hn) ⟨_, _, rfl⟩

theorem locals_step {env : Env} {R : RR} {m m' : Str → Option Value} (hm : R env.locals = some (.ns m)) : RStep env R (rup R env.locals (.ns m')) := fun b => by
  by_cases z : b = env.locals
  · subst z; exact .inr (.inl ⟨rfl, _, _, hm, rup_same⟩)
  · exact .inl (rup_other z)

theorem hs_ok (C : g.c.Ok mg mb) (PO : PgOk g.c) (nd : nm.Nodup) : ∀ {hs : List Hd} {es : List ExceptHandler}, EachH (HdOk g sc nm) hs es → ∀ (A : Around) (env : Env) (l₀ : List Env) (R : RR) (V : VV) (s₀ s : Shared) (H : AHeap) (e : Addr) (cl : String) (QN : VV → AHeap → Prop) (QR : AV → AHeap → Prop) (E : String → VV → AHeap → Prop),
    Ev { g with md := true } A R env l₀ → Frm R env sc nm V → ExcSt g.c R H e cl .none s.heap → Sm s₀ s → wpHs { g with md := true } hs cl QN QR E V H →
    wpAny (model g.c.prog g.c.w) A (handleBy (.ref e) env es) (TF g env sc nm R s₀ QN QR) (TX g env sc nm R s₀ E) s
  | _, _, .nil => fun A env l₀ R V s₀ s H e cl QN QR E ev fr X m q => by simp only [wpHs] at q
  | _, _, .cons (x := .mk c nmi b) (e := .ExceptHandler ty name body pos) h r => fun A env l₀ R V s₀ s H e cl QN QR E ev fr X m q => by
    simp only [wpHs, wpH] at q
    cases ty with
    | none => exact h.elim
    | some t =>
    cases body with
    | nil => exact h.elim
    | cons b₀ body =>
    obtain ⟨h1, h2, h3, h4⟩ := h
    obtain ⟨r1, r2, r3, r4, r5⟩ := PO.excR c h2
    obtain ⟨o, vs, o1, o2, o3⟩ := X.ob.obj
    refine wpAny_handleBy_cons (codeAny_handlers_test (glob_K C fr X.st h1 r1 ?_)) (by intro z; cases z)
    refine exc_match (C.kin.keeps X.st.stays) o1 o2 r3 r4 r5 (PO.excC cl c X.kn h2) ?_
    cases hsub : excSub g.c.P cl c with
    | false =>
      simp only [hsub, Bool.false_eq_true, if_false] at q ⊢
      exact hs_ok C PO nd r A env l₀ R V s₀ s H e cl QN QR E ev fr X m q
    | true =>
      simp only [hsub, if_true] at q ⊢
      cases nmi with
      | none =>
        cases name with
        | some => exact h4.elim
        | none =>
        refine codeAny_handlers_suite (exc_flight X (by simp) fun h' X' => ?_)
        refine wpAny_mono (h3 false (A.mark (some (.ref e))) env l₀ R V s₀ { s with heap := h' } H QN QR (fun _ _ _ => False) (ev_mark ev) fr X'.st (m.heap h') q) (fun f s' z => z) fun _ _ z => tx_false z
      | some i =>
        cases name with
        | none => exact h4.elim
        | some n =>
        obtain ⟨h5, h6⟩ := h4
        obtain ⟨hlt, q⟩ := q e X.he
        refine codeAny_handlers_suite_as (exc_flight X (by simp) fun h' X' => ?_)
        refine st_name fr nd h5 (by unfold locKind; rw [h6]) (.ref e) X'.caught fun s₂ R₂ r₂ f₂ S₂ m₂ => ?_
        refine wpAny_mono (h3 false (A.mark (some (.ref e))) env l₀ R₂ _ s₀ s₂ _ _ QR (fun _ _ _ => False) (ev_mark (ev.step r₂)) f₂ S₂ ((m.heap h').trans m₂) q) (fun f s₃ z => ?_) fun _ _ z => tx_false z
        have hl := fr.lco n h6
        cases f with
        | next =>
          obtain ⟨R₃, V₃, H₃, r₃, f₃, S₃, m₃, q₃⟩ := z
          obtain ⟨mm, hmm, _⟩ := f₃.ns
          exact name_goes hl fr.kind hmm S₃ fun s₄ v S₄ m₄ => ⟨_, _, H₃, (r₂.trans r₃).trans (locals_step hmm), f₃.local' nd h5 hl hmm .none, S₄, m₃.trans m₄, q₃⟩
        | ret v =>
          obtain ⟨R₃, av, H₃, r₃, hv, S₃, m₃, q₃⟩ := z
          obtain ⟨mm, hmm, _⟩ := f₂.ns
          obtain ⟨mm', hmm'⟩ := r₃.ns hmm
          exact name_goes hl fr.kind hmm' S₃ fun s₄ w S₄ m₄ => ⟨_, av, H₃, (r₂.trans r₃).trans (locals_step hmm'), hv, S₄, m₃.trans m₄, q₃⟩
        | brk => exact z.elim
        | cont => exact z.elim

theorem s_try {b : List S} {hs : List Hd} {x : List Stmt} {h₀ : ExceptHandler} {es : List ExceptHandler} {pos : Pos} (C : g.c.Ok mg mb) (PO : PgOk g.c) (nd : nm.Nodup) (hb : SOk g sc nm (fun g => wpSs g b) (execs x)) (hh : EachH (HdOk g sc nm) hs (h₀ :: es)) :
    SOk g sc nm (fun g => wpS g (.try b hs)) (exec (.Try x (h₀ :: es) [] [] pos)) := fun md A env l₀ R V s₀ s H QN QR E ev fr S m q => by
  simp only [wpS] at q
  obtain ⟨hmd, q⟩ := q
  subst hmd
  refine wpAny_Try_except (wpAny_mono (hb true A env l₀ R V s₀ s H _ QR _ ev fr S m q) (fun f s₁ z => ?_) fun e s₁ z => ?_)
  · cases f with
    | next => exact wpAny_execs_nil z
    | ret v => exact z
    | brk => exact z
    | cont => exact z
  · obtain ⟨a, cl, R', V', H', fl, rfl, r, f', hfl, X, m', q'⟩ := z
    refine exc_note ev.aok.frames (r.stk ev.stk) X hfl fun h₁ X₁ => ?_
    refine exc_flight (s := { s₁ with heap := h₁ }) X₁ (by simp [rawInt]) fun h₂ X₂ => ?_
    exact wpAny_mono (hs_ok C PO nd hh A env l₀ R' V' s₀ { s₁ with heap := h₂ } H' a cl QN QR E (ev.step r) f' X₂ (m'.heap h₂) q') (fun _ _ z => z.trans r) fun _ _ z => z.trans r

variable (C : g.c.Ok mg mb) (PO : PgOk g.c) (nd : nm.Nodup)
include C PO nd in
mutual
theorem sS : ∀ (st : S) (t : Stmt), mtS g.c.P sc nm st t = true → SOk g sc nm (fun g => wpS g st) (exec t)
  | .assign t e, st, h => by
    simp only [mtS] at h
    split at h
    · rename_i tg v pos
      simp only [Bool.and_eq_true] at h
      obtain ⟨⟨h1, h2⟩, h3⟩ := h
      have hx : XMd g sc nm e v := fun md => sX (g := { g with md := md }) C PO e v true sc nm h3
      cases t with
      | var i => exact s_asgn_var nd h1 (by simpa only [mtT] using h2) hx
      | sub a i =>
        simp only [mtT] at h2
        split at h2
        · simp only [Bool.and_eq_true] at h2
          exact s_asgn_sub h1 h2.1.1 (fun md => sX (g := { g with md := md }) C PO a _ true sc nm h2.1.2) (fun md => sX (g := { g with md := md }) C PO i _ true sc nm h2.2) hx
        · cases h2
      | tup is => simp [mtT] at h2
      | attr a n => simp [mtT] at h2
    · cases h
  | .expr e, st, h => by
    simp only [mtS] at h
    split at h
    · simp only [Bool.and_eq_true] at h
      exact s_expr h.1 fun md => sX (g := { g with md := md }) C PO e _ true sc nm h.2
    · cases h
  | .ret e, st, h => by
    simp only [mtS] at h
    split at h
    · exact s_ret fun md => sX (g := { g with md := md }) C PO e _ true sc nm h
    · cases h
  | .ite c a b, st, h => by
    simp only [mtS] at h
    split at h
    · simp only [Bool.and_eq_true] at h
      exact s_if (fun md => sX (g := { g with md := md }) C PO c _ true sc nm h.1.1) (sSs a _ h.1.2) (sSs b _ h.2)
    · cases h
  | .while c b, st, h => by
    simp only [mtS] at h
    split at h
    · simp only [Bool.and_eq_true] at h
      exact s_while (fun md => sX (g := { g with md := md }) C PO c _ true sc nm h.1) (sSs b _ h.2)
    · cases h
  | .for t it b, st, h => by
    cases t with
    | var i =>
      simp only [mtS] at h
      split at h
      · simp only [Bool.and_eq_true] at h
        exact s_for C nd h.1.1.1 h.1.1.2 (fun md => sX (g := { g with md := md }) C PO it _ true sc nm h.1.2) (sSs b _ h.2)
      · cases h
    | tup is => simp [mtS] at h
  | .raise cl msg, st, h => by
    simp only [mtS] at h
    split at h
    · simp only [Bool.and_eq_true, beq_iff_eq] at h
      obtain ⟨⟨⟨h1, h2⟩, rfl⟩, h4⟩ := h
      exact s_raise C PO h1 h2
    · cases h
  | .try b hs, st, h => by
    simp only [mtS] at h
    split at h
    · simp only [Bool.and_eq_true] at h
      exact s_try C PO nd (sSs b _ h.1) (sHs hs _ h.2)
    · cases h
  | .pass, st, h => by
    simp only [mtS] at h
    split at h
    · exact s_pass
    · cases h
theorem sSs : ∀ (l : List S) (ts : List Stmt), mtSs g.c.P sc nm l ts = true → SOk g sc nm (fun g => wpSs g l) (execs ts)
  | [], ts, h => by
    simp only [mtSs, List.isEmpty_iff] at h
    subst h; exact ss_nil
  | st :: r, ts, h => by
    simp only [mtSs] at h
    split at h
    · simp only [Bool.and_eq_true] at h
      exact ss_cons (sS st _ h.1) (sSs r _ h.2)
    · cases h
theorem sHs : ∀ (l : List Hd) (ts : List ExceptHandler), mtHs g.c.P sc nm l ts = true → EachH (HdOk g sc nm) l ts
  | [], ts, h => by
    simp only [mtHs, List.isEmpty_iff] at h
    subst h; exact .nil
  | hd :: r, ts, h => by
    simp only [mtHs] at h
    split at h
    · simp only [Bool.and_eq_true] at h
      exact .cons (sH hd _ h.1) (sHs r _ h.2)
    · cases h
theorem sH : ∀ (hd : Hd) (t : ExceptHandler), mtH g.c.P sc nm hd t = true → HdOk g sc nm hd t
  | .mk cl nmi b, t, h => by
    simp only [mtH] at h
    split at h
    · simp only [Bool.and_eq_true] at h
      obtain ⟨⟨⟨h1, h2⟩, h3⟩, h4⟩ := h
      refine ⟨h1, h2, sSs b _ h3, ?_⟩
      split at h4 <;> simp_all
    · cases h
end
end
end Mine

namespace Mine

/-! ## arguments -/
theorem zip_lookup {ns : List Str} : ∀ {vs : List Value}, ns.length = vs.length → ∀ n ∈ ns, ((ns.zip vs).lookup n).isSome = true := by
  induction ns with
  | nil => intro vs _ n hn; cases hn
  | cons a r ih =>
    intro vs hl n hn
    cases vs with
    | nil => simp at hl
    | cons v vs =>
      simp only [List.zip_cons_cons, List.lookup_cons]
      cases hb : n == a with
      | true => rfl
      | false =>
        have hne : n ≠ a := by simpa using hb
        rcases List.mem_cons.mp hn with h | h
        · exact absurd h hne
        · exact ih (by simpa using hl) n h
theorem fm_congr {α β : Type} {f g : α → Option β} : ∀ {l : List α}, (∀ x ∈ l, f x = g x) → l.filterMap f = l.filterMap g
  | [], _ => rfl
  | a :: r, h => by rw [List.filterMap_cons, List.filterMap_cons, h a (.head _), fm_congr fun x hx => h x (.tail _ hx)]
theorem zip_filterMap {ns : List Str} : ∀ {vs : List Value}, ns.Nodup → ns.length = vs.length → (ns.filterMap fun n => ((ns.zip vs).lookup n).map fun v => (n, v)) = ns.zip vs := by
  induction ns with
  | nil => intro vs _ _; rfl
  | cons a r ih =>
    intro vs hn hl
    cases vs with
    | nil => simp at hl
    | cons v vs =>
      obtain ⟨h1, h2⟩ := List.nodup_cons.mp hn
      simp only [List.zip_cons_cons, List.filterMap_cons, List.lookup_cons, beq_self_eq_true, Option.map_some]
      congr 1
      refine Eq.trans ?_ (ih h2 (by simpa using hl))
      apply fm_congr
      intro n hn'
      have hne : (n == a) = false := by
        apply beq_eq_false_iff_ne.mpr
        rintro rfl; exact h1 hn'
      simp only [hne]

theorem bind_plain {s : Shared} {fd : FuncData} {vals : List Value} (h1 : fd.params.posonlyargs = []) (h2 : fd.params.vararg = none) (h3 : fd.params.kwonlyargs = []) (h4 : fd.params.kwarg = none) (h5 : fd.defaults = .none)
    (h6 : (fd.params.args.map (·.arg)).Nodup) (h7 : fd.params.args.length = vals.length) : BindsTo s fd ⟨vals, []⟩ ((fd.params.args.map (·.arg)).zip vals) := by
  have hl : (fd.params.args.map (·.arg)).length = vals.length := by simpa using h7
  have e1 : (((fd.params.args.map (·.arg)).take (fd.params.args.map (·.arg)).length).filter fun n => (((fd.params.args.map (·.arg)).zip vals).lookup n).isNone) = [] := by
    rw [List.take_length, List.filter_eq_nil_iff]
    intro n hn
    have := zip_lookup hl n hn
    simpa using this
  intro M A E Q q
  unfold bindArgs
  simp only [h1, h2, h3, h4, h5, List.map_nil, List.nil_append, List.append_nil]
  refine wpAny_bind ?_
  rw [List.forIn_nil]
  refine wpAny_pure (wpAny_bind (wpAny_pure (a := (none : Option (Array Value))) ?_))
  simp only [Option.getD_none, List.drop_nil, List.length_nil, Nat.sub_zero, List.drop_length]
  rw [if_neg (by simp [h7]), if_neg (by rw [e1]; simp)]
  refine wpAny_bind ?_
  rw [List.zip_nil_left, List.forIn_nil]
  refine wpAny_pure (wpAny_bind ?_)
  rw [List.forIn_nil]
  refine wpAny_pure ?_
  rw [if_neg (by simp)]
  refine wpAny_pure ?_
  rw [zip_filterMap h6 hl]
  exact q

theorem St.news {c : Cx} {R R' : RR} {H : AHeap} {h h' : Heap} (S : St c R H h) (k : ∀ b ob, h.get? b = some ob → h'.get? b = some ob) (hs : h.objs.size ≤ h'.objs.size)
    (hR : ∀ b, R' b = R b ∨ (h.objs.size ≤ b ∧ ∃ r, R' b = some r ∧ ResAt h' b r)) : St c R' H h' := by
  have S' := S.keeps k hs
  obtain ⟨D0, s40⟩ := S.rep
  have hb := S.size
  refine ⟨S'.stays, S'.size, fun b r e => ?_, D0, ⟨fun a ao e => (s40.rep a ao e).agree (fun _ => k _ _) fun _ _ _ => ⟨rfl, fun _ => k _ _⟩, fun a ao e => ?_, fun a cl es e => ?_, s40.inj⟩⟩
  · rcases hR b with q | ⟨q1, r', q2, q3⟩
    · rw [q] at e; exact S'.res b r e
    · rw [q2] at e; cases e; exact ⟨by have := leN q1; omega, q3⟩
  · refine ⟨(s40.above a ao e).1, ?_⟩
    rcases hR a with q | ⟨q1, _⟩
    · rw [q]; exact (s40.above a ao e).2
    · obtain ⟨ob, w⟩ := (s40.rep a ao e).there
      have := lts w; have := leN q1; omega
  · obtain ⟨y1, y2, y3⟩ := s40.dict a cl es e
    refine ⟨y1, ?_, y3⟩
    rcases hR (D0 a) with q | ⟨q1, _⟩
    · rw [q]; exact y2
    · obtain ⟨_, ents, n, w, _⟩ := s40.rep a _ e
      have := lts w; have := leN q1; omega

theorem bindL_out {kf : Str → Option NameKind} : ∀ {bs : List (Str × Value)} {m : Str → Option Value} {n : Str}, n ∉ bs.map (·.1) → bindL kf bs m n = m n
  | [], _, _, _ => rfl
  | (a, v) :: r, m, n, h => by
    simp only [List.map_cons, List.mem_cons, not_or] at h
    unfold bindL
    rw [bindL_out h.2]
    split
    · simp [h.1]
    · rfl
theorem bindC_out {kf : Str → Option NameKind} : ∀ {bs : List (Str × Value)} {m : Str → Option Value} {n : Str}, n ∉ bs.map (·.1) → bindC kf bs m n = m n
  | [], _, _, _ => rfl
  | (a, v) :: r, m, n, h => by
    simp only [List.map_cons, List.mem_cons, not_or] at h
    unfold bindC
    rw [bindC_out h.2]
    split
    · rfl
    · simp [h.1]
theorem bindL_get {kf : Str → Option NameKind} : ∀ {bs : List (Str × Value)} {m : Str → Option Value} {n : Str} {v : Value} {i : Nat}, (bs.map (·.1)).Nodup → bs[i]? = some (n, v) → kf n = some .local → bindL kf bs m n = some v
  | (a, w) :: r, m, n, v, 0, hn, e, hk => by
    simp only [List.getElem?_cons_zero, Option.some.injEq, Prod.mk.injEq] at e
    obtain ⟨rfl, rfl⟩ := e
    simp only [List.map_cons, List.nodup_cons] at hn
    unfold bindL
    rw [bindL_out hn.1, if_pos hk]; simp
  | (a, w) :: r, m, n, v, i + 1, hn, e, hk => by
    simp only [List.getElem?_cons_succ] at e
    simp only [List.map_cons, List.nodup_cons] at hn
    unfold bindL
    exact bindL_get hn.2 e hk
theorem bindC_get {kf : Str → Option NameKind} : ∀ {bs : List (Str × Value)} {m : Str → Option Value} {n : Str} {v : Value} {i : Nat}, (bs.map (·.1)).Nodup → bs[i]? = some (n, v) → kf n = some .cell → bindC kf bs m n = some v
  | (a, w) :: r, m, n, v, 0, hn, e, hk => by
    simp only [List.getElem?_cons_zero, Option.some.injEq, Prod.mk.injEq] at e
    obtain ⟨rfl, rfl⟩ := e
    simp only [List.map_cons, List.nodup_cons] at hn
    unfold bindC
    rw [bindC_out hn.1, if_neg (by rw [hk]; simp)]; simp
  | (a, w) :: r, m, n, v, i + 1, hn, e, hk => by
    simp only [List.getElem?_cons_succ] at e
    simp only [List.map_cons, List.nodup_cons] at hn
    unfold bindC
    exact bindC_get hn.2 e hk

def fnOk (K : Frag) (P : Pg) (a : Addr) (F : Fn) : Bool := match K.lookup a with
  | some o => (match o.data with
    | .func fd => (match fd.body with
      | .stmts body => fd.globals == mainGlobals && fd.builtins == builtinsNs && fd.closure.isEmpty && fd.defaults == .none && fd.params.posonlyargs.isEmpty && fd.params.vararg.isNone && fd.params.kwonlyargs.isEmpty && fd.params.kwarg.isNone &&
          !fd.scope.isCoroutine && !fd.scope.isGenerator && fd.scope.kind == .function && codeIn K fd.code fd.qualname && (fd.params.args.map (·.arg)) == (F.slots.map Str.ofString).take F.npar && decide (F.npar ≤ F.slots.length) && decide ((F.slots.map Str.ofString).Nodup) &&
          (F.slots.map Str.ofString).all (fun n => match fd.scope.names.lookup n with | some .local => true | some .cell => ((cellsFrom 0 fd.scope.names []).lookup n).isSome | _ => false) && decide ((cellsFrom 0 fd.scope.names []).map (·.1)).Nodup &&
          mtSs P fd.scope (F.slots.map Str.ofString) F.body body
      | _ => false)
    | _ => false)
  | none => false

theorem lookup_isSome {l : List (Str × Addr)} {n : Str} : (l.lookup n).isSome = (l.map (·.1)).contains n := by
  induction l with
  | nil => rfl
  | cons a r ih =>
    obtain ⟨k, v⟩ := a
    simp only [List.lookup_cons, List.map_cons, List.contains_cons]
    cases hb : n == k with
    | true => simp
    | false => simp [ih]

def initV (F : Fn) (args : List AV) : VV := args.map some ++ List.replicate (F.slots.length - F.npar) none

theorem call_intro {c : Cx} {mg mb : Str → Option Value} (C : c.Ok mg mb) (PO : PgOk c) {n : Nat} {md : Bool} {f : String} {F : Fn} (hok : fnOk c.K c.P (c.fa f) F = true) {args : List AV} {Q : AV → AHeap → Prop} {E : String → AHeap → Prop} {H : AHeap} (hlen : args.length = F.npar)
    (q : wpSs ⟨c, n, md⟩ F.body (fun _ H => Q .none H) Q (fun cl _ H => E cl H) (initV F args) H) : CallOK c (n + 1) md f args Q E H := by
  intro A stk R s vals Rs aok stkok S hv kQ kE
  unfold fnOk at hok
  split at hok
  · rename_i o ho
    split at hok
    · rename_i fd hd
      split at hok
      · rename_i body hb
        simp only [Bool.and_eq_true, beq_iff_eq, List.isEmpty_iff, Option.isNone_iff_eq_none, Bool.not_eq_true', decide_eq_true_eq] at hok
        obtain ⟨⟨⟨⟨⟨⟨⟨⟨⟨⟨⟨⟨⟨⟨⟨⟨⟨c1, c2⟩, c3⟩, c4⟩, c5⟩, c6⟩, c7⟩, c8⟩, c9⟩, c10⟩, c11⟩, c12⟩, c13⟩, c14⟩, c15⟩, c16⟩, c17⟩, c18⟩ := hok
        have X := C.kin.keeps S.stays
        have hvl := hv.length
        have hpl : fd.params.args.length = F.npar := by
          have := congrArg List.length c13
          simp only [List.length_map, List.length_take] at this
          omega
        have hpn : (fd.params.args.map (·.arg)).Nodup := by rw [c13]; exact c15.sublist (List.take_sublist _ _)
        have hzl : (fd.params.args.map (·.arg)).length = vals.length := by simp; omega
        have hmem : ∀ x ∈ (fd.params.args.map (·.arg)).zip vals, x.1 ∈ F.slots.map Str.ofString := by
          rintro ⟨a, b⟩ hx
          have := (List.of_mem_zip hx).1
          rw [c13] at this
          exact List.mem_of_mem_take this
        have hkinds : ∀ n ∈ F.slots.map Str.ofString, fd.scope.names.lookup n = some .local ∨ (fd.scope.names.lookup n = some .cell ∧ ((cellsFrom 0 fd.scope.names []).lookup n).isSome = true) := by
          intro n hn
          have := List.all_eq_true.mp c16 n hn
          split at this
          · exact .inl (by assumption)
          · exact .inr ⟨by assumption, this⟩
          · cases this
        have hcs : ∀ (k : Nat) n, ((cellsFrom k fd.scope.names []).lookup n).isSome = ((cellsFrom 0 fd.scope.names []).lookup n).isSome := by
          intro k n
          rw [lookup_isSome, lookup_isSome, cellsFrom_names fd.scope.names 0 k [] [] rfl]
        have hnodup : ∀ k : Nat, ((cellsFrom k fd.scope.names []).map (·.1)).Nodup := fun k => by rw [← cellsFrom_names fd.scope.names 0 k [] [] rfl]; exact c17
        refine codeAny_call_function (by have := aok.depth; omega) (X _ _ ho) hd c9 c10 hb (codeRec_of X c12) (bind_plain c5 c6 c7 c8 c4 hpn (by omega) _ _ _ _ ?_)
        rw [c3]
        refine wpAny_newFunctionEnv_cells c11 (fun x hx => ?_) fun env he s₁ x => ?_
        · rcases hkinds x.1 (hmem x hx) with h | ⟨h1, h2⟩
          · exact .inl h
          · exact .inr ⟨h1, by rw [hcs]; exact h2⟩
        subst he
        refine ⟨(C.nolimit.keeps S.stays).keeps x.toInCall.keep, codeAny_func ?_⟩
        generalize henv : newEnv fd.scope s.heap.objs.size fd.globals (cellsFrom (s.heap.objs.size + 1) fd.scope.names []) (fd.qualname ++ ".<locals>.") (some (c.fa f)) fd.code none fd.builtins = env at x ⊢
        have el : env.locals = s.heap.objs.size := by rw [← henv]; rfl
        have es : env.scope = fd.scope := by rw [← henv]; rfl
        have ec : env.cells = cellsFrom (s.heap.objs.size + 1) fd.scope.names [] := by rw [← henv]; rfl
        have eg : env.globals = mainGlobals := by rw [← henv]; exact c1
        have eb : env.builtins = builtinsNs := by rw [← henv]; exact c2
        have ef : env.frame = some env.locals := by rw [← henv]; rfl
        have ek : ∀ n, env.kindOf n = fd.scope.names.lookup n := fun n => by unfold Env.kindOf; rw [es]
        generalize hm : bindL env.kindOf ((fd.params.args.map (·.arg)).zip vals) (fun _ => none) = m at x
        generalize hcm : bindC env.kindOf ((fd.params.args.map (·.arg)).zip vals) (fun _ => none) = cm at x
        have hkeep := x.toInCall.keep
        have hLlt : @LT.lt Nat _ env.locals s₁.heap.objs.size := by obtain ⟨oL, _, _, w, _⟩ := x.toInCall.ns; exact lts w
        have hsz : s.heap.objs.size ≤ s₁.heap.objs.size := by rw [el] at hLlt; exact Nat.le_of_lt hLlt
        have habove : ∀ p ∈ env.cells, @LT.lt Nat _ s.heap.objs.size p.2 := fun p hp => by
          have := x.above p.1 p.2 hp
          rw [el] at this; exact this
        let R' : RR := fun b => if b = env.locals then some (.ns m) else match env.cells.find? (fun p => p.2 == b) with
          | some p => some (.cell (cm p.1))
          | none => R b
        have hL : R' env.locals = some (.ns m) := by show (if _ then _ else _) = _; rw [if_pos rfl]
        have hcell : ∀ n a, env.cells.lookup n = some a → R' a = some (.cell (cm n)) := fun n a h => by
          have hmem := mem_of_lookup h
          have hlt := habove _ hmem
          show (if _ then _ else _) = _
          rw [if_neg (fun z => by rw [z, el] at hlt; exact Nat.lt_irrefl _ hlt)]
          cases hf : env.cells.find? (fun p => p.2 == a) with
          | none =>
            have := List.find?_eq_none.mp hf _ hmem
            simp at this
          | some p =>
            have h1 := List.mem_of_find?_eq_some hf
            have h2 : p.2 = a := by have := List.find?_some hf; simpa using this
            have h3 : p.1 = n := name_of_addr x.apart (c := a) (by rw [← h2]; exact h1) hmem
            simp only [h3]
        have hlk : ∀ p ∈ env.cells, env.cells.lookup p.1 = some p.2 := fun p hp => by
          have hn' : (env.cells.map (·.1)).Nodup := by rw [ec]; exact hnodup _
          exact lookup_of_mem_nodup hn' hp
        have hR : ∀ b, R' b = R b ∨ (s.heap.objs.size ≤ b ∧ ∃ r, R' b = some r ∧ ResAt s₁.heap b r) := fun b => by
          by_cases z : b = env.locals
          · subst z; exact .inr ⟨by rw [el]; exact Nat.le_refl _, _, hL, x.toInCall.ns⟩
          · cases hf : env.cells.find? (fun p => p.2 == b) with
            | none => left; show (if _ then _ else _) = _; rw [if_neg z, hf]
            | some p =>
              have h1 := List.mem_of_find?_eq_some hf
              have h2 : p.2 = b := by have := List.find?_some hf; simpa using this
              subst h2
              have hl := hlk p h1
              exact .inr ⟨Nat.le_of_lt (habove p h1), _, hcell _ _ hl, x.cell _ _ hl⟩
        have hold : ∀ b r, R b = some r → R' b = some r := fun b r e => by
          rcases hR b with h | ⟨h, _⟩
          · rw [h]; exact e
          · obtain ⟨ob, w⟩ := (S.res b r e).2.there
            have := lts w; have := leN h; omega
        have S₁ : St c R' H s₁.heap := S.news hkeep hsz hR
        have hlen2 : (initV F args).length = F.slots.length := by unfold initV; simp; omega
        have hget : ∀ (i : Nat) n, (F.slots.map Str.ofString)[i]? = some n → ∃ v, (initV F args)[i]? = some v ∧ ∀ (y : Option Value), (∀ w, ((fd.params.args.map (·.arg)).zip vals)[i]? = some (n, w) → y = some w) → OVW v y := fun i n hn => by
          have hi : i < F.slots.length := by have := (List.getElem?_eq_some_iff.mp hn).1; simpa using this
          by_cases z : i < F.npar
          · obtain ⟨av, hav⟩ : ∃ av, args[i]? = some av := ⟨args[i], by simp [hlen, z]⟩
            obtain ⟨w, hw, hvr⟩ := hv.get hav
            refine ⟨some av, by unfold initV; rw [List.getElem?_append_left (by simp; omega)]; simp [hav], fun y hy => ?_⟩
            have hp : (fd.params.args.map (·.arg))[i]? = some n := by rw [c13, List.getElem?_take_of_lt z]; exact hn
            rw [hy w (by rw [List.getElem?_zip_eq_some]; exact ⟨hp, hw⟩)]
            exact .some hvr
          · refine ⟨none, ?_, fun y _ => .none⟩
            unfold initV
            rw [List.getElem?_append_right (by simp; omega), List.getElem?_replicate]
            rw [if_pos (by simp; omega)]
        have hzn : (((fd.params.args.map (·.arg)).zip vals).map (·.1)).Nodup := by rw [List.map_fst_zip (by omega)]; exact hpn
        have fr : Frm R' env fd.scope (F.slots.map Str.ofString) (initV F args) := by
          refine ⟨by rw [es]; exact c11, eg, eb, fun id h => ?_, fun id h => ?_, fun id h => ?_, fun id h => by rw [ek]; exact h, fun n n' a h h' => name_of_addr x.apart (mem_of_lookup h) (mem_of_lookup h'), ⟨m, hL, fun i n hn hk => ?_⟩, fun i n hn hk => ?_⟩
          · rw [ek]; simpa [isGlob] using h
          · rw [ek]; unfold kindOk at h; split at h <;> simp_all
          · rw [ek]; unfold locKind at h; split at h <;> simp_all
          · obtain ⟨v, h1, h2⟩ := hget i n hn
            exact ⟨v, h1, h2 _ fun w hw => by rw [← hm]; exact bindL_get hzn hw hk⟩
          · obtain ⟨v, h1, h2⟩ := hget i n hn
            rcases hkinds n (List.mem_of_getElem? hn) with z | ⟨z1, z2⟩
            · rw [ek, z] at hk; rcases hk with hk | hk <;> cases hk
            · obtain ⟨a, ha⟩ := Option.isSome_iff_exists.mp (show (env.cells.lookup n).isSome = true by rw [ec, hcs]; exact z2)
              exact ⟨a, _, v, ha, hcell n a ha, h1, h2 _ fun w hw => by rw [← hcm]; exact bindC_get hzn hw (by rw [ek]; exact z1)⟩
        have ev : Ev ⟨c, n, md⟩ (A.deeper env) R' env stk := by
          refine ⟨⟨?_, ?_, ?_, aok.hand⟩, fun e he => ?_⟩
          · show A.frames.map (env :: ·) = _; rw [aok.frames]; rfl
          · have := aok.depth; show A.depth + 1 + 110 + 4 + 8 * n < _; omega
          · have := aok.units; show A.units + 3 + 100 + 10 * 4 + 60 * n < _; omega
          · rcases List.mem_cons.mp he with rfl | he
            · exact ⟨by rw [es]; exact c11, ef, by rw [es]; exact c10, by rw [es]; exact c9, eb, eg, m, hL⟩
            · have G := stkok e he
              obtain ⟨mm, hmm⟩ := G.ns
              exact ⟨G.kind, G.frame, G.gen, G.co, G.blt, G.glob, mm, hold _ _ hmm⟩
        have sm : Sm s s₁ := x.toInCall.same
        have back : ∀ {R₂ : RR}, RStep env R' R₂ → ∀ b r, R b = some r → R₂ b = some r := fun {R₂} r b y e => by
          have hlt : @LT.lt Nat _ b s.heap.objs.size := by obtain ⟨ob, w⟩ := (S.res b y e).2.there; exact lts w
          rcases r b with h | ⟨h, _⟩ | ⟨⟨nn, h⟩, _⟩
          · rw [h]; exact hold b y e
          · rw [h, el] at hlt; exact absurd hlt (Nat.lt_irrefl _)
          · have := habove _ (mem_of_lookup h); exact absurd (Nat.lt_trans hlt this) (Nat.lt_irrefl _)
        refine wpAny_mono (sSs (g := ⟨c, n, md⟩) C PO c15 F.body body c18 md (A.deeper env) env stk R' (initV F args) s s₁ H _ Q _ ev fr S₁ sm q) (fun fl s₂ z => ?_) fun e s₂ z => ?_
        · cases fl with
          | next =>
            obtain ⟨R₂, V₂, H₂, r₂, _, S₂, m₂, q₂⟩ := z
            exact kQ .none .none s₂ H₂ .none (S₂.weaken (back r₂)) m₂ q₂
          | ret v =>
            obtain ⟨R₂, av, H₂, r₂, hv₂, S₂, m₂, q₂⟩ := z
            exact kQ av v s₂ H₂ hv₂ (S₂.weaken (back r₂)) m₂ q₂
          | brk => exact z.elim
          | cont => exact z.elim
        · obtain ⟨a, cl, R₂, V₂, H₂, fl, rfl, r₂, f₂, hfl, X₂, m₂, q₂⟩ := z
          refine exc_leave ev.aok.frames (r₂.stk ev.stk) X₂ hfl fun h' X₃ => ?_
          exact kE a cl _ H₂ (X₃.weaken (back r₂)) (m₂.heap h') q₂
      · cases hok
    · cases hok
  · cases hok
end Mine

namespace Mine

/-! ## the checks that one row wants -/
def addrOf (v : Option (Option Value)) : Addr := match v with
  | some (some (.ref a)) => a
  | _ => 0
def caOf (K : Frag) (cl : String) : Addr := addrOf (nsIn K mainGlobals (Str.ofString cl))
def faOf (K : Frag) (P : Pg) (f : String) : Addr := match P.meths.find? (fun p => p.1 ++ "." ++ p.2 == f) with
  | some (cl, m) => addrOf (findIn K (.ref (caOf K cl)) (Str.ofString m))
  | none => addrOf (nsIn K mainGlobals (Str.ofString f))
def vrB : AV → Value → Bool
  | .none, .none => true
  | .bool a, .bool b => a == b
  | .int a, .int b _ => a == b
  | .str a, .str b _ => a == b && PyData.strOk b
  | _, _ => false
theorem vr_of {a : AV} {v : Value} (h : vrB a v = true) : VR a v := by
  cases a <;> cases v <;> simp [vrB] at h
  · exact .none
  · subst h; exact .bool _
  · subst h; exact .int _ _
  · obtain ⟨rfl, h⟩ := h; exact .str _ _ h

def okFn (K : Frag) (P : Pg) : Bool := P.gfns.all fun f => nsIn K mainGlobals (Str.ofString f) == some (some (.ref (faOf K P f))) && keepIn K (.ref (faOf K P f))
def okCls (K : Frag) (P : Pg) : Bool := P.classes.all fun cl => nsIn K mainGlobals (Str.ofString cl) == some (some (.ref (caOf K cl))) && keepIn K (.ref (caOf K cl)) && makesIn K (caOf K cl) &&
  findIn K (.ref (caOf K cl)) "__init__" == some (some (.ref (faOf K P (cl ++ ".__init__")))) && isFn K (.ref (faOf K P (cl ++ ".__init__")))
def okMeth (K : Frag) (P : Pg) : Bool := P.meths.all fun p => plainGet K (caOf K p.1) (Str.ofString p.2) && findIn K (.ref (caOf K p.1)) (Str.ofString p.2) == some (some (.ref (faOf K P (p.1 ++ "." ++ p.2)))) &&
  isFn K (.ref (faOf K P (p.1 ++ "." ++ p.2))) && keepIn K (.ref (faOf K P (p.1 ++ "." ++ p.2)))
def okAttr (K : Frag) (P : Pg) : Bool := P.attrs.all fun p => plainGet K (caOf K p.1) (Str.ofString p.2) && hasDictIn K (caOf K p.1) && findIn K (.ref (caOf K p.1)) (Str.ofString p.2) == some none &&
  findIn K (.ref (caOf K p.1)) "__setattr__" == some (some (.builtin "object.__setattr__")) && plainOver K (caOf K p.1) && takerIn K (caOf K p.1) (Str.ofString p.2) == some none
def okPrim (K : Frag) (P : Pg) : Bool := P.prims.all fun f => nsIn K mainGlobals (Str.ofString f) == some none && !(Str.ofString f == Str.ofString "__name__") && bootBuiltins (Str.ofString f) == some (primVal f)
def okExc (K : Frag) (P : Pg) : Bool := P.excs.all fun p => p.2.all (fun ty => !P.prims.contains ty || (ty == "ValueError" && subIn K (.ref (caOf K p.1)) (.type ty) == some true)) &&
  nsIn K mainGlobals (Str.ofString p.1) == some (some (.ref (caOf K p.1))) && excIn K (caOf K p.1) veM "ValueError.__new__" && instIn K (.ref (caOf K p.1)) (.type "tuple") == some false && subIn K (.ref (caOf K p.1)) (.type "BaseException") == some true &&
  (clsIn K (caOf K p.1)).isSome && P.excs.all fun q => subIn K (.ref (caOf K p.1)) (.ref (caOf K q.1)) == some (excSub P p.1 q.1)
def okConst (K : Frag) (P : Pg) : Bool := P.consts.all fun p => match nsIn K mainGlobals (Str.ofString p.1) with
  | some (some x) => vrB p.2 x
  | _ => false
def okFns (K : Frag) (P : Pg) : Bool := P.fns.all fun p => fnOk K P (faOf K P p.1) p.2
def okAll (K : Frag) (P : Pg) : Bool := okFn K P && okCls K P && okMeth K P && okAttr K P && okPrim K P && okExc K P && okConst K P && okFns K P

theorem lookup_mem {α : Type} : ∀ {l : List (String × α)} {n : String} {c : α}, l.lookup n = some c → (n, c) ∈ l
  | (k, v) :: r, n, c, h => by
    rw [List.lookup_cons] at h
    cases hb : n == k with
    | true => rw [hb] at h; cases h; rw [beq_iff_eq.mp hb]; exact List.mem_cons_self
    | false => rw [hb] at h; exact List.mem_cons_of_mem _ (lookup_mem h)

def cxOf (prog : Program) (w : World) (K : Frag) (base : Heap) (P : Pg) : Cx := ⟨prog, w, K, base, P, faOf K P, caOf K⟩

theorem pgOk_of {prog : Program} {w : World} {K : Frag} {base : Heap} {P : Pg} (h : okAll K P = true) : PgOk (cxOf prog w K base P) ∧ ∀ f F, P.fns.lookup f = some F → fnOk K P (faOf K P f) F = true := by
  unfold okAll at h
  simp only [Bool.and_eq_true] at h
  obtain ⟨⟨⟨⟨⟨⟨⟨h1, h2⟩, h3⟩, h4⟩, h5⟩, h6⟩, h7⟩, h8⟩ := h
  refine ⟨⟨fun f hf => ?_, fun cl hf => ?_, fun cl m hf => ?_, fun cl n hf => ?_, fun f hf => ?_, fun cl ty hf ht => ?_, fun cl hf => ?_, fun cl d hc hd => ?_, fun n v hf => ?_⟩, fun f F hf => ?_⟩
  · have := List.all_eq_true.mp h1 f (by simpa [cxOf] using hf)
    simp only [Bool.and_eq_true, beq_iff_eq] at this
    exact this
  · have := List.all_eq_true.mp h2 cl (by simpa [cxOf] using hf)
    simp only [Bool.and_eq_true, beq_iff_eq] at this
    obtain ⟨⟨⟨⟨a1, a2⟩, a3⟩, a4⟩, a5⟩ := this
    exact ⟨a1, a2, a3, a4, a5⟩
  · have := List.all_eq_true.mp h3 (cl, m) (by simpa [cxOf] using hf)
    simp only [Bool.and_eq_true, beq_iff_eq] at this
    obtain ⟨⟨⟨a1, a2⟩, a3⟩, a4⟩ := this
    exact ⟨a1, a2, a3, a4⟩
  · have := List.all_eq_true.mp h4 (cl, n) (by simpa [cxOf] using hf)
    simp only [Bool.and_eq_true, beq_iff_eq] at this
    obtain ⟨⟨⟨⟨⟨a1, a2⟩, a3⟩, a4⟩, a5⟩, a6⟩ := this
    exact ⟨a1, a2, a3, a4, a5, a6⟩
  · have := List.all_eq_true.mp h5 f (by simpa [cxOf] using hf)
    simp only [Bool.and_eq_true, beq_iff_eq, Bool.not_eq_true'] at this
    exact ⟨this.1.1, this.1.2, this.2⟩
  · obtain ⟨l, hl⟩ : ∃ l, P.excs.lookup cl = some l := by
      cases q : P.excs.lookup cl with
      | none => rw [show (cxOf prog w K base P).P.excs.lookup cl = none from q] at hf; cases hf
      | some l => exact ⟨l, rfl⟩
    have := List.all_eq_true.mp h6 (cl, l) (lookup_mem hl)
    simp only [Bool.and_eq_true, List.all_eq_true] at this
    rw [show (cxOf prog w K base P).P.excs.lookup cl = some l from hl] at hf
    have := this.1.1.1.1.1.1 ty (by simpa using hf)
    simp only [Bool.or_eq_true, Bool.not_eq_true', Bool.and_eq_true, beq_iff_eq] at this
    rcases this with q | q
    · rw [show P.prims.contains ty = true from ht] at q; cases q
    · exact q
  · obtain ⟨l, hl⟩ := Option.isSome_iff_exists.mp hf
    have := List.all_eq_true.mp h6 (cl, l) (lookup_mem hl)
    simp only [Bool.and_eq_true, beq_iff_eq] at this
    obtain ⟨⟨⟨⟨⟨⟨_, a1⟩, a2⟩, a3⟩, a4⟩, a5⟩, _⟩ := this
    exact ⟨a1, a2, a3, a4, a5⟩
  · obtain ⟨l, hl⟩ := Option.isSome_iff_exists.mp hc
    obtain ⟨l', hl'⟩ := Option.isSome_iff_exists.mp hd
    have := List.all_eq_true.mp h6 (cl, l) (lookup_mem hl)
    simp only [Bool.and_eq_true] at this
    have := List.all_eq_true.mp this.2 (d, l') (lookup_mem hl')
    exact beq_iff_eq.mp this
  · have := List.all_eq_true.mp h7 (n, v) (lookup_mem hf)
    dsimp only at this
    split at this
    · rename_i x hx; exact ⟨x, hx, vr_of this⟩
    · cases this
  · exact List.all_eq_true.mp h8 (f, F) (lookup_mem hf)

/-! ## the law's call -/
def scriptH (p : Addr) (ns : List Int) : AHeap := fun a => if a = p then some (.script ns) else none

theorem ints_vr {vs : List Value} {ns : List Int} (h : IntsAre vs ns) : VRs (ns.map AV.int) vs := by
  induction h with
  | nil => exact .nil
  | cons n t _ ih => exact .cons (.int n t) ih

theorem enter {prog : Program} {w : World} {K : Frag} {P : Pg} {mg mb : Str → Option Value} {p : Program} {loose : List Str} {mean : ExcName → Option Value} {s₁ : Shared} {fa sp : Addr} {vs : List Value} {ns : List Int} {n : Nat} {E : Value → Shared → Prop} {Q : Value → Shared → Prop} {nl : Str}
    (hn : n ≤ 50) (KX : K.In s₁.heap) (T : Top p loose mean mg mb s₁.heap) (hseer : s₁.heap.NoSeer) (htree : prog.given.tree = none) (hnl : nl = Str.ofString "law") (hmg : mg nl = some (.ref fa)) (hok : okAll K P = true) (hlaw : P.gfns.contains "law" = true)
    (hget : s₁.heap.get? sp = some { cls := .type "list", data := .seq vs.toArray }) (hI : IntsAre vs ns)
    (hcall : ∀ c : Cx, c.P = P → c.Ok mg mb → PgOk c → (∀ f F, P.fns.lookup f = some F → fnOk c.K P (c.fa f) F = true) → CallOK c n true "law" [.ref sp] (fun v _ => v = .bool true) (fun _ _ => False) (scriptH sp ns))
    (hq : ∀ s', s₁.heap.StaysIn s'.heap → s'.os = s₁.os → s'.gens = s₁.gens → Q (.bool true) s') : wpAny (model prog w) callerA (call (.ref fa) [.ref sp]) Q E s₁ := by
  obtain ⟨PO, FO⟩ := pgOk_of (prog := prog) (w := w) (base := s₁.heap) hok
  have C : (cxOf prog w K s₁.heap P).Ok mg mb := ⟨KX, T.g, T.b, T.nolimit, T.builtins, hseer, htree, p, loose, topRead_of T⟩
  have hfa : fa = (cxOf prog w K s₁.heap P).fa "law" := by
    have h1 := (PO.fn "law" hlaw).1
    have h2 := mg_of KX T.g h1
    rw [← hnl, hmg] at h2
    exact Value.ref.inj (Option.some.inj h2)
  have S : St (cxOf prog w K s₁.heap P) (fun _ => none) (scriptH sp ns) s₁.heap := by
    have hs : ∀ a o, scriptH sp ns a = some o → a = sp ∧ o = .script ns := fun a o e => by
      unfold scriptH at e
      split at e
      · rename_i z; cases e; exact ⟨z, rfl⟩
      · cases e
    refine ⟨fun _ _ e => e, Nat.le_refl _, fun _ _ e => (by cases e), fun _ => 0, ⟨fun a o e => ?_, fun a o e => ?_, fun a cl es e => ?_, fun a b cl es cl' es' e => ?_⟩⟩
    · obtain ⟨rfl, rfl⟩ := hs a o e
      exact ⟨vs, 0, hget, ints_vr hI⟩
    · obtain ⟨rfl, rfl⟩ := hs a o e
      exact ⟨⟨fun w => (by cases w), fun w => (by cases w)⟩, rfl⟩
    · cases (hs a _ e).2
    · cases (hs a _ e).2
  rw [hfa]
  refine wpAny_call (hcall _ rfl C PO FO callerA [] (fun _ => none) s₁ [.ref sp] _ ⟨rfl, ?_, ?_, fun _ => rfl⟩ (fun e he => by cases he) S (.cons (.ref sp) .nil) ?_ ?_)
  · show 1 + 300 + 110 + 0 + 8 * n < 1000; omega
  · show 4 + 100 + 10 * 0 + 60 * n < 9900; omega
  · rintro av v s' H' hv S' m rfl
    cases hv
    obtain ⟨h, tk, rfl⟩ := m
    exact hq _ S'.stays rfl rfl
  · rintro e cl s' H' _ _ h; exact h.elim
end Mine

namespace Mine

/-- a row's ground: its tables are checked -/
structure Gd (c : Cx) (P : Pg) : Prop where
  hP : c.P = P
  ok : ∃ mg mb, c.Ok mg mb
  pg : PgOk c
  fn : ∀ f F, P.fns.lookup f = some F → fnOk c.K P (c.fa f) F = true

theorem Gd.call {c : Cx} {P : Pg} (G : Gd c P) {n : Nat} {md : Bool} {f : String} {F : Fn} (hf : P.fns.lookup f = some F) {args : List AV} {Q : AV → AHeap → Prop} {E : String → AHeap → Prop} {H : AHeap} (hlen : args.length = F.npar)
    (q : wpSs ⟨c, n, md⟩ F.body (fun _ H => Q .none H) Q (fun cl _ H => E cl H) (initV F args) H) : CallOK c (n + 1) md f args Q E H := by
  obtain ⟨mg, mb, C⟩ := G.ok
  have := G.fn f F hf
  rw [← G.hP] at this
  exact call_intro C G.pg this hlen q

theorem CallOK.mono {c : Cx} {n : Nat} {md : Bool} {f : String} {args : List AV} {Q Q' : AV → AHeap → Prop} {E E' : String → AHeap → Prop} {H : AHeap} (h : CallOK c n md f args Q E H) (k : ∀ v H, Q v H → Q' v H) (e : ∀ cl H, E cl H → E' cl H) : CallOK c n md f args Q' E' H :=
  fun A stk R s vals Rs a b d v p q => h A stk R s vals Rs a b d v (fun av v s' H' x y z w => p av v s' H' x y z (k _ _ w)) (fun ee cl s' H' x y z => q ee cl s' H' x y (e _ _ z))

/-- more room than asked -/
theorem CallOK.room {c : Cx} {n m : Nat} {md : Bool} {f : String} {args : List AV} {Q : AV → AHeap → Prop} {E : String → AHeap → Prop} {H : AHeap} (h : CallOK c n md f args Q E H) (k : n ≤ m) : CallOK c m md f args Q E H :=
  fun A stk R s vals Rs a => h A stk R s vals Rs ⟨a.frames, by have := a.depth; omega, by have := a.units; omega, a.hand⟩

section
variable {Q : AV → AHeap → Prop} {H : AHeap} {x y : Int} {a b : Str}
theorem b_add : wbin .Add (.int x) (.int y) Q H = Q (.int (x + y)) H := rfl
theorem b_sub : wbin .Sub (.int x) (.int y) Q H = Q (.int (x - y)) H := rfl
theorem b_mul : wbin .Mult (.int x) (.int y) Q H = (IntMulOk x y ∧ Q (.int (x * y)) H) := rfl
theorem b_div : wbin .FloorDiv (.int x) (.int y) Q H = (y ≠ 0 ∧ Q (.int (x.fdiv y)) H) := rfl
theorem b_mod : wbin .Mod (.int x) (.int y) Q H = (y ≠ 0 ∧ Q (.int (x.fmod y)) H) := rfl
theorem b_pow : wbin .Pow (.int x) (.int y) Q H = ((2 ≤ x ∧ 1 ≤ y ∧ Builtin.Int.intTooBig (((Builtin.Int.intBits x : Nat) : Int) * y) = false) ∧ Q (.int (x ^ y.toNat)) H) := rfl
theorem b_adds : wbin .Add (.str a) (.str b) Q H = (a.length + b.length ≤ sizeLine ∧ Q (.str (a ++ b)) H) := rfl
theorem c_lt : wcmp .Lt (.int x) (.int y) Q H = Q (.bool (decide (x < y))) H := rfl
theorem c_le : wcmp .LtE (.int x) (.int y) Q H = Q (.bool (decide (x ≤ y))) H := rfl
theorem c_gt : wcmp .Gt (.int x) (.int y) Q H = Q (.bool (decide (y < x))) H := rfl
theorem c_ge : wcmp .GtE (.int x) (.int y) Q H = Q (.bool (decide (y ≤ x))) H := rfl
theorem c_eq : wcmp .Eq (.int x) (.int y) Q H = Q (.bool (x == y)) H := by show Q (.bool ((x == y) != false)) H = _; simp
theorem c_ne : wcmp .NotEq (.int x) (.int y) Q H = Q (.bool (x != y)) H := by
  show Q (.bool ((x == y) != true)) H = _
  congr 2
  unfold bne; cases x == y <;> rfl
theorem c_eqs : wcmp .Eq (.str a) (.str b) Q H = Q (.bool (a == b)) H := by show Q (.bool ((a == b) != false)) H = _; simp
theorem c_nes : wcmp .NotEq (.str a) (.str b) Q H = Q (.bool (a != b)) H := by
  show Q (.bool ((a == b) != true)) H = _
  congr 2
  unfold bne; cases a == b <;> rfl
theorem c_in {u v : AV} : wcmp .In u v Q H = win false u v Q H := rfl
theorem c_nin {u v : AV} : wcmp .NotIn u v Q H = win true u v Q H := rfl
theorem t_bool {H : AHeap} {P : Bool → Prop} {t : Bool} : wtruth (.bool t) H P = P t := rfl
theorem t_int {H : AHeap} {P : Bool → Prop} {i : Int} : wtruth (.int i) H P = P (i != 0) := rfl
theorem t_none {H : AHeap} {P : Bool → Prop} : wtruth .none H P = P false := rfl
end

theorem script_get {P : Params} {h : Heap} {sp : Addr} {xs : List PyData} {vs : List Value} (W : Well P h (.ref sp) (ofPy (.list xs))) (L : h.IsList sp vs.toArray) : h.get? sp = some { cls := .type "list", data := .seq vs.toArray } := by
  obtain ⟨o, ho, hc, n, hd⟩ := L
  rw [ofPy] at W
  cases W with
  | list h1 _ => rw [ho] at h1; cases h1; cases hd; exact ho
theorem scriptH_at {sp : Addr} {ns : List Int} : scriptH sp ns sp = some (.script ns) := by unfold scriptH; rw [if_pos rfl]

section
variable {g : Gx} {QN : VV → AHeap → Prop} {QR : AV → AHeap → Prop} {E : String → VV → AHeap → Prop} {V : VV} {H : AHeap}
theorem w_ite {c : X} {a b : List S} : wpS g (.ite c a b) QN QR E V H = wpX g c V (fun x H => wtruth x H fun t => if t then wpSs g a QN QR E V H else wpSs g b QN QR E V H) (fun cl H => E cl V H) H := by simp only [wpS]
theorem w_ret {e : X} : wpS g (.ret e) QN QR E V H = wpX g e V QR (fun cl H => E cl V H) H := by simp only [wpS]
theorem w_asg {t : T} {e : X} : wpS g (.assign t e) QN QR E V H = wpX g e V (fun x H => wpT g t x V QN (fun cl H => E cl V H) H) (fun cl H => E cl V H) H := by simp only [wpS]
theorem w_nil : wpSs g [] QN QR E V H = QN V H := by simp only [wpSs]
theorem w_cons {s : S} {r : List S} : wpSs g (s :: r) QN QR E V H = wpS g s (fun V H => wpSs g r QN QR E V H) QR E V H := by simp only [wpSs]
end
end Mine

namespace Mine

/-! ## shared defs of the laws -/
def cell (ns : List Int) (k : Nat) : Int := (ns[k]?).getD 0
def cellFn : Fn := ⟨2, ["_law_script", "_law_k"], [
  .ite (.cmp .Lt (.var 1) (.prim "len" [(.var 0)])) [.ret (.sub (.var 0) (.var 1))] [],
  .ret (.lit (.int 0))]⟩

theorem cell_ok {c : Cx} {P : Pg} (G : Gd c P) (hf : P.fns.lookup "_law_cell_at" = some cellFn) {n : Nat} {md : Bool} {Q : AV → AHeap → Prop} {E : String → AHeap → Prop} {H : AHeap} {sp : Addr} {ns : List Int} {k : Int} (hk : 0 ≤ k) (hs : H sp = some (.script ns)) (hl : ns.length < 2 ^ 62)
    (q : Q (.int (cell ns k.toNat)) H) : CallOK c (n + 1) md "_law_cell_at" [.ref sp, .int k] Q E H := by
  refine G.call (F := cellFn) hf rfl ?_
  simp [cellFn, wprim, hs, hl, initV, wsub, wpSs, wpS, wpX, wpXs, wpAO, wpO, wpC, wpHs, wpH, wpT, wtg, b_add, b_sub, b_mul, b_div, b_mod, b_pow, b_adds, c_lt, c_le, c_gt, c_ge, c_eq, c_ne, c_eqs, c_nes, c_in, c_nin, t_bool, t_int, t_none]
  obtain ⟨j, rfl⟩ := Int.eq_ofNat_of_zero_le hk
  by_cases h : j < ns.length
  · simp [h]
    refine ⟨by omega, ?_⟩
    simpa [cell, h] using q
  · simp [h]
    simpa [cell, h] using q

theorem wfor {QN : VV → AHeap → Prop} {stp : AV → (VV → AHeap → Prop) → VV → AHeap → Prop} {v : AV} {V : VV} {H : AHeap} {xs : List AV} (hx : itemsOf H v = some xs) (I : Nat → VV → AHeap → Prop) (h0 : I 0 V H)
    (hs : ∀ k V' H', I k V' H' → sameIt H H' v ∧ (k = xs.length → QN V' H') ∧ ∀ x, xs[k]? = some x → stp x (I (k + 1)) V' H') : WFor QN stp v V H := ⟨xs, hx, I, h0, hs⟩

theorem fmod_lo {x m : Int} (h : 0 < m) : 0 ≤ x.fmod m := by rw [Int.fmod_eq_emod_of_nonneg _ (by omega)]; exact Int.emod_nonneg _ (by omega)
theorem fmod_hi {x m : Int} (h : 0 < m) : x.fmod m < m := by rw [Int.fmod_eq_emod_of_nonneg _ (by omega)]; exact Int.emod_lt_of_pos _ h

theorem sub_str {Q : AV → AHeap → Prop} {H : AHeap} {s : Str} {i : Int} (h0 : 0 ≤ i) (h1 : i < s.cps.size) (h2 : s.cps.size ≤ 1000) (q : ∀ ch ∈ s.cps, Q (.str ⟨#[ch]⟩) H) : wsub (.str s) (.int i) Q H := by
  have hlt : i.toNat < s.cps.size := by omega
  exact ⟨h0, by omega, s.cps[i.toNat], by simp [hlt], q _ (Array.getElem_mem hlt)⟩

theorem up_ne {H : AHeap} {a b : Addr} {o o' : AObj} (h : H b = some o') (k : H a = none) : up H a o b = some o' := by
  rw [up_other (fun z => by rw [z, k] at h; cases h)]; exact h
end Mine

namespace Mine.L01
def f_is_name : Fn := ⟨1, ["thing", "sign"], [
  .ite (.ao false [(.not (.isinst (.var 0) "str")), (.not (.cmp2 .LtE .LtE (.lit (.int 1)) (.prim "len" [(.var 0)]) (.glob "MOST_SIGNS")))]) [.ret (.lit (.bool false))] [],
  .for (.var 1) (.var 0) [.ite (.cmp .NotIn (.var 1) (.glob "LETTERS")) [.ret (.lit (.bool false))] []],
  .ret (.lit (.bool true))]⟩
def f_name_of : Fn := ⟨1, ["thing"], [
  .ite (.not (.call "is_name" [(.var 0)])) [.raise "NoName" (Str.ofString "no name")] [],
  .ret (.var 0)]⟩
def f__law_cell_at : Fn := ⟨2, ["_law_script", "_law_k"], [
  .ite (.cmp .Lt (.var 1) (.prim "len" [(.var 0)])) [.ret (.sub (.var 0) (.var 1))] [],
  .ret (.lit (.int 0))]⟩
def f__law_sign_by : Fn := ⟨1, ["_law_cell", "_law_some"], [
  .assign (.var 1) (.lit (.str (Str.ofString " !\"#$&'()*+,-./0123456789:;<=>?@ABCDEFGHIJKLMNOPQRSTUVWXYZ[\\]^_`"))),
  .assign (.var 1) (.bin .Add (.var 1) (.lit (.str (Str.ofString "abcdefghijklmnopqrstuvwxyz{|}~\n\t")))),
  .ret (.sub (.var 1) (.bin .Mod (.var 0) (.lit (.int 96))))]⟩
def f__law_text_by : Fn := ⟨1, ["_law_script", "_law_size", "_law_way", "_law_word", "_law_k", "_law_cell"], [
  .assign (.var 1) (.bin .Mod (.call "_law_cell_at" [(.var 0), (.lit (.int 1))]) (.lit (.int 15))),
  .ite (.cmp .Eq (.bin .Mod (.bin .FloorDiv (.call "_law_cell_at" [(.var 0), (.lit (.int 1))]) (.lit (.int 15))) (.lit (.int 5))) (.lit (.int 1))) [.assign (.var 1) (.bin .Mod (.bin .FloorDiv (.call "_law_cell_at" [(.var 0), (.lit (.int 1))]) (.lit (.int 75))) (.lit (.int 81)))] [],
  .assign (.var 2) (.bin .Mod (.call "_law_cell_at" [(.var 0), (.lit (.int 2))]) (.lit (.int 3))),
  .assign (.var 3) (.lit (.str (Str.ofString ""))),
  .for (.var 4) (.prim "range" [(.var 1)]) [.assign (.var 5) (.call "_law_cell_at" [(.var 0), (.bin .Add (.lit (.int 4)) (.var 4))]),
    .ite (.ao false [(.cmp .Eq (.var 2) (.lit (.int 2))), (.ao true [(.cmp .Eq (.var 2) (.lit (.int 1))), (.cmp .Eq (.var 4) (.bin .Mod (.call "_law_cell_at" [(.var 0), (.lit (.int 3))]) (.var 1)))])]) [.assign (.var 3) (.bin .Add (.var 3) (.call "_law_sign_by" [(.var 5)]))] [.assign (.var 3) (.bin .Add (.var 3) (.sub (.lit (.str (Str.ofString "abcdefghijklmnopqrstuvwxyz"))) (.bin .Mod (.var 5) (.lit (.int 26)))))]],
  .ret (.var 3)]⟩
def f__law_thing_by : Fn := ⟨1, ["_law_script", "_law_way"], [
  .assign (.var 1) (.bin .Mod (.call "_law_cell_at" [(.var 0), (.lit (.int 0))]) (.lit (.int 6))),
  .ite (.cmp .Lt (.var 1) (.lit (.int 4))) [.ret (.call "_law_text_by" [(.var 0)])] [],
  .ite (.cmp .Eq (.var 1) (.lit (.int 4))) [.ret (.call "_law_cell_at" [(.var 0), (.lit (.int 1))])] [],
  .ret (.sub (.list [(.lit (.bool true)), (.lit (.bool false)), (.lit .none), (.list [(.lit (.str (Str.ofString "ab")))]), (.tuple [(.lit (.str (Str.ofString "ab")))])]) (.bin .Mod (.call "_law_cell_at" [(.var 0), (.lit (.int 1))]) (.lit (.int 5))))]⟩
def f__law_is_name : Fn := ⟨1, ["_law_thing", "_law_sign"], [
  .ite (.ao false [(.not (.isinst (.var 0) "str")), (.cmp .Eq (.var 0) (.lit (.str (Str.ofString "")))), (.cmp .Gt (.prim "len" [(.var 0)]) (.lit (.int 12)))]) [.ret (.lit (.bool false))] [],
  .for (.var 1) (.var 0) [.ite (.cmp .NotIn (.var 1) (.lit (.str (Str.ofString "abcdefghijklmnopqrstuvwxyz")))) [.ret (.lit (.bool false))] []],
  .ret (.lit (.bool true))]⟩
def f__law_refused_by_any : Fn := ⟨1, ["_law_thing", "e"], [
  .try [.expr (.call "name_of" [(.var 0)])] [.mk "BookError" (some 1) [.ret (.isinst (.var 1) "ValueError")]],
  .ret (.lit (.bool false))]⟩
def f_law : Fn := ⟨1, ["_law_script", "_law_thing", "_law_refused", "_law_found"], [
  .assign (.var 1) (.call "_law_thing_by" [(.var 0)]),
  .assign (.var 2) (.lit (.bool false)),
  .assign (.var 3) (.lit .none),
  .try [.assign (.var 3) (.call "name_of" [(.var 1)])] [.mk "NoName" none [.assign (.var 2) (.lit (.bool true))]],
  .ite (.not (.call "_law_is_name" [(.var 1)])) [.ret (.ao true [(.var 2), (.call "_law_refused_by_any" [(.var 1)])])] [],
  .ret (.ao true [(.not (.var 2)), (.isinst (.var 3) "str"), (.cmp .Eq (.var 3) (.var 1))])]⟩
def P : Pg where
  fns := [("is_name", f_is_name), ("name_of", f_name_of), ("_law_cell_at", f__law_cell_at), ("_law_sign_by", f__law_sign_by), ("_law_text_by", f__law_text_by), ("_law_thing_by", f__law_thing_by), ("_law_is_name", f__law_is_name), ("_law_refused_by_any", f__law_refused_by_any), ("law", f_law)]
  gfns := ["is_name", "name_of", "_law_cell_at", "_law_sign_by", "_law_text_by", "_law_thing_by", "_law_is_name", "_law_refused_by_any", "law"]
  consts := [("LETTERS", (.str (Str.ofString "abcdefghijklmnopqrstuvwxyz"))), ("MOST_SIGNS", (.int 12))]
  excs := [("BookError", ["BookError", "ValueError"]), ("NoName", ["NoName", "BookError", "ValueError"])]
  classes := []
  meths := []
  attrs := []
  prims := ["ValueError", "isinstance", "len", "range", "str"]
end Mine.L01
namespace Mine.L01
def letters : Str := Str.ofString "abcdefghijklmnopqrstuvwxyz"
def nameB : AV → Bool
  | .str s => decide (1 ≤ s.length ∧ s.length ≤ 12) && s.cps.toList.all fun ch => letters.cps.toList.contains ch
  | _ => false
section
variable {c : Cx} (G : Gd c P) {n : Nat} {md : Bool} {Q : AV → AHeap → Prop} {E : String → AHeap → Prop} {H : AHeap}

theorem kind_str {v : AV} (h : vkind H v = some "str") : ∃ s, v = .str s := by
  cases v with
  | str s => exact ⟨s, rfl⟩
  | ref a => simp only [vkind] at h; split at h <;> simp at h
  | _ => simp [vkind] at h
theorem name_not {v : AV} {k : String} (hk : vkind H v = some k) (h : k ≠ "str") : nameB v = false := by
  cases v with
  | str s => simp [vkind] at hk; exact absurd hk.symm h
  | _ => rfl

/-- the walk over a text's signs -/
theorem signs {s : Str} {e : X} {V : VV} {QN : VV → AHeap → Prop} (he : ∀ V H Q E, wpX ⟨c, n, true⟩ e V Q E H = Q (.str letters) H) (hV : V = [some (.str s), none]) (h1 : (s.cps.toList.all fun ch => letters.cps.toList.contains ch) = true → ∀ a, QN [some (.str s), a] H) (h2 : (s.cps.toList.all fun ch => letters.cps.toList.contains ch) = false → Q (.bool false) H) :
    wpS ⟨c, n, true⟩ (.for (.var 1) (.var 0) [.ite (.cmp .NotIn (.var 1) e) [.ret (.lit (.bool false))] []]) QN Q (fun cl _ H => E cl H) V H := by
  subst hV
  simp only [wpS, true_and]
  simp [wpSs, wpS, wpX, wpXs, wpAO, wpO, wpC, wpHs, wpH, wpT, wtg, b_add, b_sub, b_mul, b_div, b_mod, b_pow, b_adds, c_lt, c_le, c_gt, c_ge, c_eq, c_ne, c_eqs, c_nes, c_in, c_nin, t_bool, t_int, t_none]
  refine wfor (xs := s.cps.toList.map fun ch => AV.str ⟨#[ch]⟩) rfl (fun k V' H' => H' = H ∧ (∃ a, V' = [some (.str s), a]) ∧ ∀ ch ∈ s.cps.toList.take k, letters.cps.toList.contains ch = true) ⟨rfl, ⟨_, rfl⟩, by simp⟩ ?_
  rintro k V' H' ⟨rfl, ⟨a, rfl⟩, hin⟩
  refine ⟨trivial, fun hk => h1 ?_ a, fun x hx => ?_⟩
  · rw [hk, List.length_map, List.take_length] at hin
    rw [List.all_eq_true]; exact hin
  · rw [List.getElem?_map, Option.map_eq_some_iff] at hx
    obtain ⟨ch, hch, rfl⟩ := hx
    simp [he, wpSs, wpS, wpX, wpXs, wpAO, wpO, wpC, wpHs, wpH, wpT, wtg, b_add, b_sub, b_mul, b_div, b_mod, b_pow, b_adds, c_lt, c_le, c_gt, c_ge, c_eq, c_ne, c_eqs, c_nes, c_in, c_nin, t_bool, t_int, t_none]
    refine ⟨ch, rfl, ?_⟩
    have hlt : k < s.cps.toList.length := (List.getElem?_eq_some_iff.mp hch).1
    cases hc : letters.cps.toList.contains ch with
    | true =>
      simp only [t_bool]
      simp
      intro ch' hch'
      have : s.cps.toList.take (k + 1) = s.cps.toList.take k ++ [ch] := by
        rw [List.take_add_one, hch]; rfl
      rw [this] at hch'
      rcases List.mem_append.mp hch' with h | h
      · simpa using hin ch' h
      · simp at h; subst h; simpa using hc
    | false =>
      simp only [t_bool]
      simp
      apply h2
      rw [List.all_eq_false]
      exact ⟨ch, List.mem_of_getElem? hch, by rw [hc]; simp⟩

include G
theorem is_name_ok {v : AV} {k : String} (hk : vkind H v = some k) (hl : ∀ s, v = .str s → s.length < 2 ^ 62) (q : Q (.bool (nameB v)) H) : CallOK c (n + 1) true "is_name" [v] Q E H := by
  refine G.call (F := f_is_name) rfl rfl ?_
  have hg : c.P.consts.lookup "MOST_SIGNS" = some (.int 12) := by rw [G.hP]; rfl
  have hg2 : c.P.consts.lookup "LETTERS" = some (.str letters) := by rw [G.hP]; rfl
  by_cases hks : k = "str"
  · subst hks
    obtain ⟨s, rfl⟩ := kind_str hk
    have hl := hl s rfl
    show wpSs _ f_is_name.body _ _ _ _ _
    simp only [f_is_name, w_cons, w_ite]
    simp [initV, isinstV, hk, wprim, hl, hg, w_nil, wpX, wpXs, wpAO, wpO, wpC, wpT, wtg, b_add, b_sub, b_mul, b_div, b_mod, b_pow, b_adds, c_lt, c_le, c_gt, c_ge, c_eq, c_ne, c_eqs, c_nes, c_in, c_nin, t_bool, t_int, t_none]
    by_cases a : (1 : Int) ≤ s.length
    · by_cases b : (s.length : Int) ≤ 12
      · simp only [a, b, if_true]
        refine signs (fun V H Q E => by simp [hg2, wpX, wpXs, wpAO, wpO, wpC, wpT, wtg, b_add, b_sub, b_mul, b_div, b_mod, b_pow, b_adds, c_lt, c_le, c_gt, c_ge, c_eq, c_ne, c_eqs, c_nes, c_in, c_nin, t_bool, t_int, t_none]) rfl (fun h a' => ?_) (fun h => ?_)
        · simp [w_ret, wpX, wpXs, wpAO, wpO, wpC, wpT, wtg, b_add, b_sub, b_mul, b_div, b_mod, b_pow, b_adds, c_lt, c_le, c_gt, c_ge, c_eq, c_ne, c_eqs, c_nes, c_in, c_nin, t_bool, t_int, t_none]
          have : nameB (.str s) = true := by simp only [nameB, h]; simp; omega
          rw [this] at q; exact q
        · have : nameB (.str s) = false := by simp only [nameB, h]; simp
          rw [this] at q; exact q
      · simp [a, b, w_ret, wpX, wpXs, wpAO, wpO, wpC, wpT, wtg, b_add, b_sub, b_mul, b_div, b_mod, b_pow, b_adds, c_lt, c_le, c_gt, c_ge, c_eq, c_ne, c_eqs, c_nes, c_in, c_nin, t_bool, t_int, t_none]
        have : nameB (.str s) = false := by simp [nameB]; omega
        rw [this] at q; exact q
    · simp [a, w_ret, wpX, wpXs, wpAO, wpO, wpC, wpT, wtg, b_add, b_sub, b_mul, b_div, b_mod, b_pow, b_adds, c_lt, c_le, c_gt, c_ge, c_eq, c_ne, c_eqs, c_nes, c_in, c_nin, t_bool, t_int, t_none]
      have : nameB (.str s) = false := by simp [nameB]; omega
      rw [this] at q; exact q
  · simp only [f_is_name, w_cons, w_ite]
    have e1 : (k == "str") = false := by simpa using hks
    have e2 : ("str" == "int") = false := by decide
    simp [initV, isinstV, hk, e1, w_nil, w_ret, w_cons, wpX, wpXs, wpAO, wpO, wpC, wpT, wtg, b_add, b_sub, b_mul, b_div, b_mod, b_pow, b_adds, c_lt, c_le, c_gt, c_ge, c_eq, c_ne, c_eqs, c_nes, c_in, c_nin, t_bool, t_int, t_none]
    rw [name_not hk hks] at q
    exact q

theorem law_is_name_ok {v : AV} {k : String} (hk : vkind H v = some k) (hl : ∀ s, v = .str s → s.length < 2 ^ 62) (q : Q (.bool (nameB v)) H) : CallOK c (n + 1) true "_law_is_name" [v] Q E H := by
  refine G.call (F := f__law_is_name) rfl rfl ?_
  by_cases hks : k = "str"
  · subst hks
    obtain ⟨s, rfl⟩ := kind_str hk
    have hl := hl s rfl
    show wpSs _ f__law_is_name.body _ _ _ _ _
    simp only [f__law_is_name, w_cons, w_ite]
    simp [initV, isinstV, hk, wprim, hl, w_nil, wpX, wpXs, wpAO, wpO, wpC, wpT, wtg, b_add, b_sub, b_mul, b_div, b_mod, b_pow, b_adds, c_lt, c_le, c_gt, c_ge, c_eq, c_ne, c_eqs, c_nes, c_in, c_nin, t_bool, t_int, t_none]
    by_cases a : s = Str.ofString ""
    · simp [a, w_ret, wpX, wpXs, wpAO, wpO, wpC, wpT, wtg, b_add, b_sub, b_mul, b_div, b_mod, b_pow, b_adds, c_lt, c_le, c_gt, c_ge, c_eq, c_ne, c_eqs, c_nes, c_in, c_nin, t_bool, t_int, t_none]
      have : nameB (.str s) = false := by rw [a]; decide +kernel
      rw [this] at q; exact q
    · by_cases b : (12 : Int) < s.length
      · simp [a, b, w_ret, wpX, wpXs, wpAO, wpO, wpC, wpT, wtg, b_add, b_sub, b_mul, b_div, b_mod, b_pow, b_adds, c_lt, c_le, c_gt, c_ge, c_eq, c_ne, c_eqs, c_nes, c_in, c_nin, t_bool, t_int, t_none]
        have : nameB (.str s) = false := by simp [nameB]; omega
        rw [this] at q; exact q
      · have a' : (s == Str.ofString "") = false := by simpa using a
        have hz : 1 ≤ s.length := by
          rcases Nat.eq_zero_or_pos s.length with z | z
          · exfalso; apply a
            have h0 : s.cps = #[] := Array.eq_empty_of_size_eq_zero z
            obtain ⟨cps⟩ := s
            simp only at h0; rw [h0]; decide +kernel
          · exact z
        simp [a, a', b]
        refine signs (fun V H Q E => by simp [wpX, wpXs, wpAO, wpO, wpC, wpT, wtg, b_add, b_sub, b_mul, b_div, b_mod, b_pow, b_adds, c_lt, c_le, c_gt, c_ge, c_eq, c_ne, c_eqs, c_nes, c_in, c_nin, t_bool, t_int, t_none]; rfl) rfl (fun h a' => ?_) (fun h => ?_)
        · simp [w_ret, wpX, wpXs, wpAO, wpO, wpC, wpT, wtg, b_add, b_sub, b_mul, b_div, b_mod, b_pow, b_adds, c_lt, c_le, c_gt, c_ge, c_eq, c_ne, c_eqs, c_nes, c_in, c_nin, t_bool, t_int, t_none]
          have : nameB (.str s) = true := by simp only [nameB, h]; simp; omega
          rw [this] at q; exact q
        · have : nameB (.str s) = false := by simp only [nameB, h]; simp
          rw [this] at q; exact q
  · simp only [f__law_is_name, w_cons, w_ite]
    have e1 : (k == "str") = false := by simpa using hks
    simp [initV, isinstV, hk, e1, w_nil, w_ret, w_cons, wpX, wpXs, wpAO, wpO, wpC, wpT, wtg, b_add, b_sub, b_mul, b_div, b_mod, b_pow, b_adds, c_lt, c_le, c_gt, c_ge, c_eq, c_ne, c_eqs, c_nes, c_in, c_nin, t_bool, t_int, t_none]
    rw [name_not hk hks] at q
    exact q

theorem name_ok {v : AV} {k : String} (hk : vkind H v = some k) (hl : ∀ s, v = .str s → s.length < 2 ^ 62) (q : if nameB v then Q v H else E "NoName" H) : CallOK c (n + 2) true "name_of" [v] Q E H := by
  refine G.call (F := f_name_of) rfl rfl ?_
  simp [f_name_of, initV, wpSs, wpS, wpX, wpXs, wpAO, wpO, wpC, wpHs, wpH, wpT, wtg, b_add, b_sub, b_mul, b_div, b_mod, b_pow, b_adds, c_lt, c_le, c_gt, c_ge, c_eq, c_ne, c_eqs, c_nes, c_in, c_nin, t_bool, t_int, t_none]
  refine is_name_ok G hk hl ?_
  cases h : nameB v <;> simp [h, wpSs, wpS, wpX, wpXs, wpAO, wpO, wpC, wpHs, wpH, wpT, wtg, b_add, b_sub, b_mul, b_div, b_mod, b_pow, b_adds, c_lt, c_le, c_gt, c_ge, c_eq, c_ne, c_eqs, c_nes, c_in, c_nin, t_bool, t_int, t_none] at q ⊢ <;> exact q

theorem sign_ok {x : Int} (q : ∀ ch, Q (.str ⟨#[ch]⟩) H) : CallOK c (n + 1) md "_law_sign_by" [.int x] Q E H := by
  refine G.call (F := f__law_sign_by) rfl rfl ?_
  simp [f__law_sign_by, initV, wpSs, wpS, wpX, wpXs, wpAO, wpO, wpC, wpHs, wpH, wpT, wtg, b_add, b_sub, b_mul, b_div, b_mod, b_pow, b_adds, c_lt, c_le, c_gt, c_ge, c_eq, c_ne, c_eqs, c_nes, c_in, c_nin, t_bool, t_int, t_none]
  have h1 := fmod_lo (x := x) (m := 96) (by decide)
  have h2 := fmod_hi (x := x) (m := 96) (by decide)
  have hz : (Str.ofString " !\"#$&'()*+,-./0123456789:;<=>?@ABCDEFGHIJKLMNOPQRSTUVWXYZ[\\]^_`" ++ Str.ofString "abcdefghijklmnopqrstuvwxyz{|}~\n\t").cps.size = 96 := by decide +kernel
  refine ⟨by decide +kernel, sub_str h1 (by rw [hz]; exact h2) (by rw [hz]; decide) fun ch _ => q ch⟩

theorem text_tail {sp : Addr} {ns : List Int} {sz : Int} (hs : H sp = some (.script ns)) (hl : ns.length < 2 ^ 62) (h0 : 0 ≤ sz) (h80 : sz ≤ 80) (q : ∀ s H', s.length ≤ 80 → Q (.str s) H') :
    wpSs ⟨c, n + 1, true⟩ (f__law_text_by.body.drop 2) (fun _ H => Q .none H) Q (fun cl _ H => E cl H) [some (.ref sp), some (.int sz), none, none, none, none] H := by
  have C := @cell_ok c P G rfl
  simp only [f__law_text_by, List.drop_succ_cons, List.drop_zero]
  rw [w_cons, w_asg]
  simp [wpX, wpXs, wpAO, wpO, wpC, wpT, wtg, b_add, b_sub, b_mul, b_div, b_mod, b_pow, b_adds, c_lt, c_le, c_gt, c_ge, c_eq, c_ne, c_eqs, c_nes, c_in, c_nin, t_bool, t_int, t_none]
  refine C (by decide) hs hl ?_
  simp [wpX, wpXs, wpAO, wpO, wpC, wpT, wtg, b_add, b_sub, b_mul, b_div, b_mod, b_pow, b_adds, c_lt, c_le, c_gt, c_ge, c_eq, c_ne, c_eqs, c_nes, c_in, c_nin, t_bool, t_int, t_none]
  generalize (cell ns 2).fmod 3 = wy
  rw [w_cons, w_asg]
  simp [wpX, wpXs, wpAO, wpO, wpC, wpT, wtg, b_add, b_sub, b_mul, b_div, b_mod, b_pow, b_adds, c_lt, c_le, c_gt, c_ge, c_eq, c_ne, c_eqs, c_nes, c_in, c_nin, t_bool, t_int, t_none]
  rw [w_cons]
  simp only [wpS, true_and]
  simp [wprim, wpXs, wpX]
  refine ⟨by omega, fun z hz => ?_⟩
  refine wfor (xs := (List.range sz.toNat).map fun (k : Nat) => AV.int (0 + k)) (by simp [itemsOf, up_same]) (fun k V' H' => H' = up H z (.range 0 sz) ∧ ∃ w a b, V' = [some (.ref sp), some (.int sz), some (.int wy), some (.str w), a, b] ∧ w.length = k ∧ k ≤ sz.toNat) ⟨rfl, Str.ofString "", none, none, rfl, by decide +kernel, by omega⟩ ?_
  rintro k V' H' ⟨rfl, w, a, b, rfl, hw, hkz⟩
  have hs' : up H z (.range 0 sz) sp = some (.script ns) := up_ne hs hz
  refine ⟨rfl, fun hk => ?_, fun x hx => ?_⟩
  · simp [wpSs, wpS, wpX, wpXs, wpAO, wpO, wpC, wpHs, wpH, wpT, wtg, b_add, b_sub, b_mul, b_div, b_mod, b_pow, b_adds, c_lt, c_le, c_gt, c_ge, c_eq, c_ne, c_eqs, c_nes, c_in, c_nin, t_bool, t_int, t_none]
    exact q w _ (by omega)
  · rw [List.getElem?_map, Option.map_eq_some_iff] at hx
    obtain ⟨k', hk', rfl⟩ := hx
    have hlt : k < sz.toNat := by have := (List.getElem?_eq_some_iff.mp hk').1; simpa using this
    rw [List.getElem?_range hlt] at hk'
    cases hk'
    simp only [wtg]
    simp
    rw [w_cons, w_asg]
    simp [wpX, wpXs, wpAO, wpO, wpC, wpT, wtg, b_add, b_sub, b_mul, b_div, b_mod, b_pow, b_adds, c_lt, c_le, c_gt, c_ge, c_eq, c_ne, c_eqs, c_nes, c_in, c_nin, t_bool, t_int, t_none]
    refine C (by omega) hs' hl ?_
    rw [w_cons, w_ite]
    generalize cell ns _ = y
    have one : ∀ ch : Nat, (w ++ (⟨#[ch]⟩ : Str)).length = k + 1 := fun ch => by rw [Str.length_append, hw]; rfl
    have lA : ∀ {R : VV → AHeap → Prop}, (∀ ch, R [some (.ref sp), some (.int sz), some (.int wy), some (.str (w ++ ⟨#[ch]⟩)), some (.int k), some (.int y)] (up H z (.range 0 sz))) →
        wpSs ⟨c, n + 1, true⟩ [.assign (.var 3) (.bin .Add (.var 3) (.call "_law_sign_by" [(.var 5)]))] R Q (fun cl _ H => E cl H) [some (.ref sp), some (.int sz), some (.int wy), some (.str w), some (.int k), some (.int y)] (up H z (.range 0 sz)) := fun {R} h => by
      rw [w_cons, w_asg]
      simp [wpX, wpXs, wpAO, wpO, wpC, wpT, wtg, b_add, b_sub, b_mul, b_div, b_mod, b_pow, b_adds, c_lt, c_le, c_gt, c_ge, c_eq, c_ne, c_eqs, c_nes, c_in, c_nin, t_bool, t_int, t_none]
      refine sign_ok G fun ch => ?_
      simp [wpX, wpXs, wpAO, wpO, wpC, wpT, wtg, b_add, b_sub, b_mul, b_div, b_mod, b_pow, b_adds, c_lt, c_le, c_gt, c_ge, c_eq, c_ne, c_eqs, c_nes, c_in, c_nin, t_bool, t_int, t_none, w_nil]
      exact ⟨by have := one ch; rw [Str.length_append] at this; rw [this]; unfold sizeLine; omega, h ch⟩
    have lB : ∀ {R : VV → AHeap → Prop}, (∀ ch, R [some (.ref sp), some (.int sz), some (.int wy), some (.str (w ++ ⟨#[ch]⟩)), some (.int k), some (.int y)] (up H z (.range 0 sz))) →
        wpSs ⟨c, n + 1, true⟩ [.assign (.var 3) (.bin .Add (.var 3) (.sub (.lit (.str (Str.ofString "abcdefghijklmnopqrstuvwxyz"))) (.bin .Mod (.var 5) (.lit (.int 26)))))] R Q (fun cl _ H => E cl H) [some (.ref sp), some (.int sz), some (.int wy), some (.str w), some (.int k), some (.int y)] (up H z (.range 0 sz)) := fun {R} h => by
      rw [w_cons, w_asg]
      simp [wpX, wpXs, wpAO, wpO, wpC, wpT, wtg, b_add, b_sub, b_mul, b_div, b_mod, b_pow, b_adds, c_lt, c_le, c_gt, c_ge, c_eq, c_ne, c_eqs, c_nes, c_in, c_nin, t_bool, t_int, t_none]
      have hz26 : (Str.ofString "abcdefghijklmnopqrstuvwxyz").cps.size = 26 := by decide +kernel
      refine sub_str (fmod_lo (by decide)) (by rw [hz26]; exact fmod_hi (by decide)) (by rw [hz26]; decide) fun ch _ => ?_
      simp [wpX, wpXs, wpAO, wpO, wpC, wpT, wtg, b_add, b_sub, b_mul, b_div, b_mod, b_pow, b_adds, c_lt, c_le, c_gt, c_ge, c_eq, c_ne, c_eqs, c_nes, c_in, c_nin, t_bool, t_int, t_none, w_nil]
      exact ⟨by have := one ch; rw [Str.length_append] at this; rw [this]; unfold sizeLine; omega, h ch⟩
    simp [wpX, wpXs, wpAO, wpO, wpC, wpT, wtg, b_add, b_sub, b_mul, b_div, b_mod, b_pow, b_adds, c_lt, c_le, c_gt, c_ge, c_eq, c_ne, c_eqs, c_nes, c_in, c_nin, t_bool, t_int, t_none]
    by_cases e2 : wy = 2
    · subst e2
      simp
      exact lA fun ch => by rw [w_nil]; exact ⟨rfl, _, ⟨_, _, rfl⟩, one ch, by omega⟩
    · by_cases e1 : wy = 1
      · subst e1
        simp
        refine C (by decide) hs' hl ?_
        simp [wpX, wpXs, wpAO, wpO, wpC, wpT, wtg, b_add, b_sub, b_mul, b_div, b_mod, b_pow, b_adds, c_lt, c_le, c_gt, c_ge, c_eq, c_ne, c_eqs, c_nes, c_in, c_nin, t_bool, t_int, t_none]
        refine ⟨by omega, ?_⟩
        split
        · exact lA fun ch => by rw [w_nil]; exact ⟨rfl, _, ⟨_, _, rfl⟩, one ch, by omega⟩
        · exact lB fun ch => by rw [w_nil]; exact ⟨rfl, _, ⟨_, _, rfl⟩, one ch, by omega⟩
      · simp [e1, e2]
        exact lB fun ch => by rw [w_nil]; exact ⟨rfl, _, ⟨_, _, rfl⟩, one ch, by omega⟩

theorem text_ok {sp : Addr} {ns : List Int} (hs : H sp = some (.script ns)) (hl : ns.length < 2 ^ 62) (q : ∀ s H', s.length ≤ 80 → Q (.str s) H') : CallOK c (n + 2) true "_law_text_by" [.ref sp] Q E H := by
  have C := @cell_ok c P G rfl
  refine G.call (F := f__law_text_by) rfl rfl ?_
  show wpSs _ (_ :: _ :: f__law_text_by.body.drop 2) _ _ _ [some (.ref sp), none, none, none, none, none] _
  rw [w_cons, w_asg]
  simp [wpX, wpXs, wpAO, wpO, wpC, wpT, wtg, b_add, b_sub, b_mul, b_div, b_mod, b_pow, b_adds, c_lt, c_le, c_gt, c_ge, c_eq, c_ne, c_eqs, c_nes, c_in, c_nin, t_bool, t_int, t_none]
  refine C (by decide) hs hl ?_
  simp [wpX, wpXs, wpAO, wpO, wpC, wpT, wtg, b_add, b_sub, b_mul, b_div, b_mod, b_pow, b_adds, c_lt, c_le, c_gt, c_ge, c_eq, c_ne, c_eqs, c_nes, c_in, c_nin, t_bool, t_int, t_none]
  rw [w_cons, w_ite]
  simp [wpX, wpXs, wpAO, wpO, wpC, wpT, wtg, b_add, b_sub, b_mul, b_div, b_mod, b_pow, b_adds, c_lt, c_le, c_gt, c_ge, c_eq, c_ne, c_eqs, c_nes, c_in, c_nin, t_bool, t_int, t_none]
  refine C (by decide) hs hl ?_
  simp [wpX, wpXs, wpAO, wpO, wpC, wpT, wtg, b_add, b_sub, b_mul, b_div, b_mod, b_pow, b_adds, c_lt, c_le, c_gt, c_ge, c_eq, c_ne, c_eqs, c_nes, c_in, c_nin, t_bool, t_int, t_none]
  split
  · rw [w_cons, w_asg]
    simp [wpX, wpXs, wpAO, wpO, wpC, wpT, wtg, b_add, b_sub, b_mul, b_div, b_mod, b_pow, b_adds, c_lt, c_le, c_gt, c_ge, c_eq, c_ne, c_eqs, c_nes, c_in, c_nin, t_bool, t_int, t_none]
    refine C (by decide) hs hl ?_
    simp [wpX, wpXs, wpAO, wpO, wpC, wpT, wtg, b_add, b_sub, b_mul, b_div, b_mod, b_pow, b_adds, c_lt, c_le, c_gt, c_ge, c_eq, c_ne, c_eqs, c_nes, c_in, c_nin, t_bool, t_int, t_none, w_nil]
    exact text_tail G hs hl (fmod_lo (by decide)) (by have := fmod_hi (x := (cell ns 1).fdiv 75) (m := 81) (by decide); omega) q
  · simp [w_nil]
    exact text_tail G hs hl (fmod_lo (by decide)) (by have := fmod_hi (x := (cell ns 1)) (m := 15) (by decide); omega) q

def okV (H : AHeap) (v : AV) : Prop := (∃ k, vkind H v = some k) ∧ ∀ s, v = .str s → s.length < 2 ^ 62

theorem thing_ok {sp : Addr} {ns : List Int} (hs : H sp = some (.script ns)) (hl : ns.length < 2 ^ 62) (q : ∀ v H', okV H' v → Q v H') : CallOK c (n + 3) true "_law_thing_by" [.ref sp] Q E H := by
  have C := @cell_ok c P G rfl
  refine G.call (F := f__law_thing_by) rfl rfl ?_
  simp [f__law_thing_by, initV, wpSs, wpS, wpX, wpXs, wpAO, wpO, wpC, wpHs, wpH, wpT, wtg, b_add, b_sub, b_mul, b_div, b_mod, b_pow, b_adds, c_lt, c_le, c_gt, c_ge, c_eq, c_ne, c_eqs, c_nes, c_in, c_nin, t_bool, t_int, t_none]
  refine C (by decide) hs hl ?_
  simp [wpSs, wpS, wpX, wpXs, wpAO, wpO, wpC, wpHs, wpH, wpT, wtg, b_add, b_sub, b_mul, b_div, b_mod, b_pow, b_adds, c_lt, c_le, c_gt, c_ge, c_eq, c_ne, c_eqs, c_nes, c_in, c_nin, t_bool, t_int, t_none]
  split
  · exact text_ok G hs hl fun s H' h => q _ _ ⟨⟨"str", rfl⟩, fun s' e => by cases e; omega⟩
  split
  · refine C (by decide) hs hl ?_
    exact q _ _ ⟨⟨"int", rfl⟩, fun s' e => by cases e⟩
  intro a ha b hb z hz
  have hab : a ≠ b := by rintro rfl; simp [up_same] at hb
  have haz : a ≠ z := by rintro rfl; rw [up_other hab, up_same] at hz; cases hz
  have hbz : b ≠ z := by rintro rfl; simp [up_same] at hz
  have hs1 := up_ne (o := .list [.str (Str.ofString "ab")]) hs ha
  have hs2 := up_ne (o := .tuple [.str (Str.ofString "ab")]) hs1 hb
  refine C (by decide) (up_ne hs2 hz) hl ?_
  simp [wpSs, wpS, wpX, wpXs, wpAO, wpO, wpC, wpHs, wpH, wpT, wtg, b_add, b_sub, b_mul, b_div, b_mod, b_pow, b_adds, c_lt, c_le, c_gt, c_ge, c_eq, c_ne, c_eqs, c_nes, c_in, c_nin, t_bool, t_int, t_none]
  have h1 := fmod_lo (x := cell ns 1) (m := 5) (by decide)
  have h2 := fmod_hi (x := cell ns 1) (m := 5) (by decide)
  generalize (cell ns 1).fmod 5 = y at h1 h2 ⊢
  have hy : y = 0 ∨ y = 1 ∨ y = 2 ∨ y = 3 ∨ y = 4 := by omega
  rcases hy with rfl | rfl | rfl | rfl | rfl <;> simp [wsub, up_same, pyIdx]
  · exact q _ _ ⟨⟨"bool", rfl⟩, fun s' e => by cases e⟩
  · exact q _ _ ⟨⟨"bool", rfl⟩, fun s' e => by cases e⟩
  · exact q _ _ ⟨⟨"NoneType", rfl⟩, fun s' e => by cases e⟩
  · exact q _ _ ⟨⟨"list", by simp [vkind, up_other haz, up_other hab, up_same]⟩, fun s' e => by cases e⟩
  · exact q _ _ ⟨⟨"tuple", by simp [vkind, up_other hbz, up_same]⟩, fun s' e => by cases e⟩

theorem refused_ok {v : AV} {k : String} (hk : vkind H v = some k) (hl : ∀ s, v = .str s → s.length < 2 ^ 62) (hg : nameB v = false) (q : ∀ H', Q (.bool true) H') : CallOK c (n + 3) true "_law_refused_by_any" [v] Q E H := by
  refine G.call (F := f__law_refused_by_any) rfl rfl ?_
  simp [f__law_refused_by_any, initV, wpSs, wpS, wpX, wpXs, wpAO, wpO, wpC, wpHs, wpH, wpT, wtg, b_add, b_sub, b_mul, b_div, b_mod, b_pow, b_adds, c_lt, c_le, c_gt, c_ge, c_eq, c_ne, c_eqs, c_nes, c_in, c_nin, t_bool, t_int, t_none]
  refine name_ok G hk hl ?_
  have h1 : excSub c.P "NoName" "BookError" = true := by rw [G.hP]; rfl
  simp [hg, h1]
  intro a ha
  have h2 : isinstV c.P (up H a (.exc "NoName")) (.ref a) "ValueError" = some true := by rw [G.hP]; simp [isinstV, up_same]; rfl
  simp [h2]
  exact q _

theorem law_ok {sp : Addr} {ns : List Int} (hs : H sp = some (.script ns)) (hl : ns.length < 2 ^ 62) : CallOK c (n + 4) true "law" [.ref sp] (fun v _ => v = .bool true) (fun _ _ => False) H := by
  refine G.call (F := f_law) rfl rfl ?_
  simp [f_law, initV, wpSs, wpS, wpX, wpXs, wpAO, wpO, wpC, wpHs, wpH, wpT, wtg, b_add, b_sub, b_mul, b_div, b_mod, b_pow, b_adds, c_lt, c_le, c_gt, c_ge, c_eq, c_ne, c_eqs, c_nes, c_in, c_nin, t_bool, t_int, t_none]
  refine thing_ok G hs hl fun v H' hv => ?_
  obtain ⟨⟨k, hk⟩, hsl⟩ := hv
  have h1 : excSub c.P "NoName" "NoName" = true := by rw [G.hP]; rfl
  refine name_ok G hk hsl ?_
  cases hg : nameB v with
  | true =>
    obtain ⟨s, rfl⟩ : ∃ s, v = .str s := by cases v <;> first | exact ⟨_, rfl⟩ | cases hg
    simp
    refine law_is_name_ok G hk hsl ?_
    have h2 : isinstV c.P H' (.str s) "str" = some true := by simp [isinstV, vkind]
    simp [wpSs, wpS, wpX, wpXs, wpAO, wpO, wpC, wpHs, wpH, wpT, wtg, b_add, b_sub, b_mul, b_div, b_mod, b_pow, b_adds, c_lt, c_le, c_gt, c_ge, c_eq, c_ne, c_eqs, c_nes, c_in, c_nin, t_bool, t_int, t_none, hg, h2]
  | false =>
    simp [h1]
    refine law_is_name_ok G hk hsl ?_
    simp [wpSs, wpS, wpX, wpXs, wpAO, wpO, wpC, wpHs, wpH, wpT, wtg, b_add, b_sub, b_mul, b_div, b_mod, b_pow, b_adds, c_lt, c_le, c_gt, c_ge, c_eq, c_ne, c_eqs, c_nes, c_in, c_nin, t_bool, t_int, t_none, hg]
    exact refused_ok G hk hsl hg fun _ => rfl
end
end Mine.L01

open PySem.W.X in
set_option maxHeartbeats 0 in
theorem PySem.Challenge.cw_uf020038_01_holds : PySem.Challenge.rw_uf020038_01.Holds := by
  w_on; o_law; k_head; (case hw => w_witness2)
  k_fill
  intro w s₀ s₁ mg mb G Y fa o pm cd doc dV kV ho hd hcd hD hmg hg args vals as hpre hlay hrd hwl hlo
  have KX := kIn_of Y
  clear Y ho hd hcd hD
  refine Ground.open G ?_
  intro T B D TE TW
  wrow_args hpre hlay hrd hwl hlo
  clear G B D TE TW
  have hseer := T.seer (by decide +kernel)
  refine Mine.enter (P := Mine.L01.P) (n := 4) (by decide) KX T hseer (by rfl) rfl hmg (by kernel_rfl) (by rfl) (Mine.script_get (by assumption) (by assumption)) (by assumption) ?mineC ?mineQ
  case mineC =>
    intro c hP C PO FO
    exact Mine.L01.law_ok (n := 0) ⟨hP, ⟨_, _, C⟩, PO, FO⟩ Mine.scriptH_at (by omega)
  case mineQ =>
    intro s' st ho hgn
    exact GoodW.toG ⟨.inl ⟨.bool true, .bool true, [], rfl, fun _ => rfl, .bool true, by kernel_rfl, fun _ => ⟨List.nodup_nil, fun a ha => by cases ha⟩⟩, st, ho, hgn.trans hg⟩
#print axioms PySem.Challenge.cw_uf020038_01_holds
