import PyProof.Rows.All
import Wide.All
import OpenK.AllK
import Wide.FinOn
import KE.KDictList
import KE.KEqDict
import Open.Boot
import Open.FastT9
import Open.Tree
import OpenK.KCell
import OpenK.KList
import OpenK.KMore
import OpenK.KOwn
import OpenK.KWalk
import PyProof.NsDelKeeps
import PyProof.WalksMore
import PyProof.WalksPairs
import PySem.Challenge.RW_uf020038_07
open PySem PySem.W PyProof.Rows PySem.Spec PySem.SeqAt PySem.Calls
set_option Elab.async false
set_option maxRecDepth 100000
set_option maxHeartbeats 4000000
set_option linter.all false
set_option bootstrap.genMatcherCode false
set_option genSizeOf false
set_option genSizeOfSpec false
section
open PySem PySem.W PyProof.Rows PySem.Spec PySem.SeqAt
namespace Mine

inductive AV where
  | none
  | bool (b : Bool)
  | int (i : Int)
  | str (s : Str)
  | ref (a : Addr)
  deriving DecidableEq, Inhabited

inductive Sta where
  | opn | dn | fln
  deriving DecidableEq, Inhabited
noncomputable def Sta.str : Sta → Str
  | .opn => Str.ofString "open"
  | .dn => Str.ofString "done"
  | .fln => Str.ofString "fallen"
structure Pc where
  name : Str
  parts : List (Str × Int)
  gains : List (Str × Int)
  needs : List Str
  last : Int
  state : Sta
  inside : List Str
structure Bk where
  day : Int
  free : List (Str × Int)
  aside : List (Str × Int)
  pacts : List Pc

noncomputable def letters : Str := Str.ofString "abcdefghijklmnopqrstuvwxyz"
noncomputable def isNm (s : Str) : Bool := decide (1 ≤ s.length ∧ s.length ≤ 12) && s.cps.toList.all fun ch => letters.cps.toList.contains ch

noncomputable def lk {α : Type} (l : List (Str × α)) (k : Str) : Option α := (l.find? fun e => e.1 = k).map (·.2)
noncomputable def pt {α : Type} (l : List (Str × α)) (k : Str) (v : α) : List (Str × α) := if (lk l k).isSome then l.map (fun e => if e.1 = k then (e.1, v) else e) else l ++ [(k, v)]
inductive AObj where
  | list (xs : List AV)
  | tuple (xs : List AV)
  | dict (ep : Nat) (es : List (Str × AV))
  | inst (c : String) (es : List (String × AV))
  | range (lo hi : Int)
  | vals (d : Addr)
  | itms (d : Addr)
  | exc (c : String)
  | script (ns : List Int)
  | book (B : Bk)

noncomputable def AObj.isB : AObj → Bool
  | .book _ => true
  | _ => false
noncomputable def AObj.isS : AObj → Bool
  | .script _ => true
  | _ => false
noncomputable def AObj.isX : AObj → Bool
  | .script _ => true
  | .exc _ => true
  | _ => false

abbrev AHeap := Addr → Option AObj
noncomputable def up (H : AHeap) (a : Addr) (o : AObj) : AHeap := fun b => if b = a then some o else H b
abbrev VV := List (Option AV)

inductive VR : AV → Value → Prop
  | none : VR .none .none
  | bool (b : Bool) : VR (.bool b) (.bool b)
  | int (i : Int) (t : Tok) : VR (.int i) (.int i t)
  | str (s : Str) (t : Tok) (h : PyData.strOk s = true) : VR (.str s) (.str s t)
  | ref (a : Addr) : VR (.ref a) (.ref a)
inductive VRs : List AV → List Value → Prop
  | nil : VRs [] []
  | cons {a v as vs} : VR a v → VRs as vs → VRs (a :: as) (v :: vs)
inductive OVR : Option AV → Option Value → Prop
  | none : OVR Option.none Option.none
  | some {a v} : VR a v → OVR (Option.some a) (Option.some v)
inductive DRs : List (Str × AV) → List (Str × Value) → Prop
  | nil : DRs [] []
  | cons {k a v as vs} : PyData.strOk k = true → VR a v → DRs as vs → DRs ((k, a) :: as) ((k, v) :: vs)

inductive Tg where
  | var (i : Nat)
  | tup (is : List Nat)

inductive Pr where
  | len | list | range | all | min
noncomputable def Pr.str : Pr → String
  | .len => "len" | .list => "list" | .range => "range" | .all => "all" | .min => "min"
inductive BM where
  | append
noncomputable def BM.str : BM → String
  | .append => "append"

inductive X where
  | lit (v : AV)
  | var (i : Nat)
  | glob (n : String)
  | bin (op : Operator) (a b : X)
  | neg (a : X)
  | not (a : X)
  | ao (isAnd : Bool) (xs : List X)
  | ite (c a b : X)
  | cmp (op : CmpOp) (a b : X)
  | cmp2 (op₁ op₂ : CmpOp) (a b c : X)
  | sub (a i : X)
  | slice (a : X) (lo hi st : Option X)
  | attr (a : X) (n : String)
  | call (f : String) (xs : List X)
  | new (c : String) (xs : List X)
  | meth (a : X) (m : String) (xs : List X)
  | bm (a : X) (m : BM) (xs : List X)
  | prim (f : Pr) (xs : List X)
  | isinst (a : X) (c : String)
  | list (xs : List X)
  | tuple (xs : List X)
  | dict (ks vs : List X)
  | comp (e : X) (k : Nat) (tup : Bool) (it : X) (c : Option X)

inductive T where
  | var (i : Nat)
  | tup (is : List Nat)
  | sub (a i : X)
  | attr (a : X) (n : String)

mutual
inductive S where
  | assign (t : T) (e : X)
  | expr (e : X)
  | ret (e : X)
  | ite (c : X) (a b : List S)
  | while (c : X) (body : List S)
  | for (t : Tg) (it : X) (body : List S)
  | raise (c : String) (msg : Str)
  | try (body : List S) (hs : List Hd)
  | pass
inductive Hd where
  | mk (c : String) (nm : Option Nat) (body : List S)
end

structure Fn where
  npar : Nat
  slots : List String
  body : List S

structure Pg where
  fns : List (String × Fn)
  gfns : List String
  consts : List (String × AV)
  excs : List (String × List String)
  classes : List String
  meths : List (String × String)
  attrs : List (String × String)
  prims : List String

inductive Res where
  | ns (m : Str → Option Value)
  | cell (v : Option Value)
  | obj (o : Obj)
abbrev RR := Addr → Option Res
noncomputable def rup (R : RR) (a : Addr) (r : Res) : RR := fun b => if b = a then some r else R b

noncomputable def ResAt (h : Heap) (b : Addr) : Res → Prop
  | .ns m => h.Ns b m
  | .cell v => ∃ o, h.get? b = some o ∧ o.data = .cell v
  | .obj o => h.get? b = some o

structure Cx where
  prog : Program
  w : World
  K : Frag
  base : Heap
  P : Pg
  fa : String → Addr
  ca : String → Addr

noncomputable def attrsAre (es : List (String × AV)) (ents : List DictEntry) : Prop :=
  match es, ents with
  | [], [] => True
  | (n, a) :: r, e :: q => (∃ t, e.key = .str (Str.ofString n) t) ∧ VR a e.val ∧ attrsAre r q
  | _, _ => False

noncomputable def RgOk (a b : Int) : Prop := -(2 ^ 62) < a ∧ a < 2 ^ 62 ∧ -(2 ^ 62) < b ∧ b < 2 ^ 62
noncomputable def ORep (c : Cx) (h : Heap) (D : Addr → Addr) (a : Addr) : AObj → Prop
  | .list xs => ∃ vs n, h.get? a = some (listOf (vs : List Value).toArray n) ∧ VRs xs vs
  | .tuple xs => ∃ vs n, h.get? a = some { cls := .type "tuple", data := .seq (vs : List Value).toArray n } ∧ VRs xs vs
  | .dict ep es => ∃ kvs, h.DictAt (strKind c.prog c.w) a kvs ep ∧ DRs es kvs
  | .inst cl es => h.get? a = some (instObj (c.ca cl) (D a)) ∧ ∃ ents n, h.get? (D a) = some (dictOf ents n) ∧ attrsAre es ents ∧ (es.map (·.1)).Nodup
  | .range lo hi => RgOk lo hi ∧ ∃ t u v, IsRange h a lo hi 1 t u v
  | .vals d => h.get? a = some { cls := .type "dict_values", data := .fields #[.ref d] }
  | .itms d => h.get? a = some { cls := .type "dict_items", data := .fields #[.ref d] }
  | .exc cl => ∃ o, h.get? a = some o ∧ o.cls = .ref (c.ca cl) ∧ ∃ vs, o.data = .fields vs
  | .script ns => ∃ vs n, h.get? a = some (listOf (vs : List Value).toArray n) ∧ VRs (ns.map AV.int) vs
  | .book _ => False

noncomputable def Abv (c : Cx) (a : Addr) (o : AObj) : Prop := (o.isS = false → c.base.get? a = none) ∧ (o.isX = false → c.base.objs.size ≤ a)
structure HR (c : Cx) (R : RR) (D : Addr → Addr) (H : AHeap) (h : Heap) : Prop where
  rep : ∀ a o, H a = some o → ORep c h D a o
  above : ∀ a o, H a = some o → Abv c a o ∧ R a = none
  dict : ∀ a cl es, H a = some (.inst cl es) → c.base.objs.size ≤ D a ∧ R (D a) = none ∧ H (D a) = none
  inj : ∀ a b cl es cl' es', H a = some (.inst cl es) → H b = some (.inst cl' es') → D a = D b → a = b

structure St1 (c : Cx) (R : RR) (H : AHeap) (h : Heap) : Prop where
  stays : c.base.StaysIn h
  size : c.base.objs.size ≤ h.objs.size
  res : ∀ b r, R b = some r → c.base.objs.size ≤ b ∧ ResAt h b r
  rep : ∃ D, HR c R D H h

inductive Role where
  | self | free | aside | pacts | pact (i : Nat) | inside (i : Nat) | data
noncomputable def dI (l : List (Str × Int)) : List (Str × AV) := l.map fun e => (e.1, .int e.2)
noncomputable def pairsAV (o : Addr → Option Role) (H : AHeap) : List Addr → List (Str × Int) → Prop
  | [], [] => True
  | t :: ts, e :: l => o t = some .data ∧ H t = some (.tuple [.str e.1, .int e.2]) ∧ pairsAV o H ts l
  | _, _ => False
noncomputable def PairsAt (o : Addr → Option Role) (H : AHeap) (p : Addr) (l : List (Str × Int)) : Prop := o p = some .data ∧ ∃ ts : List Addr, H p = some (.list (ts.map .ref)) ∧ pairsAV o H ts l
structure IsPact (o : Addr → Option Role) (H : AHeap) (i : Nat) (a : Addr) (q : Pc) : Prop where
  own : o a = some (.pact i)
  at_ : ∃ pa ga ne ins ep, H a = some (.inst "Pact" [("name", .str q.name), ("parts", .ref pa), ("gains", .ref ga), ("needs", .ref ne), ("last", .int q.last), ("state", .str q.state.str), ("inside", .ref ins)]) ∧
    PairsAt o H pa q.parts ∧ PairsAt o H ga q.gains ∧ o ne = some .data ∧ H ne = some (.list (q.needs.map .str)) ∧ o ins = some (.inside i) ∧ H ins = some (.dict ep (q.inside.map fun k => (k, .bool true)))
noncomputable def pactsAt (o : Addr → Option Role) (H : AHeap) : Nat → List Addr → List Pc → Prop
  | _, [], [] => True
  | i, a :: as, q :: qs => IsPact o H i a q ∧ pactsAt o H (i + 1) as qs
  | _, _, _ => False
noncomputable def dP : List Pc → List Addr → List (Str × AV)
  | q :: qs, a :: as => (q.name, .ref a) :: dP qs as
  | _, _ => []
structure IsBook (o : Addr → Option Role) (H : AHeap) (b f s p : Addr) (as : List Addr) (B : Bk) : Prop where
  ob : o b = some .self
  of : o f = some .free
  os : o s = some .aside
  op : o p = some .pacts
  hb : H b = some (.inst "Book" [("day", .int B.day), ("free", .ref f), ("aside", .ref s), ("pacts", .ref p)])
  hf : ∃ ep, H f = some (.dict ep (dI B.free))
  hs : ∃ ep, H s = some (.dict ep (dI B.aside))
  hp : ∃ ep, H p = some (.dict ep (dP B.pacts as))
  ps : pactsAt o H 0 as B.pacts
noncomputable def ownB (o : Addr → Option (Addr × Role)) (b : Addr) : Addr → Option Role := fun a => match o a with
  | some (c, r) => if c = b then some r else none
  | none => none
noncomputable def Real (H H₁ : AHeap) : Prop := (∀ a x, H₁ a = some x → x.isB = false) ∧ ∃ o : Addr → Option (Addr × Role), ∀ a x, H a = some x → (x.isB = false ∧ H₁ a = some x ∧ o a = none) ∨ ∃ B f s p as, x = .book B ∧ IsBook (ownB o a) H₁ a f s p as B
noncomputable def St (c : Cx) (R : RR) (H : AHeap) (h : Heap) : Prop := ∃ H₁, St1 c R H₁ h ∧ Real H H₁

noncomputable def Sm (s s' : Shared) : Prop := ∃ h tk, s' = { s with heap := h, toks := tk }

structure FEnv (R : RR) (e : Env) : Prop where
  kind : e.scope.kind = .function
  frame : e.frame = some e.locals
  gen : e.scope.isGenerator = false
  co : e.scope.isCoroutine = false
  blt : e.builtins = builtinsNs
  glob : e.globals = mainGlobals
  ns : ∃ m, R e.locals = some (.ns m)
noncomputable def Stk (R : RR) (stk : List Env) : Prop := ∀ e ∈ stk, FEnv R e

structure AOk (k n : Nat) (md : Bool) (A : Around) (stk : List Env) : Prop where
  frames : A.frames = some stk
  depth : A.depth + 110 + k + 8 * n < recursionLimit
  units : A.units + 100 + 10 * k + 60 * n < cLine
  hand : md = true → A.handled = none

inductive ExcAt (c : Cx) (R : RR) (H : AHeap) (h : Heap) (e : Addr) (cls : Value) : Value → Prop
  | fresh {t : Addr} : h.get? e = some { cls := cls, data := .fields #[.ref t, .none, .none, .none, .bool false, .none] } → ExcAt c R H h e cls .ellipsis
  | traced {oe : Obj} {vs : Array Value} {T : Addr} {oT : Obj} {ts : Array Value} {fl a0 : Value} : h.get? e = some oe → oe.cls = cls → oe.data = .fields vs → vs[0]? = some a0 → vs[1]? = some (.ref T) → T ≠ e →
      R T = none → H T = none → c.base.get? T = none → h.get? T = some oT → oT.data = .fields ts → ts[3]? = some fl → fl ≠ .ellipsis → ExcAt c R H h e cls fl

structure ExcSt1 (c : Cx) (R : RR) (H : AHeap) (e : Addr) (cl : String) (fl : Value) (h : Heap) : Prop where
  st : St1 c R H h
  re : R e = none
  he : H e = none
  be : c.base.get? e = none
  ob : ExcAt c R H h e (.ref (c.ca cl)) fl
  kn : (c.P.excs.lookup cl).isSome = true

noncomputable def ExcSt (c : Cx) (R : RR) (H : AHeap) (e : Addr) (cl : String) (fl : Value) (h : Heap) : Prop := ∃ H₁, ExcSt1 c R H₁ e cl fl h ∧ Real H H₁

noncomputable def CallOK (c : Cx) (n : Nat) (md : Bool) (f : String) (args : List AV) (Q : AV → AHeap → Prop) (E : String → AHeap → Prop) (H : AHeap) : Prop :=
  ∀ (A : Around) (stk : List Env) (R : RR) (s : Shared) (vals : List Value) (Rs : Result → Shared → Prop),
    AOk 0 n md A stk → Stk R stk → St c R H s.heap → VRs args vals →
    (∀ av v s' H', VR av v → St c R H' s'.heap → Sm s s' → Q av H' → Rs (.ok (.ret v)) s') →
    (∀ e cl s' H', ExcSt c R H' e cl .none s'.heap → Sm s s' → E cl H' → Rs (.error (.ref e)) s') →
    codeAny (model c.prog c.w) A (.call (.ref (c.fa f)) ⟨vals, []⟩) Rs s


mutual
inductive RD (H : AHeap) : AV → PyData → Prop
  | none : RD H .none .none
  | bool (b : Bool) : RD H (.bool b) (.bool b)
  | int (i : Int) : RD H (.int i) (.int i)
  | str (s : Str) : RD H (.str s) (.str s)
  | list {a xs ds} : H a = some (.list xs) → RDs H xs ds → RD H (.ref a) (.list ds)
  | tuple {a xs ds} : H a = some (.tuple xs) → RDs H xs ds → RD H (.ref a) (.tuple ds)
  | dict {a ep es ds} : H a = some (.dict ep es) → RDs H (es.map (·.2)) ds → RD H (.ref a) (.dict ((es.map fun e => PyData.str e.1).zip ds))
inductive RDs (H : AHeap) : List AV → List PyData → Prop
  | nil : RDs H [] []
  | cons {a d as ds} : RD H a d → RDs H as ds → RDs H (a :: as) (d :: ds)
end

mutual
noncomputable def flatD : PyData → Bool
  | .none | .bool _ | .int _ | .str _ => true
  | .list xs | .tuple xs => flatDs xs
  | .dict _ => false
noncomputable def flatDs : List PyData → Bool
  | [] => true
  | x :: xs => flatD x && flatDs xs
end
noncomputable def okD (d : PyData) : Prop := flatD d = true ∧ d.depth ≤ 64

noncomputable def pyIdx (n : Nat) (i : Int) : Option Nat :=
  if 0 ≤ i then (if i < n then some i.toNat else none) else if -(n : Int) ≤ i then some (i + n).toNat else none

noncomputable def lookS (es : List (Str × AV)) (k : Str) : Option AV := (es.find? fun e => e.1 = k).map (·.2)
noncomputable def putS (es : List (Str × AV)) (k : Str) (v : AV) : List (Str × AV) :=
  if (lookS es k).isSome then es.map (fun e => if e.1 = k then (e.1, v) else e) else es ++ [(k, v)]
noncomputable def lookA (es : List (String × AV)) (k : String) : Option AV := (es.find? fun e => e.1 = k).map (·.2)
noncomputable def putA (es : List (String × AV)) (k : String) (v : AV) : List (String × AV) :=
  if (lookA es k).isSome then es.map (fun e => if e.1 = k then (e.1, v) else e) else es ++ [(k, v)]

noncomputable def wtruth (v : AV) (H : AHeap) (Q : Bool → Prop) : Prop :=
  match v with
  | .none => Q false
  | .bool b => Q b
  | .int i => Q (i != 0)
  | .str s => s.length < 2 ^ 62 ∧ Q (s.length != 0)
  | .ref a => match H a with
    | some (.list xs) => xs.length < 2 ^ 62 ∧ Q (!xs.isEmpty)
    | some (.tuple xs) => xs.length < 2 ^ 62 ∧ Q (!xs.isEmpty)
    | _ => False

noncomputable def wii (a b : AV) (P : Int → Int → Prop) : Prop := match a, b with
  | .int x, .int y => P x y
  | _, _ => False
noncomputable def wbin (op : Operator) (a b : AV) (Q : AV → AHeap → Prop) (H : AHeap) : Prop :=
  match op with
  | .Add => (match a, b with
    | .int x, .int y => Q (.int (x + y)) H
    | .str x, .str y => x.length + y.length ≤ sizeLine ∧ Q (.str (x ++ y)) H
    | .ref x, .ref y => (match H x, H y with
      | some (.list xs), some (.list ys) => xs.length + ys.length ≤ sizeLine ∧ ∀ z, H z = none → Q (.ref z) (up H z (.list (xs ++ ys)))
      | _, _ => False)
    | _, _ => False)
  | .Sub => wii a b fun x y => Q (.int (x - y)) H
  | .Mult => wii a b fun x y => IntMulOk x y ∧ Q (.int (x * y)) H
  | .FloorDiv => wii a b fun x y => y ≠ 0 ∧ Q (.int (x.fdiv y)) H
  | .Mod => wii a b fun x y => y ≠ 0 ∧ Q (.int (x.fmod y)) H
  | .Pow => wii a b fun x y => (2 ≤ x ∧ 1 ≤ y ∧ Builtin.Int.intTooBig (((Builtin.Int.intBits x : Nat) : Int) * y) = false) ∧ Q (.int (x ^ y.toNat)) H
  | _ => False

inductive DHits (H : AHeap) (eb : List (Str × AV)) : List (Str × AV) → Bool → Prop
  | nil : DHits H eb [] true
  | miss {k v r} : lookS eb k = none → DHits H eb ((k, v) :: r) false
  | hit {k v y r d e b} : lookS eb k = some y → RD H v d → RD H y e → okD d → okD e → DHits H eb r b → DHits H eb ((k, v) :: r) (PyData.eqv d e && b)
noncomputable def isDictV (H : AHeap) : AV → Option (List (Str × AV))
  | .ref p => match H p with
    | some (.dict _ es) => some es
    | _ => none
  | _ => none
noncomputable def nt (n b : Bool) : Bool := match n with
  | true => !b
  | false => b
set_option tactic.hygienic false in
theorem nt_eq {n b : Bool} : (b != n) = nt n b := by cases n <;> cases b <;> rfl
noncomputable def weq (ne : Bool) (a b : AV) (Q : AV → AHeap → Prop) (H : AHeap) : Prop :=
  match a, b with
  | .int x, .int y => Q (.bool (nt ne (x == y))) H
  | .str x, .str y => Q (.bool (nt ne (x == y))) H
  | a, b => match isDictV H a, isDictV H b with
    | some ea, some eb => ∃ r, (ea.length = eb.length → DHits H eb ea r) ∧ Q (.bool (nt ne (ea.length == eb.length && r))) H
    | _, _ => ∃ da db, RD H a da ∧ RD H b db ∧ okD da ∧ okD db ∧ Q (.bool (nt ne (PyData.eqv da db))) H

noncomputable def win (no : Bool) (x cc : AV) (Q : AV → AHeap → Prop) (H : AHeap) : Prop :=
  match cc with
  | .ref a => match H a with
    | some (.list ys) => ∃ d ds, RD H x d ∧ RDs H ys ds ∧ okD d ∧ flatDs ds = true ∧ Q (.bool (nt no (ds.any fun y => PyData.eqv y d))) H
    | some (.tuple ys) => ∃ d ds, RD H x d ∧ RDs H ys ds ∧ okD d ∧ flatDs ds = true ∧ Q (.bool (nt no (ds.any fun y => PyData.eqv y d))) H
    | some (.dict _ es) => match x with
      | .str k => Q (.bool (nt no (lookS es k).isSome)) H
      | _ => False
    | _ => False
  | .str s => match x with
    | .str k => ∃ ch, k = ⟨#[ch]⟩ ∧ Q (.bool (nt no (s.cps.toList.contains ch))) H
    | _ => False
  | _ => False

noncomputable def wcmp (op : CmpOp) (a b : AV) (Q : AV → AHeap → Prop) (H : AHeap) : Prop :=
  match op with
  | .Eq => weq false a b Q H
  | .NotEq => weq true a b Q H
  | .In => win false a b Q H
  | .NotIn => win true a b Q H
  | .Is => match b with
    | .none => Q (.bool (a == .none)) H
    | .bool c => Q (.bool (a == .bool c)) H
    | _ => False
  | .IsNot => match b with
    | .none => Q (.bool (a != .none)) H
    | .bool c => Q (.bool (a != .bool c)) H
    | _ => False
  | op => match a, b with
    | .int x, .int y => match op with
      | .Lt => Q (.bool (decide (x < y))) H
      | .LtE => Q (.bool (decide (x ≤ y))) H
      | .Gt => Q (.bool (decide (y < x))) H
      | .GtE => Q (.bool (decide (y ≤ x))) H
      | _ => False
    | _, _ => False

noncomputable def wsub (a i : AV) (Q : AV → AHeap → Prop) (H : AHeap) : Prop :=
  match a, i with
  | .ref a, .int i => match H a with
    | some (.list xs) => ∃ j v, pyIdx xs.length i = some j ∧ i < 2 ^ 63 ∧ -(2 ^ 63) ≤ i ∧ xs[j]? = some v ∧ Q v H
    | some (.tuple xs) => ∃ j v, pyIdx xs.length i = some j ∧ i < 2 ^ 63 ∧ -(2 ^ 63) ≤ i ∧ xs[j]? = some v ∧ Q v H
    | some (.script ns) => 0 ≤ i ∧ i < 2 ^ 63 ∧ ∃ n, ns[i.toNat]? = some n ∧ Q (.int n) H
    | _ => False
  | .ref a, .str k => match H a with
    | some (.dict _ es) => ∃ v, lookS es k = some v ∧ Q v H
    | _ => False
  | .str s, .int i => 0 ≤ i ∧ i < 2 ^ 63 ∧ ∃ ch, s.cps[i.toNat]? = some ch ∧ Q (.str ⟨#[ch]⟩) H
  | _, _ => False

noncomputable def pickL {α : Type} (xs : List α) (lo hi st : Option Int) : List α :=
  (sliceRange (sliceBounds lo hi st xs.length).1 (sliceBounds lo hi st xs.length).2.1 (sliceBounds lo hi st xs.length).2.2).filterMap (xs[·]?)
noncomputable def partI : Option AV → Option (Option Int)
  | none => some none
  | some (.int i) => some (some i)
  | _ => none
noncomputable def wslice (a : AV) (lo hi st : Option AV) (Q : AV → AHeap → Prop) (H : AHeap) : Prop :=
  match a with
  | .ref a => (match H a with
    | some (.list xs) => ∃ l u t, partI lo = some l ∧ partI hi = some u ∧ partI st = some t ∧ t ≠ some 0 ∧ xs.length ≤ sizeLine ∧ ∀ z, H z = none → Q (.ref z) (up H z (.list (pickL xs l u t)))
    | _ => False)
  | .str s => (match lo, hi, st with
    | some (.int l), none, none => 0 ≤ l ∧ l ≤ s.length ∧ s.length ≤ sizeLine ∧ Q (.str ⟨(s.cps.toList.drop l.toNat).toArray⟩) H
    | none, some (.int u), none => 0 ≤ u ∧ u ≤ s.length ∧ s.length ≤ sizeLine ∧ Q (.str ⟨(s.cps.toList.take u.toNat).toArray⟩) H
    | _, _, _ => False)
  | _ => False

noncomputable def vkind (H : AHeap) (v : AV) : Option String :=
  match v with
  | .none => some "NoneType"
  | .bool _ => some "bool"
  | .int _ => some "int"
  | .str _ => some "str"
  | .ref a => match H a with
    | some (.list _) => some "list"
    | some (.tuple _) => some "tuple"
    | some (.dict ..) => some "dict"
    | _ => none
noncomputable def isinstV (P : Pg) (H : AHeap) (v : AV) (ty : String) : Option Bool :=
  if ty = "int" ∨ ty = "bool" ∨ ty = "str" ∨ ty = "list" then (vkind H v).map fun k => k == ty || (k == "bool" && ty == "int")
  else match v with
  | .ref a => match H a with
    | some (.exc c) => if ((P.excs.lookup c).map (·.contains ty)).getD false then some true else none
    | _ => none
  | _ => none

noncomputable def wprim (md : Bool) (f : Pr) (vs : List AV) (Q : AV → AHeap → Prop) (H : AHeap) : Prop :=
  match f, vs with
  | .len, [.str s] => s.length < 2 ^ 62 ∧ Q (.int s.length) H
  | .len, [.ref a] => (match H a with
      | some (.list xs) => xs.length < 2 ^ 62 ∧ Q (.int xs.length) H
      | some (.tuple xs) => xs.length < 2 ^ 62 ∧ Q (.int xs.length) H
      | some (.dict _ es) => es.length < 2 ^ 62 ∧ Q (.int es.length) H
      | some (.script ns) => ns.length < 2 ^ 62 ∧ Q (.int ns.length) H
      | _ => False)
  | .list, [.ref a] => (match H a with
      | some (.list xs) => xs.length ≤ sizeLine ∧ ∀ z, H z = none → Q (.ref z) (up H z (.list xs))
      | some (.tuple xs) => xs.length ≤ sizeLine ∧ ∀ z, H z = none → Q (.ref z) (up H z (.list xs))
      | some (.dict _ es) => md = true ∧ es.length ≤ sizeLine ∧ ∀ z, H z = none → Q (.ref z) (up H z (.list (es.map fun e => .str e.1)))
      | some (.vals d) => (match H d with
        | some (.dict _ es) => md = true ∧ es.length ≤ sizeLine ∧ ∀ z, H z = none → Q (.ref z) (up H z (.list (es.map (·.2))))
        | _ => False)
      | _ => False)
  | .range, [.int b] => (-(2 ^ 62) < b ∧ b < 2 ^ 62) ∧ ∀ z, H z = none → Q (.ref z) (up H z (.range 0 b))
  | .range, [.int a, .int b] => (-(2 ^ 62) < a ∧ a < 2 ^ 62 ∧ -(2 ^ 62) < b ∧ b < 2 ^ 62) ∧ ∀ z, H z = none → Q (.ref z) (up H z (.range a b))
  | .all, [.ref a] => md = true ∧ (match H a with
      | some (.list xs) => ∃ bs : List Bool, xs = bs.map .bool ∧ Q (.bool (bs.all id)) H
      | _ => False)
  | .min, [.int a, .int b] => md = true ∧ Q (.int (if b < a then b else a)) H
  | _, _ => False

noncomputable def bookAttrs : List String := ["day", "free", "aside", "pacts"]
noncomputable def wbm (o : AV) (m : BM) (vs : List AV) (Q : AV → AHeap → Prop) (H : AHeap) : Prop :=
  match o, m, vs with
  | .ref p, .append, [v] => (match H p with
    | some (.list xs) => xs.length ≤ sizeLine ∧ Q .none (up H p (.list (xs ++ [v])))
    | _ => False)
  | _, _, _ => False

noncomputable def itemsOf (H : AHeap) : AV → Option (List AV)
  | .ref a => match H a with
    | some (.list xs) => some xs
    | some (.tuple xs) => some xs
    | some (.range lo hi) => some ((List.range (hi - lo).toNat).map fun (k : Nat) => AV.int (lo + k))
    | some (.dict _ es) => some (es.map fun e => AV.str e.1)
    | _ => none
  | .str s => some (s.cps.toList.map fun ch => AV.str ⟨#[ch]⟩)
  | _ => none
noncomputable def sameIt (H H' : AHeap) : AV → Prop
  | .ref a => H' a = H a
  | _ => True

noncomputable def WFor (QN : VV → AHeap → Prop) (stp : AV → (VV → AHeap → Prop) → VV → AHeap → Prop) (v : AV) (V : VV) (H : AHeap) : Prop :=
  ∃ xs, itemsOf H v = some xs ∧ ∃ I : Nat → VV → AHeap → Prop, I 0 V H ∧
    ∀ k V' H', I k V' H' → sameIt H H' v ∧ (k = xs.length → QN V' H') ∧ ∀ x, xs[k]? = some x → stp x (I (k + 1)) V' H'
noncomputable def WWhile (QN : VV → AHeap → Prop) (tst : (Bool → AHeap → Prop) → VV → AHeap → Prop) (bd : (VV → AHeap → Prop) → VV → AHeap → Prop) (V : VV) (H : AHeap) : Prop :=
  ∃ I : Nat → VV → AHeap → Prop, (∃ n, I n V H) ∧ ∀ n V' H', I n V' H' → tst (fun b H'' => if b then bd (fun V₂ H₂ => ∃ m, m < n ∧ I m V₂ H₂) V' H'' else QN V' H'') V' H'
noncomputable def WComp (Q : AV → AHeap → Prop) (stp : AV → (Option AV → AHeap → Prop) → AHeap → Prop) (v : AV) (H : AHeap) : Prop :=
  ∃ xs, itemsOf H v = some xs ∧ xs.length ≤ sizeLine ∧ ∃ I : Nat → List AV → AHeap → Prop, I 0 [] H ∧
    ∀ k acc H', I k acc H' → sameIt H H' v ∧ (k = xs.length → ∀ a, H' a = none → Q (.ref a) (up H' a (.list acc))) ∧
      ∀ x, xs[k]? = some x → stp x (fun r H'' => I (k + 1) (acc ++ r.toList) H'') H'

noncomputable def wunpack (k : Nat) (x : AV) (H : AHeap) (Q : List AV → Prop) : Prop :=
  match x with
  | .ref a => match H a with
    | some (.tuple xs) => xs.length = k ∧ Q xs
    | some (.list xs) => xs.length = k ∧ Q xs
    | _ => False
  | _ => False

noncomputable def setAll (V : VV) : List Nat → List AV → VV
  | i :: is, x :: xs => setAll (V.set i (some x)) is xs
  | _, _ => V
noncomputable def wtg (t : Tg) (x : AV) (V : VV) (H : AHeap) (Q : VV → Prop) : Prop :=
  match t with
  | .var i => i < V.length ∧ Q (V.set i (some x))
  | .tup is => wunpack is.length x H fun xs => Q (setAll V is xs)

noncomputable def bmOn (m : BM) (x : AV) (H : AHeap) : Prop :=
  match x with
  | .ref p => match H p with
    | some (.list _) => m = .append
    | _ => False
  | _ => False

structure Gx where
  c : Cx
  n : Nat
  md : Bool

noncomputable def wattr (P : Pg) (n : String) (x : AV) (Q : AV → AHeap → Prop) (H : AHeap) : Prop := match x with
  | .ref p => (match H p with
    | some (.inst cl es) => P.attrs.contains (cl, n) = true ∧ (match lookA es n with | some v => Q v H | none => False)
    | some (.book B) => n = "day" ∧ P.attrs.contains ("Book", "day") = true ∧ Q (.int B.day) H
    | _ => False)
  | _ => False
noncomputable def wmeth (P : Pg) (m : String) (x : AV) (K : String → Addr → AHeap → Prop) (H : AHeap) : Prop := match x with
  | .ref p => (match H p with
    | some (.inst cl es) => P.meths.contains (cl, m) = true ∧ lookA es m = none ∧ K (cl ++ "." ++ m) p H
    | some (.book _) => P.meths.contains ("Book", m) = true ∧ bookAttrs.contains m = false ∧ K ("Book." ++ m) p H
    | _ => False)
  | _ => False
noncomputable def wisi (P : Pg) (ty : String) (x : AV) (Q : AV → AHeap → Prop) (H : AHeap) : Prop := match isinstV P H x ty with
  | some b => Q (.bool b) H
  | none => False
noncomputable def wsetI (o j x : AV) (Q : AHeap → Prop) (H : AHeap) : Prop := match o, j with
  | .ref p, .str k => (match H p with
    | some (.dict _ es) => es.length ≤ sizeLine ∧ ∀ ep, Q (up H p (.dict ep (putS es k x)))
    | _ => False)
  | .ref p, .int j => (match H p with
    | some (.list xs) => 0 ≤ j ∧ j < xs.length ∧ xs.length < 2 ^ 62 ∧ Q (up H p (.list (xs.set j.toNat x)))
    | _ => False)
  | _, _ => False
noncomputable def wsetA (P : Pg) (n : String) (o x : AV) (Q : AHeap → Prop) (H : AHeap) : Prop := match o with
  | .ref p => (match H p with
    | some (.inst cl es) => P.attrs.contains (cl, n) = true ∧ es.length ≤ 100 ∧ Q (up H p (.inst cl (putA es n x)))
    | _ => False)
  | _ => False

mutual
noncomputable def wpX (g : Gx) : X → VV → (AV → AHeap → Prop) → (String → AHeap → Prop) → AHeap → Prop
  | .lit v, _, Q, _, H => Q v H
  | .var i, V, Q, _, H => match V[i]? with
    | some (some v) => Q v H
    | _ => False
  | .glob n, _, Q, _, H => match g.c.P.consts.lookup n with
    | some v => Q v H
    | none => False
  | .bin op a b, V, Q, E, H => wpX g a V (fun x H => wpX g b V (fun y H => wbin op x y Q H) E H) E H
  | .neg a, V, Q, E, H => wpX g a V (fun x H => match x with | .int i => Q (.int (-i)) H | _ => False) E H
  | .not a, V, Q, E, H => wpX g a V (fun x H => wtruth x H fun b => Q (.bool (!b)) H) E H
  | .ao isAnd xs, V, Q, E, H => wpAO g isAnd xs V Q E H
  | .ite c a b, V, Q, E, H => wpX g c V (fun x H => wtruth x H fun t => if t then wpX g a V Q E H else wpX g b V Q E H) E H
  | .cmp op a b, V, Q, E, H => wpX g a V (fun x H => wpX g b V (fun y H => wcmp op x y Q H) E H) E H
  | .cmp2 op₁ op₂ a b d, V, Q, E, H => wpX g a V (fun x H => wpX g b V (fun y H => wcmp op₁ x y (fun r H => wtruth r H fun t =>
      if t then wpX g d V (fun z H => wcmp op₂ y z Q H) E H else Q r H) H) E H) E H
  | .sub a i, V, Q, E, H => wpX g a V (fun x H => wpX g i V (fun y H => wsub x y Q H) E H) E H
  | .slice a lo hi st, V, Q, E, H => wpX g a V (fun x H => wpO g lo V (fun l H => wpO g hi V (fun u H => wpO g st V (fun t H => wslice x l u t Q H) E H) E H) E H) E H
  | .attr a n, V, Q, E, H => wpX g a V (fun x H => wattr g.c.P n x Q H) E H
  | .call f xs, V, Q, E, H => wpXs g xs V (fun vs H => CallOK g.c g.n g.md f vs Q E H) E H
  | .new cl xs, V, Q, E, H => wpXs g xs V (fun vs H => ∀ a, H a = none → CallOK g.c g.n g.md (cl ++ ".__init__") (.ref a :: vs) (fun r H => r = .none ∧ Q (.ref a) H) E (up H a (.inst cl []))) E H
  | .meth a m xs, V, Q, E, H => wpX g a V (fun x H => wmeth g.c.P m x (fun f p H => wpXs g xs V (fun vs H => CallOK g.c g.n g.md f (.ref p :: vs) Q E H) E H) H) E H
  | .bm a m xs, V, Q, E, H => wpX g a V (fun x H => bmOn m x H ∧ wpXs g xs V (fun vs H => wbm x m vs Q H) E H) E H
  | .prim f xs, V, Q, E, H => wpXs g xs V (fun vs H => wprim g.md f vs Q H) E H
  | .isinst a ty, V, Q, E, H => wpX g a V (fun x H => wisi g.c.P ty x Q H) E H
  | .list xs, V, Q, E, H => wpXs g xs V (fun vs H => ∀ a, H a = none → Q (.ref a) (up H a (.list vs))) E H
  | .tuple xs, V, Q, E, H => wpXs g xs V (fun vs H => ∀ a, H a = none → Q (.ref a) (up H a (.tuple vs))) E H
  | .dict ks vs, V, Q, E, H => match ks, vs with
    | [], [] => ∀ a, H a = none → Q (.ref a) (up H a (.dict 0 []))
    | [k], [v] => wpX g k V (fun k H => wpX g v V (fun v H => match k with | .str k => ∀ a ep, H a = none → Q (.ref a) (up H a (.dict ep [(k, v)])) | _ => False) E H) E H
    | _, _ => False
  | .comp e k tup it c, V, Q, E, H => g.md = true ∧ wpX g it V (fun v H => WComp Q (fun x nx H =>
      if tup then wunpack k x H fun xs => wpC g c (V ++ xs.map some) (fun b H => if b then wpX g e (V ++ xs.map some) (fun y H => nx (some y) H) (fun _ _ => False) H else nx none H) (fun _ _ => False) H
      else wpC g c (V ++ [some x]) (fun b H => if b then wpX g e (V ++ [some x]) (fun y H => nx (some y) H) (fun _ _ => False) H else nx none H) (fun _ _ => False) H) v H) E H
noncomputable def wpXs (g : Gx) : List X → VV → (List AV → AHeap → Prop) → (String → AHeap → Prop) → AHeap → Prop
  | [], _, Q, _, H => Q [] H
  | x :: r, V, Q, E, H => wpX g x V (fun v H => wpXs g r V (fun vs H => Q (v :: vs) H) E H) E H
noncomputable def wpAO (g : Gx) (isAnd : Bool) : List X → VV → (AV → AHeap → Prop) → (String → AHeap → Prop) → AHeap → Prop
  | [], _, _, _, _ => False
  | x :: r, V, Q, E, H => wpX g x V (fun v H => match r with
      | [] => Q v H
      | _ :: _ => wtruth v H fun b => if b = isAnd then wpAO g isAnd r V Q E H else Q v H) E H
noncomputable def wpO (g : Gx) : Option X → VV → (Option AV → AHeap → Prop) → (String → AHeap → Prop) → AHeap → Prop
  | none, _, Q, _, H => Q none H
  | some x, V, Q, E, H => wpX g x V (fun v H => Q (some v) H) E H
noncomputable def wpC (g : Gx) : Option X → VV → (Bool → AHeap → Prop) → (String → AHeap → Prop) → AHeap → Prop
  | none, _, Q, _, H => Q true H
  | some x, V, Q, E, H => wpX g x V (fun v H => wtruth v H fun b => Q b H) E H
end

noncomputable def wpT (g : Gx) (t : T) (x : AV) (V : VV) (Q : VV → AHeap → Prop) (E : String → AHeap → Prop) (H : AHeap) : Prop :=
  match t with
  | .var i => i < V.length ∧ Q (V.set i (some x)) H
  | .tup is => g.md = true ∧ wunpack is.length x H fun xs => Q (setAll V is xs) H
  | .sub a i => wpX g a V (fun o H => wpX g i V (fun j H => wsetI o j x (Q V) H) E H) E H
  | .attr a n => wpX g a V (fun o H => wsetA g.c.P n o x (Q V) H) E H

noncomputable def excSub (P : Pg) (cl c : String) : Bool := ((P.excs.lookup cl).map (·.contains c)).getD false

mutual
noncomputable def wpS (g : Gx) : S → (VV → AHeap → Prop) → (AV → AHeap → Prop) → (String → VV → AHeap → Prop) → VV → AHeap → Prop
  | .assign t e, QN, _, E, V, H => wpX g e V (fun x H => wpT g t x V QN (fun cl H => E cl V H) H) (fun cl H => E cl V H) H
  | .expr e, QN, _, E, V, H => wpX g e V (fun _ H => QN V H) (fun cl H => E cl V H) H
  | .ret e, _, QR, E, V, H => wpX g e V QR (fun cl H => E cl V H) H
  | .ite c a b, QN, QR, E, V, H => wpX g c V (fun x H => wtruth x H fun t => if t then wpSs g a QN QR E V H else wpSs g b QN QR E V H) (fun cl H => E cl V H) H
  | .while c body, QN, QR, E, V, H => g.md = true ∧ WWhile QN (fun q V H => wpX g c V (fun x H => wtruth x H fun t => q t H) (fun cl H => E cl V H) H)
      (fun q V H => wpSs g body q QR E V H) V H
  | .for t it body, QN, QR, E, V, H => g.md = true ∧ wpX g it V (fun v H => WFor QN (fun x nx V H => wtg t x V H fun V => wpSs g body nx QR E V H) v V H) (fun cl H => E cl V H) H
  | .raise cl _, _, _, E, V, H => g.md = true ∧ E cl V H
  | .try body hs, QN, QR, E, V, H => g.md = true ∧ wpSs g body QN QR (fun cl V H => wpHs g hs cl QN QR E V H) V H
  | .pass, QN, _, _, V, H => QN V H
noncomputable def wpSs (g : Gx) : List S → (VV → AHeap → Prop) → (AV → AHeap → Prop) → (String → VV → AHeap → Prop) → VV → AHeap → Prop
  | [], QN, _, _, V, H => QN V H
  | s :: r, QN, QR, E, V, H => wpS g s (fun V H => wpSs g r QN QR E V H) QR E V H
noncomputable def wpHs (g : Gx) : List Hd → String → (VV → AHeap → Prop) → (AV → AHeap → Prop) → (String → VV → AHeap → Prop) → VV → AHeap → Prop
  | [], _, _, _, _, _, _ => False
  | h :: r, cl, QN, QR, E, V, H => wpH g h cl (wpHs g r cl QN QR E V H) QN QR E V H
noncomputable def wpH (g : Gx) : Hd → String → Prop → (VV → AHeap → Prop) → (AV → AHeap → Prop) → (String → VV → AHeap → Prop) → VV → AHeap → Prop
  | .mk c nm b, cl, nope, QN, QR, _, V, H =>
    if excSub g.c.P cl c then
      (match nm with
      | none => wpSs { g with md := false } b QN QR (fun _ _ _ => False) V H
      | some i => ∀ a, H a = none → i < V.length ∧ wpSs { g with md := false } b (fun V H => QN (V.set i none) H) QR (fun _ _ _ => False) (V.set i (some (.ref a))) (up H a (.exc cl)))
    else nope
end

section
variable {g : Gx} {V : VV} {Q : AV → AHeap → Prop} {E : String → AHeap → Prop} {H : AHeap} {QL : List AV → AHeap → Prop}
theorem v_0 {x : Option AV} {r : VV} : (x :: r)[0]? = some x := rfl
theorem x_lit {v : AV} : wpX g (.lit v) V Q E H = Q v H := rfl
theorem x_var {i : Nat} : wpX g (.var i) V Q E H = (match V[i]? with | some (some v) => Q v H | _ => False) := rfl
theorem x_bin {op : Operator} {a b : X} : wpX g (.bin op a b) V Q E H = wpX g a V (fun x H => wpX g b V (fun y H => wbin op x y Q H) E H) E H := rfl
theorem x_neg {a : X} : wpX g (.neg a) V Q E H = wpX g a V (fun x H => match x with | .int i => Q (.int (-i)) H | _ => False) E H := rfl
theorem x_not {a : X} : wpX g (.not a) V Q E H = wpX g a V (fun x H => wtruth x H fun b => Q (.bool (!b)) H) E H := rfl
theorem x_ao {b : Bool} {xs : List X} : wpX g (.ao b xs) V Q E H = wpAO g b xs V Q E H := rfl
theorem x_ite {c a b : X} : wpX g (.ite c a b) V Q E H = wpX g c V (fun x H => wtruth x H fun t => if t then wpX g a V Q E H else wpX g b V Q E H) E H := rfl
theorem x_cmp {op : CmpOp} {a b : X} : wpX g (.cmp op a b) V Q E H = wpX g a V (fun x H => wpX g b V (fun y H => wcmp op x y Q H) E H) E H := rfl
theorem x_cmp2 {o₁ o₂ : CmpOp} {a b d : X} : wpX g (.cmp2 o₁ o₂ a b d) V Q E H = wpX g a V (fun x H => wpX g b V (fun y H => wcmp o₁ x y (fun r H => wtruth r H fun t => if t then wpX g d V (fun z H => wcmp o₂ y z Q H) E H else Q r H) H) E H) E H := rfl
theorem x_sub {a i : X} : wpX g (.sub a i) V Q E H = wpX g a V (fun x H => wpX g i V (fun y H => wsub x y Q H) E H) E H := rfl
theorem x_slice {a : X} {lo hi st : Option X} : wpX g (.slice a lo hi st) V Q E H = wpX g a V (fun x H => wpO g lo V (fun l H => wpO g hi V (fun u H => wpO g st V (fun t H => wslice x l u t Q H) E H) E H) E H) E H := rfl
theorem x_glob {n : String} : wpX g (.glob n) V Q E H = (match g.c.P.consts.lookup n with | some v => Q v H | none => False) := rfl
theorem x_call {f : String} {xs : List X} : wpX g (.call f xs) V Q E H = wpXs g xs V (fun vs H => CallOK g.c g.n g.md f vs Q E H) E H := rfl
theorem x_prim {f : Pr} {xs : List X} : wpX g (.prim f xs) V Q E H = wpXs g xs V (fun vs H => wprim g.md f vs Q H) E H := rfl
theorem x_bm {a : X} {m : BM} {xs : List X} : wpX g (.bm a m xs) V Q E H = wpX g a V (fun x H => bmOn m x H ∧ wpXs g xs V (fun vs H => wbm x m vs Q H) E H) E H := rfl
theorem x_isi {a : X} {ty : String} : wpX g (.isinst a ty) V Q E H = wpX g a V (fun x H => match isinstV g.c.P H x ty with | some b => Q (.bool b) H | none => False) E H := rfl
theorem x_list {xs : List X} : wpX g (.list xs) V Q E H = wpXs g xs V (fun vs H => ∀ a, H a = none → Q (.ref a) (up H a (.list vs))) E H := rfl
theorem x_tup {xs : List X} : wpX g (.tuple xs) V Q E H = wpXs g xs V (fun vs H => ∀ a, H a = none → Q (.ref a) (up H a (.tuple vs))) E H := rfl
theorem x_new {cl : String} {xs : List X} : wpX g (.new cl xs) V Q E H = wpXs g xs V (fun vs H => ∀ a, H a = none → CallOK g.c g.n g.md (cl ++ ".__init__") (.ref a :: vs) (fun r H => r = .none ∧ Q (.ref a) H) E (up H a (.inst cl []))) E H := rfl
theorem x_dict0 : wpX g (.dict [] []) V Q E H = (∀ a, H a = none → Q (.ref a) (up H a (.dict 0 []))) := rfl
theorem xs_nil : wpXs g [] V QL E H = QL [] H := rfl
theorem xs_cons {x : X} {r : List X} : wpXs g (x :: r) V QL E H = wpX g x V (fun v H => wpXs g r V (fun vs H => QL (v :: vs) H) E H) E H := rfl
theorem ao_one {b : Bool} {x : X} : wpAO g b [x] V Q E H = wpX g x V Q E H := rfl
theorem ao_cons {b : Bool} {x y : X} {r : List X} : wpAO g b (x :: y :: r) V Q E H = wpX g x V (fun v H => wtruth v H fun t => if t = b then wpAO g b (y :: r) V Q E H else Q v H) E H := rfl
theorem xo_none {QO : Option AV → AHeap → Prop} : wpO g none V QO E H = QO none H := rfl
theorem xo_some {QO : Option AV → AHeap → Prop} {x : X} : wpO g (some x) V QO E H = wpX g x V (fun v H => QO (some v) H) E H := rfl
theorem xc_none {QC : Bool → AHeap → Prop} : wpC g none V QC E H = QC true H := rfl
theorem xc_some {QC : Bool → AHeap → Prop} {x : X} : wpC g (some x) V QC E H = wpX g x V (fun v H => wtruth v H fun b => QC b H) E H := rfl
end
section
variable {g : Gx} {V : VV} {QN : VV → AHeap → Prop} {QR : AV → AHeap → Prop} {E : String → VV → AHeap → Prop} {EE : String → AHeap → Prop} {H : AHeap} {x : AV}
theorem tv {i : Nat} : wpT g (.var i) x V QN EE H = (i < V.length ∧ QN (V.set i (some x)) H) := rfl
theorem tsub {a i : X} : wpT g (.sub a i) x V QN EE H = wpX g a V (fun o H => wpX g i V (fun j H => match o, j with
      | .ref p, .str k => (match H p with
        | some (.dict _ es) => es.length ≤ sizeLine ∧ ∀ ep, QN V (up H p (.dict ep (putS es k x)))
        | _ => False)
      | .ref p, .int j => (match H p with
        | some (.list xs) => 0 ≤ j ∧ j < xs.length ∧ xs.length < 2 ^ 62 ∧ QN V (up H p (.list (xs.set j.toNat x)))
        | _ => False)
      | _, _ => False) EE H) EE H := rfl
theorem tattr {a : X} {n : String} : wpT g (.attr a n) x V QN EE H = wpX g a V (fun o H => match o with
      | .ref p => (match H p with
        | some (.inst cl es) => g.c.P.attrs.contains (cl, n) = true ∧ es.length ≤ 100 ∧ QN V (up H p (.inst cl (putA es n x)))
        | _ => False)
      | _ => False) EE H := rfl
theorem ttup {is : List Nat} : wpT g (.tup is) x V QN EE H = (g.md = true ∧ wunpack is.length x H fun xs => QN (setAll V is xs) H) := rfl
theorem s_expr' {e : X} : wpS g (.expr e) QN QR E V H = wpX g e V (fun _ H => QN V H) (fun cl H => E cl V H) H := rfl
theorem s_raise' {cl : String} {m : Str} : wpS g (.raise cl m) QN QR E V H = (g.md = true ∧ E cl V H) := rfl
theorem s_for' {t : Tg} {it : X} {b : List S} : wpS g (.for t it b) QN QR E V H = (g.md = true ∧ wpX g it V (fun v H => WFor QN (fun x nx V H => wtg t x V H fun V => wpSs g b nx QR E V H) v V H) (fun cl H => E cl V H) H) := rfl
theorem s_while' {cn : X} {b : List S} : wpS g (.while cn b) QN QR E V H = (g.md = true ∧ WWhile QN (fun q V H => wpX g cn V (fun x H => wtruth x H fun t => q t H) (fun cl H => E cl V H) H) (fun q V H => wpSs g b q QR E V H) V H) := rfl
theorem s_try' {b : List S} {hs : List Hd} : wpS g (.try b hs) QN QR E V H = (g.md = true ∧ wpSs g b QN QR (fun cl V H => wpHs g hs cl QN QR E V H) V H) := rfl
end
section
variable {g : Gx} {V : VV} {Q : AV → AHeap → Prop} {E : String → AHeap → Prop} {H : AHeap}
theorem x_attr {a : X} {n : String} : wpX g (.attr a n) V Q E H = wpX g a V (fun x H => match x with
      | .ref p => (match H p with
        | some (.inst cl es) => g.c.P.attrs.contains (cl, n) = true ∧ (match lookA es n with | some v => Q v H | none => False)
        | some (.book B) => n = "day" ∧ g.c.P.attrs.contains ("Book", "day") = true ∧ Q (.int B.day) H
        | _ => False)
      | _ => False) E H := rfl
theorem x_meth {a : X} {m : String} {xs : List X} : wpX g (.meth a m xs) V Q E H = wpX g a V (fun x H => match x with
      | .ref p => (match H p with
        | some (.inst cl es) => g.c.P.meths.contains (cl, m) = true ∧ lookA es m = none ∧ wpXs g xs V (fun vs H => CallOK g.c g.n g.md (cl ++ "." ++ m) (.ref p :: vs) Q E H) E H
        | some (.book _) => g.c.P.meths.contains ("Book", m) = true ∧ bookAttrs.contains m = false ∧ wpXs g xs V (fun vs H => CallOK g.c g.n g.md ("Book." ++ m) (.ref p :: vs) Q E H) E H
        | _ => False)
      | _ => False) E H := rfl
theorem x_dict1 {k v : X} : wpX g (.dict [k] [v]) V Q E H = wpX g k V (fun k H => wpX g v V (fun v H => match k with | .str k => ∀ a ep, H a = none → Q (.ref a) (up H a (.dict ep [(k, v)])) | _ => False) E H) E H := rfl
theorem x_comp {e : X} {k : Nat} {tup : Bool} {it : X} {c : Option X} : wpX g (.comp e k tup it c) V Q E H = (g.md = true ∧ wpX g it V (fun v H => WComp Q (fun x nx H =>
      if tup then wunpack k x H fun xs => wpC g c (V ++ xs.map some) (fun b H => if b then wpX g e (V ++ xs.map some) (fun y H => nx (some y) H) (fun _ _ => False) H else nx none H) (fun _ _ => False) H
      else wpC g c (V ++ [some x]) (fun b H => if b then wpX g e (V ++ [some x]) (fun y H => nx (some y) H) (fun _ _ => False) H else nx none H) (fun _ _ => False) H) v H) E H) := rfl
end
section
variable {g : Gx} {QN : VV → AHeap → Prop} {QR : AV → AHeap → Prop} {E : String → VV → AHeap → Prop} {V : VV} {H : AHeap}
theorem w_ite {c : X} {a b : List S} : wpS g (.ite c a b) QN QR E V H = wpX g c V (fun x H => wtruth x H fun t => if t then wpSs g a QN QR E V H else wpSs g b QN QR E V H) (fun cl H => E cl V H) H := rfl
theorem w_ret {e : X} : wpS g (.ret e) QN QR E V H = wpX g e V QR (fun cl H => E cl V H) H := rfl
theorem w_asg {t : T} {e : X} : wpS g (.assign t e) QN QR E V H = wpX g e V (fun x H => wpT g t x V QN (fun cl H => E cl V H) H) (fun cl H => E cl V H) H := rfl
theorem w_st {s : S} {r : List S} (h : ∀ K : VV → AHeap → Prop, (∀ V H, wpSs g r QN QR E V H → K V H) → wpS g s K QR E V H) : wpSs g (s :: r) QN QR E V H := h _ fun _ _ h => h
theorem w_nil : wpSs g [] QN QR E V H = QN V H := rfl
theorem w_cons {s : S} {r : List S} : wpSs g (s :: r) QN QR E V H = wpS g s (fun V H => wpSs g r QN QR E V H) QR E V H := rfl
theorem s_pass' : wpS g .pass QN QR E V H = QN V H := rfl
theorem hs_cons' {h : Hd} {r : List Hd} {cl : String} : wpHs g (h :: r) cl QN QR E V H = wpH g h cl (wpHs g r cl QN QR E V H) QN QR E V H := rfl
theorem h_mk' {c : String} {nm : Option Nat} {b : List S} {cl : String} {N : Prop} : wpH g (.mk c nm b) cl N QN QR E V H = (if excSub g.c.P cl c then
      (match nm with
      | none => wpSs { g with md := false } b QN QR (fun _ _ _ => False) V H
      | some i => ∀ a, H a = none → i < V.length ∧ wpSs { g with md := false } b (fun V H => QN (V.set i none) H) QR (fun _ _ _ => False) (V.set i (some (.ref a))) (up H a (.exc cl)))
    else N) := rfl
end
section
variable {md : Bool} {Q : AV → AHeap → Prop} {H : AHeap} {a p : Addr} {v : AV}
theorem p_lens {s : Str} : wprim md .len [.str s] Q H = (s.length < 2 ^ 62 ∧ Q (.int s.length) H) := rfl
theorem p_range {b : Int} : wprim md .range [.int b] Q H = ((-(2 ^ 62) < b ∧ b < 2 ^ 62) ∧ ∀ z, H z = none → Q (.ref z) (up H z (.range 0 b))) := rfl
theorem p_range2 {a b : Int} : wprim md .range [.int a, .int b] Q H = ((-(2 ^ 62) < a ∧ a < 2 ^ 62 ∧ -(2 ^ 62) < b ∧ b < 2 ^ 62) ∧ ∀ z, H z = none → Q (.ref z) (up H z (.range a b))) := rfl
theorem p_min {a b : Int} : wprim md .min [.int a, .int b] Q H = (md = true ∧ Q (.int (if b < a then b else a)) H) := rfl
theorem sub_si {s : Str} {i : Int} : wsub (.str s) (.int i) Q H = (0 ≤ i ∧ i < 2 ^ 63 ∧ ∃ ch, s.cps[i.toNat]? = some ch ∧ Q (.str ⟨#[ch]⟩) H) := rfl
theorem sl_lo {s : Str} {l : Int} : wslice (.str s) (some (.int l)) none none Q H = (0 ≤ l ∧ l ≤ s.length ∧ s.length ≤ sizeLine ∧ Q (.str ⟨(s.cps.toList.drop l.toNat).toArray⟩) H) := rfl
theorem sl_hi {s : Str} {u : Int} : wslice (.str s) none (some (.int u)) none Q H = (0 ≤ u ∧ u ≤ s.length ∧ s.length ≤ sizeLine ∧ Q (.str ⟨(s.cps.toList.take u.toNat).toArray⟩) H) := rfl
theorem p_lenr : wprim md .len [.ref a] Q H = (match H a with
      | some (.list xs) => xs.length < 2 ^ 62 ∧ Q (.int xs.length) H
      | some (.tuple xs) => xs.length < 2 ^ 62 ∧ Q (.int xs.length) H
      | some (.dict _ es) => es.length < 2 ^ 62 ∧ Q (.int es.length) H
      | some (.script ns) => ns.length < 2 ^ 62 ∧ Q (.int ns.length) H
      | _ => False) := rfl
theorem p_listr : wprim md .list [.ref a] Q H = (match H a with
      | some (.list xs) => xs.length ≤ sizeLine ∧ ∀ z, H z = none → Q (.ref z) (up H z (.list xs))
      | some (.tuple xs) => xs.length ≤ sizeLine ∧ ∀ z, H z = none → Q (.ref z) (up H z (.list xs))
      | some (.dict _ es) => md = true ∧ es.length ≤ sizeLine ∧ ∀ z, H z = none → Q (.ref z) (up H z (.list (es.map fun e => .str e.1)))
      | some (.vals d) => (match H d with
        | some (.dict _ es) => md = true ∧ es.length ≤ sizeLine ∧ ∀ z, H z = none → Q (.ref z) (up H z (.list (es.map (·.2))))
        | _ => False)
      | _ => False) := rfl
theorem p_allr : wprim md .all [.ref a] Q H = (md = true ∧ (match H a with
      | some (.list xs) => ∃ bs : List Bool, xs = bs.map .bool ∧ Q (.bool (bs.all id)) H
      | _ => False)) := rfl
theorem m_app : wbm (.ref p) .append [v] Q H = (match H p with
    | some (.list xs) => xs.length ≤ sizeLine ∧ Q .none (up H p (.list (xs ++ [v])))
    | _ => False) := rfl
theorem sub_ri {i : Int} : wsub (.ref a) (.int i) Q H = (match H a with
    | some (.list xs) => ∃ j v, pyIdx xs.length i = some j ∧ i < 2 ^ 63 ∧ -(2 ^ 63) ≤ i ∧ xs[j]? = some v ∧ Q v H
    | some (.tuple xs) => ∃ j v, pyIdx xs.length i = some j ∧ i < 2 ^ 63 ∧ -(2 ^ 63) ≤ i ∧ xs[j]? = some v ∧ Q v H
    | some (.script ns) => 0 ≤ i ∧ i < 2 ^ 63 ∧ ∃ n, ns[i.toNat]? = some n ∧ Q (.int n) H
    | _ => False) := rfl
theorem sub_rs {k : Str} : wsub (.ref a) (.str k) Q H = (match H a with
    | some (.dict _ es) => ∃ v, lookS es k = some v ∧ Q v H
    | _ => False) := rfl
theorem sl_ref {lo hi st : Option AV} : wslice (.ref a) lo hi st Q H = (match H a with
    | some (.list xs) => ∃ l u t, partI lo = some l ∧ partI hi = some u ∧ partI st = some t ∧ t ≠ some 0 ∧ xs.length ≤ sizeLine ∧ ∀ z, H z = none → Q (.ref z) (up H z (.list (pickL xs l u t)))
    | _ => False) := rfl
theorem in_ref {no : Bool} {x : AV} : win no x (.ref a) Q H = (match H a with
    | some (.list ys) => ∃ d ds, RD H x d ∧ RDs H ys ds ∧ okD d ∧ flatDs ds = true ∧ Q (.bool (nt no (ds.any fun y => PyData.eqv y d))) H
    | some (.tuple ys) => ∃ d ds, RD H x d ∧ RDs H ys ds ∧ okD d ∧ flatDs ds = true ∧ Q (.bool (nt no (ds.any fun y => PyData.eqv y d))) H
    | some (.dict _ es) => match x with
      | .str k => Q (.bool (nt no (lookS es k).isSome)) H
      | _ => False
    | _ => False) := rfl
theorem in_strv {no : Bool} {x : AV} {s : Str} : win no x (.str s) Q H = (match x with
    | .str k => ∃ ch, k = ⟨#[ch]⟩ ∧ Q (.bool (nt no (s.cps.toList.contains ch))) H
    | _ => False) := rfl
end
theorem eqv_s {x y : Str} : PyData.eqv (.str x) (.str y) = (x == y) := rfl
theorem eqv_l {x y : List PyData} : PyData.eqv (.list x) (.list y) = PyData.eqvAll x y := rfl
theorem eqv_c {x y : PyData} {r q : List PyData} : PyData.eqvAll (x :: r) (y :: q) = (PyData.eqv x y && PyData.eqvAll r q) := rfl
end Mine

end
section
open PySem PySem.W PyProof.Rows PySem.Spec PySem.SeqAt
namespace Mine

theorem lts {h : Heap} {a : Addr} {o : Obj} (e : h.get? a = some o) : @LT.lt Nat _ a h.objs.size := Heap.lt_size e
theorem leN {a b : Nat} (h : a ≤ b) : a ≤ b := h
set_option tactic.hygienic false in
theorem up_same {H : AHeap} {a : Addr} {o : AObj} : up H a o a = some o := by simp [up]
set_option tactic.hygienic false in
theorem up_other {H : AHeap} {a b : Addr} {o : AObj} (h : b ≠ a) : up H a o b = H b := by simp [up, h]
set_option tactic.hygienic false in
theorem rup_same {R : RR} {a : Addr} {r : Res} : rup R a r a = some r := by simp [rup]
set_option tactic.hygienic false in
theorem rup_other {R : RR} {a b : Addr} {r : Res} (h : b ≠ a) : rup R a r b = R b := by simp [rup, h]

set_option tactic.hygienic false in
theorem get_none {h : Heap} {a : Addr} (e : h.objs.size ≤ a) : h.get? a = none := by
  cases q : h.get? a with
  | none => rfl
  | some o => have := lts q; have := leN e; omega
theorem abv {c : Cx} {a : Addr} {o : AObj} (h : c.base.objs.size ≤ a) : Abv c a o := ⟨fun _ => get_none h, fun _ => h⟩

set_option tactic.hygienic false in
theorem VRs.length {as vs} (h : VRs as vs) : as.length = vs.length := by
  induction h with
  | nil => rfl
  | cons _ _ ih => simp [ih]
set_option tactic.hygienic false in
theorem VRs.get {as vs} (h : VRs as vs) : ∀ {i : Nat} {a : AV}, as[i]? = some a → ∃ v, vs[i]? = some v ∧ VR a v := by
  induction h with
  | nil => intro i a e; simp at e
  | cons ha _ ih =>
    intro i a e
    cases i with
    | zero => simp at e; subst e; exact ⟨_, by simp, ha⟩
    | succ i => simp at e; obtain ⟨v, h1, h2⟩ := ih e; exact ⟨v, by simpa using h1, h2⟩
set_option tactic.hygienic false in
theorem VRs.append {as vs bs us} (h : VRs as vs) (k : VRs bs us) : VRs (as ++ bs) (vs ++ us) := by
  induction h with
  | nil => exact k
  | cons ha _ ih => exact .cons ha ih
theorem VRs.one {a v} (h : VR a v) : VRs [a] [v] := .cons h .nil
set_option tactic.hygienic false in
theorem VRs.set {as vs} (h : VRs as vs) {a v} (hv : VR a v) (n : Nat) : VRs (as.set n a) (vs.set n v) := by
  induction h generalizing n with
  | nil => exact .nil
  | cons ha hr ih => cases n with
    | zero => exact .cons hv hr
    | succ n => exact .cons ha (ih n)

set_option tactic.hygienic false in
theorem ORep.there {c : Cx} {h : Heap} {D : Addr → Addr} {a : Addr} {o : AObj} (r : ORep c h D a o) : ∃ ob, h.get? a = some ob := by
  cases o with
  | book => exact r.elim
  | list => obtain ⟨_, _, e, _⟩ := r; exact ⟨_, e⟩
  | tuple => obtain ⟨_, _, e, _⟩ := r; exact ⟨_, e⟩
  | dict => obtain ⟨_, ⟨_, _, e, _⟩, _⟩ := r; exact ⟨_, e⟩
  | inst => exact ⟨_, r.1⟩
  | range => obtain ⟨_, _, _, _, e⟩ := r; exact ⟨_, e⟩
  | vals => exact ⟨_, r⟩
  | itms => exact ⟨_, r⟩
  | exc => obtain ⟨_, e, _⟩ := r; exact ⟨_, e⟩
  | script => obtain ⟨_, _, e, _⟩ := r; exact ⟨_, e⟩

set_option tactic.hygienic false in
theorem ORep.agree {c : Cx} {h h' : Heap} {D D' : Addr → Addr} {a : Addr} {o : AObj} (r : ORep c h D a o) (e : ∀ ob, h.get? a = some ob → h'.get? a = some ob)
    (e2 : ∀ cl es, o = .inst cl es → D' a = D a ∧ ∀ ob, h.get? (D a) = some ob → h'.get? (D a) = some ob) : ORep c h' D' a o := by
  cases o with
  | book => exact r.elim
  | list => obtain ⟨vs, n, q, x⟩ := r; exact ⟨vs, n, e _ q, x⟩
  | tuple => obtain ⟨vs, n, q, x⟩ := r; exact ⟨vs, n, e _ q, x⟩
  | dict => obtain ⟨kvs, ⟨o, es, q, x⟩, y⟩ := r; exact ⟨kvs, ⟨o, es, e _ q, x⟩, y⟩
  | inst cl es =>
    obtain ⟨q, ents, n, q2, x⟩ := r
    obtain ⟨d1, d2⟩ := e2 cl es rfl
    exact ⟨by rw [d1]; exact e _ q, ents, n, by rw [d1]; exact d2 _ q2, x⟩
  | range => obtain ⟨z, t, u, v, q⟩ := r; exact ⟨z, t, u, v, e _ q⟩
  | vals => exact e _ r
  | itms => exact e _ r
  | exc => obtain ⟨o, q, x⟩ := r; exact ⟨o, e _ q, x⟩
  | script => obtain ⟨vs, n, q, x⟩ := r; exact ⟨vs, n, e _ q, x⟩

set_option tactic.hygienic false in
theorem ResAt.agree {h h' : Heap} {b : Addr} {r : Res} (x : ResAt h b r) (e : ∀ ob, h.get? b = some ob → h'.get? b = some ob) : ResAt h' b r := by
  cases r with
  | ns m => obtain ⟨o, es, ep, q, y⟩ := x; exact ⟨o, es, ep, e _ q, y⟩
  | cell v => obtain ⟨o, q, y⟩ := x; exact ⟨o, e _ q, y⟩
  | obj o => exact e _ x
set_option tactic.hygienic false in
theorem ResAt.there {h : Heap} {b : Addr} {r : Res} (x : ResAt h b r) : ∃ ob, h.get? b = some ob := by
  cases r with
  | ns m => obtain ⟨o, es, ep, q, y⟩ := x; exact ⟨o, q⟩
  | cell v => obtain ⟨o, q, y⟩ := x; exact ⟨o, q⟩
  | obj o => exact ⟨_, x⟩

section
variable {c : Cx} {R R' : RR} {H : AHeap} {h h' : Heap}

set_option tactic.hygienic false in
theorem St1.weaken (S : St1 c R' H h) (k : ∀ b r, R b = some r → R' b = some r) : St1 c R H h := by
  obtain ⟨s1, s2, s3, D, s4⟩ := S
  have nn : ∀ a, R' a = none → R a = none := fun a e => by
    cases q : R a with
    | none => rfl
    | some r => rw [k a r q] at e; cases e
  exact ⟨s1, s2, fun b r e => s3 b r (k b r e), D, ⟨s4.rep, fun a o e => ⟨(s4.above a o e).1, nn _ (s4.above a o e).2⟩,
    fun a cl es e => ⟨(s4.dict a cl es e).1, nn _ (s4.dict a cl es e).2.1, (s4.dict a cl es e).2.2⟩, s4.inj⟩⟩

set_option tactic.hygienic false in
theorem St1.keeps (S : St1 c R H h) (k : ∀ b o, h.get? b = some o → h'.get? b = some o) (hs : h.objs.size ≤ h'.objs.size) : St1 c R H h' := by
  obtain ⟨s1, s2, s3, D, s4⟩ := S
  exact ⟨fun b o e => k b o (s1 b o e), Nat.le_trans s2 hs, fun b r e => ⟨(s3 b r e).1, (s3 b r e).2.agree fun _ => k _ _⟩, D,
    ⟨fun a o e => (s4.rep a o e).agree (fun _ => k _ _) fun _ _ _ => ⟨rfl, fun _ => k _ _⟩, s4.above, s4.dict, s4.inj⟩⟩
theorem St1.push (S : St1 c R H h) (o : Obj) : St1 c R H (h.push o) := S.keeps (fun _ _ e => Heap.get?_push_of_some o e) (by rw [Heap.size_push]; omega)

set_option tactic.hygienic false in
theorem St1.freeH (S : St1 c R H h) {x : Addr} (hx : h.objs.size ≤ x) : H x = none := by
  cases q : H x with
  | none => rfl
  | some o =>
    obtain ⟨D, s4⟩ := S.rep
    obtain ⟨ob, e⟩ := (s4.rep _ _ q).there
    have := lts e; have := leN hx; omega
set_option tactic.hygienic false in
theorem St1.freeR (S : St1 c R H h) {x : Addr} (hx : h.objs.size ≤ x) : R x = none := by
  cases q : R x with
  | none => rfl
  | some o =>
    obtain ⟨ob, e⟩ := (S.res _ _ q).2.there
    have := lts e; have := leN hx; omega

set_option tactic.hygienic false in
theorem St1.newObj (S : St1 c R H h) {x : Addr} {o : AObj} (hx : h.objs.size ≤ x) (k : ∀ b ob, h.get? b = some ob → h'.get? b = some ob) (hs : h.objs.size ≤ h'.objs.size)
    (hni : ∀ cl es, o ≠ .inst cl es) (ho : ∀ D, ORep c h' D x o) : H x = none ∧ St1 c R (up H x o) h' := by
  refine ⟨S.freeH hx, ?_⟩
  have hRx := S.freeR hx
  have hb := S.size
  have S' := S.keeps k hs
  obtain ⟨s1, s2, s3, D, s4⟩ := S'
  have hD : ∀ a cl es, H a = some (.inst cl es) → D a ≠ x := fun a cl es e q => by
    obtain ⟨D0, s40⟩ := S.rep
    obtain ⟨q1, ents, n, q2, _⟩ := s4.rep a _ e
    obtain ⟨p1, ents', n', p2, _⟩ := s40.rep a _ e
    have := k _ _ p1
    rw [q1] at this
    have hd : D a = D0 a := by injection this with this; injection this with _ z; exact Option.some.inj z
    have hlt := lts p2; have hx' := leN hx
    rw [← hd, q] at hlt; omega
  refine ⟨s1, s2, s3, D, ⟨fun a ao e => ?_, fun a ao e => ?_, fun a cl es e => ?_, fun a b cl es cl' es' e e' => ?_⟩⟩
  · by_cases q : a = x
    · subst q; rw [up_same] at e; cases e; exact ho D
    · rw [up_other q] at e; exact s4.rep a ao e
  · by_cases q : a = x
    · subst q; exact ⟨abv (by have := leN hx; omega), hRx⟩
    · rw [up_other q] at e; exact s4.above a ao e
  · by_cases q : a = x
    · subst q; rw [up_same] at e; cases e; exact absurd rfl (hni cl es)
    · rw [up_other q] at e
      obtain ⟨y1, y2, y3⟩ := s4.dict a cl es e
      exact ⟨y1, y2, by rw [up_other (hD a cl es e)]; exact y3⟩
  · by_cases q : a = x
    · subst q; rw [up_same] at e; cases e; exact absurd rfl (hni cl es)
    · by_cases q' : b = x
      · subst q'; rw [up_same] at e'; cases e'; exact absurd rfl (hni cl' es')
      · rw [up_other q] at e; rw [up_other q'] at e'; exact s4.inj a b cl es cl' es' e e'

set_option tactic.hygienic false in
theorem St1.newRes (S : St1 c R H h) {x : Addr} {r : Res} (hx : h.objs.size ≤ x) (k : ∀ b ob, h.get? b = some ob → h'.get? b = some ob) (hs : h.objs.size ≤ h'.objs.size)
    (hr : ResAt h' x r) : R x = none ∧ H x = none ∧ St1 c (rup R x r) H h' := by
  refine ⟨S.freeR hx, S.freeH hx, ?_⟩
  have hHx := S.freeH hx
  have hb := S.size
  obtain ⟨D0, s40⟩ := S.rep
  have S' := S.keeps k hs
  obtain ⟨s1, s2, s3, D, s4⟩ := S'
  have hD : ∀ a cl es, H a = some (.inst cl es) → D a ≠ x := fun a cl es e q => by
    obtain ⟨q1, ents, n, q2, _⟩ := s4.rep a _ e
    obtain ⟨p1, ents', n', p2, _⟩ := s40.rep a _ e
    have := k _ _ p1
    rw [q1] at this
    have hd : D a = D0 a := by injection this with this; injection this with _ z; exact Option.some.inj z
    have hlt := lts p2; have hx' := leN hx
    rw [← hd, q] at hlt; omega
  refine ⟨s1, s2, fun b rr e => ?_, D, ⟨s4.rep, fun a ao e => ?_, fun a cl es e => ?_, s4.inj⟩⟩
  · by_cases q : b = x
    · subst q; rw [rup_same] at e; cases e; exact ⟨by omega, hr⟩
    · rw [rup_other q] at e; exact s3 b rr e
  · obtain ⟨y1, y2⟩ := s4.above a ao e
    exact ⟨y1, by rw [rup_other (fun q => by rw [q, hHx] at e; cases e)]; exact y2⟩
  · obtain ⟨y1, y2, y3⟩ := s4.dict a cl es e
    exact ⟨y1, by rw [rup_other (hD a cl es e)]; exact y2, y3⟩

set_option tactic.hygienic false in
theorem St1.setRes (S : St1 c R H h) {x : Addr} {r r' : Res} (hx : R x = some r) (hs : Heap.SameBut x h h') (hr : ResAt h' x r') : St1 c (rup R x r') H h' := by
  obtain ⟨s1, s2, s3, D, s4⟩ := S
  have bx : c.base.get? x = none := by
    cases q : c.base.get? x with
    | none => rfl
    | some o => have := lts q; have := leN (s3 x r hx).1; omega
  refine ⟨fun b o e => ?_, by rw [hs.1]; exact s2, fun b rr e => ?_, D, ⟨fun a ao e => ?_, fun a ao e => ?_, fun a cl es e => ?_, s4.inj⟩⟩
  · rw [hs.2 b (fun q => by rw [q, bx] at e; cases e)]; exact s1 b o e
  · by_cases q : b = x
    · subst q; rw [rup_same] at e; cases e; exact ⟨(s3 b r hx).1, hr⟩
    · rw [rup_other q] at e; exact ⟨(s3 b rr e).1, (s3 b rr e).2.agree fun ob z => by rw [hs.2 b q]; exact z⟩
  · refine (s4.rep a ao e).agree (fun ob z => ?_) fun cl es eo => ⟨rfl, fun ob z => ?_⟩
    · rw [hs.2 a (fun q => by have := (s4.above a ao e).2; rw [q, hx] at this; cases this)]; exact z
    · subst eo; rw [hs.2 _ (fun q => by have := (s4.dict a cl es e).2.1; rw [q, hx] at this; cases this)]; exact z
  · obtain ⟨y1, y2⟩ := s4.above a ao e
    exact ⟨y1, by rw [rup_other (fun q => by rw [q, hx] at y2; cases y2)]; exact y2⟩
  · obtain ⟨y1, y2, y3⟩ := s4.dict a cl es e
    exact ⟨y1, by rw [rup_other (fun q => by rw [q, hx] at y2; cases y2)]; exact y2, y3⟩

set_option tactic.hygienic false in
theorem St1.setObj (S : St1 c R H h) {x : Addr} {o o' : AObj} (hx : H x = some o) (hni' : ∀ cl es, o' ≠ .inst cl es) (hs : Heap.SameBut x h h')
    (ho : ∀ D, ORep c h' D x o') (hne : o.isX = false := by rfl) : St1 c R (up H x o') h' := by
  obtain ⟨s1, s2, s3, D, s4⟩ := S
  have bx : c.base.get? x = none := get_none ((s4.above x _ hx).1.2 hne)
  refine ⟨fun b o e => ?_, by rw [hs.1]; exact s2, fun b rr e => ?_, D, ⟨fun a ao e => ?_, fun a ao e => ?_, fun a cl es e => ?_, fun a b cl es cl' es' e e' => ?_⟩⟩
  · rw [hs.2 b (fun q => by rw [q, bx] at e; cases e)]; exact s1 b o e
  · exact ⟨(s3 b rr e).1, (s3 b rr e).2.agree fun ob z => by rw [hs.2 b (fun q => by have := (s4.above x _ hx).2; rw [q, this] at e; cases e)]; exact z⟩
  · by_cases q : a = x
    · subst q; rw [up_same] at e; cases e; exact ho D
    · rw [up_other q] at e
      refine (s4.rep a ao e).agree (fun ob z => by rw [hs.2 a q]; exact z) fun cl es eo => ⟨rfl, fun ob z => ?_⟩
      subst eo; rw [hs.2 _ (fun q => by have := (s4.dict a cl es e).2.2; rw [q, hx] at this; cases this)]; exact z
  · by_cases q : a = x
    · subst q; exact ⟨abv ((s4.above a _ hx).1.2 hne), (s4.above a _ hx).2⟩
    · rw [up_other q] at e; exact s4.above a ao e
  · by_cases q : a = x
    · subst q; rw [up_same] at e; cases e; exact absurd rfl (hni' cl es)
    · rw [up_other q] at e
      obtain ⟨y1, y2, y3⟩ := s4.dict a cl es e
      exact ⟨y1, y2, by rw [up_other (fun q => by rw [q, hx] at y3; cases y3)]; exact y3⟩
  · by_cases q : a = x
    · subst q; rw [up_same] at e; cases e; exact absurd rfl (hni' cl es)
    · by_cases q' : b = x
      · subst q'; rw [up_same] at e'; cases e'; exact absurd rfl (hni' cl' es')
      · rw [up_other q] at e; rw [up_other q'] at e'; exact s4.inj a b cl es cl' es' e e'

set_option tactic.hygienic false in
theorem St1.setAttr (S : St1 c R H h) {x : Addr} {cl : String} {es : List (String × AV)} (hx : H x = some (.inst cl es)) :
    ∃ d ents n, h.get? x = some (instObj (c.ca cl) d) ∧ h.get? d = some (dictOf ents n) ∧ attrsAre es ents ∧ (es.map (·.1)).Nodup ∧
      ∀ h' ents' n' es', Heap.SameBut d h h' → h'.get? d = some (dictOf ents' n') → attrsAre es' ents' → (es'.map (·.1)).Nodup → St1 c R (up H x (.inst cl es')) h' := by
  obtain ⟨s1, s2, s3, D, s4⟩ := S
  obtain ⟨e1, ents, n, e2, e3, e4⟩ := s4.rep x _ hx
  refine ⟨D x, ents, n, e1, e2, e3, e4, fun h' ents' n' es' hs hd ha hnd => ?_⟩
  obtain ⟨d1, d2, d3⟩ := s4.dict x cl es hx
  have bx : c.base.get? (D x) = none := by
    cases q : c.base.get? (D x) with
    | none => rfl
    | some o => have := lts q; have := leN d1; omega
  refine ⟨fun b o e => ?_, by rw [hs.1]; exact s2, fun b rr e => ?_, D, ⟨fun a ao e => ?_, fun a ao e => ?_, fun a cl' es'' e => ?_, fun a b cla esa clb esb e e' => ?_⟩⟩
  · rw [hs.2 b (fun q => by rw [q, bx] at e; cases e)]; exact s1 b o e
  · exact ⟨(s3 b rr e).1, (s3 b rr e).2.agree fun ob z => by rw [hs.2 b (fun q => by rw [q, d2] at e; cases e)]; exact z⟩
  · by_cases q : a = x
    · subst q; rw [up_same] at e; cases e
      exact ⟨by rw [hs.2 a (fun q => by rw [← q, hx] at d3; cases d3)]; exact e1, ents', n', hd, ha, hnd⟩
    · rw [up_other q] at e
      refine (s4.rep a ao e).agree (fun ob z => by rw [hs.2 a (fun q => by rw [q, d3] at e; cases e)]; exact z) fun cl' es'' eo => ⟨rfl, fun ob z => ?_⟩
      subst eo; rw [hs.2 _ (fun q' => q (s4.inj a x _ _ _ _ e hx q'))]; exact z
  · by_cases q : a = x
    · subst q; exact ⟨abv ((s4.above a _ hx).1.2 rfl), (s4.above a _ hx).2⟩
    · rw [up_other q] at e; exact s4.above a ao e
  · by_cases q : a = x
    · subst q; exact ⟨d1, d2, by rw [up_other (fun q => by rw [q, hx] at d3; cases d3)]; exact d3⟩
    · rw [up_other q] at e
      obtain ⟨y1, y2, y3⟩ := s4.dict a cl' es'' e
      exact ⟨y1, y2, by rw [up_other (fun q => by rw [q, hx] at y3; cases y3)]; exact y3⟩
  · have t : ∀ z cz ez, up H x (.inst cl es') z = some (.inst cz ez) → ∃ c0 e0, H z = some (.inst c0 e0) := fun z cz ez ez' => by
      by_cases q : z = x
      · subst q; exact ⟨_, _, hx⟩
      · rw [up_other q] at ez'; exact ⟨_, _, ez'⟩
    obtain ⟨_, _, t1⟩ := t a _ _ e
    obtain ⟨_, _, t2⟩ := t b _ _ e'
    exact s4.inj a b _ _ _ _ t1 t2

set_option tactic.hygienic false in
theorem St1.newInst (S : St1 c R H h) {cl : String} : H (h.objs.size + 1) = none ∧ St1 c R (up H (h.objs.size + 1) (.inst cl [])) ((h.push emptyDict).push (instObj (c.ca cl) h.objs.size)) := by
  refine ⟨S.freeH (by omega), ?_⟩
  have hfd := S.freeH (x := h.objs.size) (by omega)
  have hfi := S.freeH (x := h.objs.size + 1) (by omega)
  have hrd := S.freeR (x := h.objs.size) (by omega)
  have hri := S.freeR (x := h.objs.size + 1) (by omega)
  have k : ∀ b o, h.get? b = some o → ((h.push emptyDict).push (instObj (c.ca cl) h.objs.size)).get? b = some o := fun b o e => Heap.get?_push_of_some _ (Heap.get?_push_of_some _ e)
  obtain ⟨s1, s2, s3, D, s4⟩ := S
  have hDlt : ∀ a cl es, H a = some (.inst cl es) → @LT.lt Nat _ (D a) h.objs.size := fun a cl es e => by
    obtain ⟨_, _, _, q, _⟩ := s4.rep a _ e; exact lts q
  refine ⟨fun b o e => k b o (s1 b o e), by rw [Heap.size_push, Heap.size_push]; omega, fun b r e => ⟨(s3 b r e).1, (s3 b r e).2.agree fun _ => k _ _⟩,
    fun a => if a = h.objs.size + 1 then h.objs.size else D a, ⟨fun a ao e => ?_, fun a ao e => ?_, fun a cl' es e => ?_, fun a b cla esa clb esb e e' hq => ?_⟩⟩
  · by_cases q : a = h.objs.size + 1
    · subst q; rw [up_same] at e; cases e
      refine ⟨?_, [], 0, ?_, trivial, by simp⟩
      · simp only [if_true]
        have := Heap.get?_push_size (h.push emptyDict) (o := instObj (c.ca cl) h.objs.size) rfl
        rwa [Heap.size_push] at this
      · simp only [if_true]
        exact Heap.get?_push_of_some _ (Heap.get?_push_size h rfl)
    · rw [up_other q] at e
      exact (s4.rep a ao e).agree (fun _ => k _ _) fun cl' es eo => ⟨by simp [q], fun _ => k _ _⟩
  · by_cases q : a = h.objs.size + 1
    · subst q; exact ⟨abv (by omega), hri⟩
    · rw [up_other q] at e; exact s4.above a ao e
  · by_cases q : a = h.objs.size + 1
    · subst q
      simp only [if_true]
      exact ⟨s2, hrd, by rw [up_other (Nat.ne_of_lt (Nat.lt_succ_self _))]; exact hfd⟩
    · rw [up_other q] at e
      simp only [if_neg q]
      obtain ⟨y1, y2, y3⟩ := s4.dict a cl' es e
      have := hDlt a cl' es e
      exact ⟨y1, y2, by rw [up_other (Nat.ne_of_lt (Nat.lt_succ_of_lt this))]; exact y3⟩
  · by_cases q : a = h.objs.size + 1
    · by_cases q' : b = h.objs.size + 1
      · rw [q, q']
      · rw [up_other q'] at e'
        simp only [q, q', if_true, if_false] at hq
        exact absurd hq (Nat.ne_of_gt (hDlt b _ _ e'))
    · rw [up_other q] at e
      by_cases q' : b = h.objs.size + 1
      · simp only [q, q', if_true, if_false] at hq
        exact absurd hq (Nat.ne_of_lt (hDlt a _ _ e))
      · rw [up_other q'] at e'
        simp only [q, q', if_false] at hq
        exact s4.inj a b _ _ _ _ e e' hq
end

theorem Sm.mk' (s : Shared) (h : Heap) (tk : Nat) : Sm s { s with heap := h, toks := tk } := ⟨h, tk, rfl⟩
set_option tactic.hygienic false in
theorem Sm.trans {s s' s'' : Shared} (x : Sm s s') (y : Sm s' s'') : Sm s s'' := by
  obtain ⟨h, t, rfl⟩ := x
  obtain ⟨h', t', rfl⟩ := y
  exact ⟨h', t', rfl⟩


noncomputable def KB (P : Role → Prop) (o o' : Addr → Option Role) (H H' : AHeap) : Prop := ∀ a r x, P r → o a = some r → H a = some x → x.isB = false → o' a = some r ∧ H' a = some x
section
variable {P : Role → Prop} {o o' : Addr → Option Role} {H H' : AHeap} (k : KB P o o' H H') (hd : P .data)
include k hd
theorem pairsAV.congr : ∀ {ts : List Addr} {l : List (Str × Int)}, pairsAV o H ts l → pairsAV o' H' ts l
  | [], [], _ => trivial
  | t :: _, _ :: _, ⟨h1, h2, h3⟩ => ⟨(k t _ _ hd h1 h2 rfl).1, (k t _ _ hd h1 h2 rfl).2, h3.congr⟩
  | [], _ :: _, h => h.elim
  | _ :: _, [], h => h.elim
set_option tactic.hygienic false in
theorem PairsAt.congr {p : Addr} {l : List (Str × Int)} (h : PairsAt o H p l) : PairsAt o' H' p l := by
  obtain ⟨h1, ts, h2, h3⟩ := h
  exact ⟨(k p _ _ hd h1 h2 rfl).1, ts, (k p _ _ hd h1 h2 rfl).2, h3.congr k hd⟩
set_option tactic.hygienic false in
theorem IsPact.congr {i : Nat} (hp : P (.pact i) ∧ P (.inside i)) {a : Addr} {q : Pc} (h : IsPact o H i a q) : IsPact o' H' i a q := by
  obtain ⟨h1, pa, ga, ne, ins, ep, h2, h3, h4, h5, h6, h7, h8⟩ := h
  exact ⟨(k a _ _ hp.1 h1 h2 rfl).1, pa, ga, ne, ins, ep, (k a _ _ hp.1 h1 h2 rfl).2, h3.congr k hd, h4.congr k hd, (k ne _ _ hd h5 h6 rfl).1, (k ne _ _ hd h5 h6 rfl).2, (k ins _ _ hp.2 h7 h8 rfl).1, (k ins _ _ hp.2 h7 h8 rfl).2⟩
theorem pactsAt.congr : ∀ {i : Nat} {as : List Addr} {qs : List Pc}, (∀ j, i ≤ j → P (.pact j) ∧ P (.inside j)) → pactsAt o H i as qs → pactsAt o' H' i as qs
  | _, [], [], _, _ => trivial
  | i, _ :: _, _ :: _, hp, ⟨h1, h2⟩ => ⟨h1.congr k hd (hp i (Nat.le_refl _)), h2.congr fun j hj => hp j (Nat.le_of_succ_le hj)⟩
  | _, [], _ :: _, _, h => h.elim
  | _, _ :: _, [], _, h => h.elim
end
set_option tactic.hygienic false in
theorem IsBook.congr {o o' : Addr → Option Role} {H H' : AHeap} (k : KB (fun _ => True) o o' H H') {b f s p : Addr} {as : List Addr} {B : Bk} (h : IsBook o H b f s p as B) : IsBook o' H' b f s p as B := by
  obtain ⟨h1, h2, h3, h4, h5, ⟨e1, h6⟩, ⟨e2, h7⟩, ⟨e3, h8⟩, h9⟩ := h
  exact ⟨(k b _ _ trivial h1 h5 rfl).1, (k f _ _ trivial h2 h6 rfl).1, (k s _ _ trivial h3 h7 rfl).1, (k p _ _ trivial h4 h8 rfl).1, (k b _ _ trivial h1 h5 rfl).2, ⟨e1, (k f _ _ trivial h2 h6 rfl).2⟩, ⟨e2, (k s _ _ trivial h3 h7 rfl).2⟩, ⟨e3, (k p _ _ trivial h4 h8 rfl).2⟩, h9.congr k trivial fun _ _ => ⟨trivial, trivial⟩⟩

theorem ownB_some {o : Addr → Option (Addr × Role)} {b a : Addr} {r : Role} : ownB o b a = some r ↔ o a = some (b, r) := by
  unfold ownB
  split
  · rename_i c r' e
    rw [e]
    by_cases q : c = b <;> simp [q]
  · rename_i e; rw [e]; simp
section
variable {H H₁ : AHeap}
set_option tactic.hygienic false in
theorem Real.get (r : Real H H₁) {a : Addr} {x : AObj} (e : H a = some x) (hb : x.isB = false) : H₁ a = some x := by
  obtain ⟨_, o, h⟩ := r
  rcases h a x e with ⟨_, h, _⟩ | ⟨B, _, _, _, _, rfl, _⟩
  · exact h
  · cases hb
set_option tactic.hygienic false in
theorem Real.none (r : Real H H₁) {a : Addr} (e : H₁ a = Option.none) : H a = Option.none := by
  obtain ⟨_, o, h⟩ := r
  cases q : H a with
  | none => rfl
  | some x =>
    rcases h a x q with ⟨_, h, _⟩ | ⟨B, f, s, p, as, rfl, h⟩
    · rw [e] at h; cases h
    · have := h.hb; rw [e] at this; cases this
set_option tactic.hygienic false in
theorem Real.put (r : Real H H₁) {x : Addr} {y : AObj} (hy : y.isB = false) (hx : H₁ x = Option.none ∨ ∃ z, H x = some z ∧ z.isB = false) : Real (up H x y) (up H₁ x y) := by
  obtain ⟨hr, o, h⟩ := r
  have hox : (∃ z, H x = some z ∧ z.isB = false) → o x = Option.none := by
    rintro ⟨z, e, hz⟩
    rcases h x z e with ⟨_, _, q⟩ | ⟨B, _, _, _, _, rfl, _⟩
    · exact q
    · cases hz
  refine ⟨fun a z e => ?_, fun a => if a = x then Option.none else o a, fun a z e => ?_⟩
  · by_cases q : a = x
    · subst q; rw [up_same] at e; cases e; exact hy
    · rw [up_other q] at e; exact hr a z e
  by_cases q : a = x
  · subst q; rw [up_same] at e; cases e
    exact .inl ⟨hy, up_same, if_pos rfl⟩
  · rw [up_other q] at e
    rcases h a z e with ⟨h1, h2, h3⟩ | ⟨B, f, s, p, as, rfl, h1⟩
    · exact .inl ⟨h1, by rw [up_other q]; exact h2, (if_neg q).trans h3⟩
    · refine .inr ⟨B, f, s, p, as, rfl, h1.congr fun c r' z _ hr hc _ => ?_⟩
      have hr := ownB_some.mp hr
      have hcx : c ≠ x := by
        rintro rfl
        rcases hx with hx | hx
        · rw [hx] at hc; cases hc
        · rw [hox hx] at hr; cases hr
      exact ⟨ownB_some.mpr ((if_neg hcx).trans hr), by rw [up_other hcx]; exact hc⟩
theorem Real.raw (hr : ∀ a x, H a = some x → x.isB = false) : Real H H := ⟨hr, fun _ => Option.none, fun a x e => .inl ⟨hr a x e, e, rfl⟩⟩

set_option tactic.hygienic false in
theorem Real.unpack (r : Real H H₁) {b : Addr} {B : Bk} (hb : H b = some (.book B)) : ∃ H₂ o f s p as, Real H₂ H₁ ∧ IsBook o H₂ b f s p as B ∧ ∀ a x, H a = some x → a ≠ b → H₂ a = some x ∧ o a = Option.none := by
  obtain ⟨hr, o, h⟩ := r
  rcases h b _ hb with ⟨h1, _⟩ | ⟨B', f, s, p, as, e, h1⟩
  · cases h1
  cases e
  have key : ∀ a x, H a = some x → a ≠ b → ownB o b a = Option.none := fun a x e q => by
    cases z : ownB o b a with
    | none => rfl
    | some r =>
      have z := ownB_some.mp z
      rcases h a x e with ⟨_, _, k⟩ | ⟨B', f', s', p', as', rfl, k⟩
      · rw [k] at z; cases z
      · have := ownB_some.mp k.ob; rw [this] at z; cases z; exact absurd rfl q
  have hbs := h1.ob
  refine ⟨fun a => match ownB o b a with | some _ => H₁ a | Option.none => H a, ownB o b, f, s, p, as, ⟨hr, fun a => match ownB o b a with | some _ => Option.none | Option.none => o a, fun a x e => ?_⟩, h1.congr fun a r x _ hr hx _ => ⟨hr, by simp only [hr]; exact hx⟩, fun a x e q => ?_⟩
  · cases z : ownB o b a with
    | some r => simp only [z] at e; exact .inl ⟨hr a x e, e, by simp only [z]⟩
    | none =>
      simp only [z] at e
      rcases h a x e with ⟨k1, k2, k3⟩ | ⟨B', f', s', p', as', rfl, k⟩
      · exact .inl ⟨k1, k2, by simp only [z]; exact k3⟩
      · refine .inr ⟨B', f', s', p', as', rfl, k.congr fun c r x _ hc hx _ => ⟨?_, hx⟩⟩
        have hc := ownB_some.mp hc
        have hab : a ≠ b := by rintro rfl; rw [hbs] at z; cases z
        have hn : ownB o b c = Option.none := by
          cases w : ownB o b c with
          | none => rfl
          | some r' => have w := ownB_some.mp w; rw [hc] at w; cases w; exact absurd rfl hab
        exact ownB_some.mpr (by simp only [hn]; exact hc)
  · have := key a x e q
    exact ⟨by simp only [this]; exact e, this⟩

set_option tactic.hygienic false in
theorem Real.pack {H₂ : AHeap} {o : Addr → Option Role} {b f s p : Addr} {as : List Addr} {B : Bk} (r : Real H₂ H₁) (hb : IsBook o H₂ b f s p as B)
    (k : ∀ a x, H a = some x → (a = b ∧ x = .book B) ∨ (a ≠ b ∧ o a = Option.none ∧ H₂ a = some x)) : Real H H₁ := by
  obtain ⟨hr, oA, h⟩ := r
  refine ⟨hr, fun a => match oA a with | some z => some z | Option.none => (o a).map fun r => (b, r), fun a x e => ?_⟩
  rcases k a x e with ⟨rfl, rfl⟩ | ⟨h1, h2, h3⟩
  · refine .inr ⟨B, f, s, p, as, rfl, hb.congr fun c r x _ hc hx hn => ?_⟩
    rcases h c x hx with ⟨_, k1, k2⟩ | ⟨B', _, _, _, _, rfl, _⟩
    · exact ⟨ownB_some.mpr (by simp only [k2, hc]; rfl), k1⟩
    · cases hn
  · rcases h a x h3 with ⟨k1, k2, k3⟩ | ⟨B', f', s', p', as', rfl, k1⟩
    · exact .inl ⟨k1, k2, by simp only [k3, h2]; rfl⟩
    · refine .inr ⟨B', f', s', p', as', rfl, k1.congr fun c r x _ hc hx _ => ⟨?_, hx⟩⟩
      have hc := ownB_some.mp hc
      exact ownB_some.mpr (by simp only [hc])
end

section
variable {c : Cx} {R R' : RR} {H : AHeap} {h h' : Heap}
theorem St.stays (S : St c R H h) : c.base.StaysIn h := let ⟨_, s, _⟩ := S; s.stays
theorem St.size (S : St c R H h) : c.base.objs.size ≤ h.objs.size := let ⟨_, s, _⟩ := S; s.size
theorem St.res (S : St c R H h) : ∀ b r, R b = some r → c.base.objs.size ≤ b ∧ ResAt h b r := let ⟨_, s, _⟩ := S; s.res
set_option tactic.hygienic false in
theorem St.orep (S : St c R H h) {a : Addr} {x : AObj} (e : H a = some x) (hb : x.isB = false := by rfl) : (∃ D, ORep c h D a x) ∧ Abv c a x ∧ R a = none := by
  obtain ⟨H₁, s, r⟩ := S
  obtain ⟨D, k⟩ := s.rep
  exact ⟨⟨D, k.rep a x (r.get e hb)⟩, k.above a x (r.get e hb)⟩
theorem St.weaken (S : St c R' H h) (k : ∀ b r, R b = some r → R' b = some r) : St c R H h := let ⟨H₁, s, r⟩ := S; ⟨H₁, s.weaken k, r⟩
theorem St.push (S : St c R H h) (o : Obj) : St c R H (h.push o) := let ⟨H₁, s, r⟩ := S; ⟨H₁, s.push o, r⟩
set_option tactic.hygienic false in
theorem St.newObj (S : St c R H h) {x : Addr} {o : AObj} (hx : h.objs.size ≤ x) (k : ∀ b ob, h.get? b = some ob → h'.get? b = some ob) (hs : h.objs.size ≤ h'.objs.size)
    (hni : ∀ cl es, o ≠ .inst cl es) (ho : ∀ D, ORep c h' D x o) (hb : o.isB = false := by rfl) : H x = none ∧ St c R (up H x o) h' := by
  obtain ⟨H₁, s, r⟩ := S
  obtain ⟨e, s'⟩ := s.newObj hx k hs hni ho
  exact ⟨r.none e, _, s', r.put hb (.inl e)⟩
set_option tactic.hygienic false in
theorem St.newRes (S : St c R H h) {x : Addr} {r : Res} (hx : h.objs.size ≤ x) (k : ∀ b ob, h.get? b = some ob → h'.get? b = some ob) (hs : h.objs.size ≤ h'.objs.size)
    (hr : ResAt h' x r) : R x = none ∧ H x = none ∧ St c (rup R x r) H h' := by
  obtain ⟨H₁, s, rl⟩ := S
  obtain ⟨e, e', s'⟩ := s.newRes hx k hs hr
  exact ⟨e, rl.none e', _, s', rl⟩
theorem St.setRes (S : St c R H h) {x : Addr} {r r' : Res} (hx : R x = some r) (hs : Heap.SameBut x h h') (hr : ResAt h' x r') : St c (rup R x r') H h' := let ⟨H₁, s, rl⟩ := S; ⟨H₁, s.setRes hx hs hr, rl⟩
set_option tactic.hygienic false in
theorem St.setObj (S : St c R H h) {x : Addr} {o o' : AObj} (hx : H x = some o) (hni' : ∀ cl es, o' ≠ .inst cl es) (hs : Heap.SameBut x h h')
    (ho : ∀ D, ORep c h' D x o') (hne : o.isX = false := by rfl) (hb : o.isB = false := by rfl) (hb' : o'.isB = false := by rfl) : St c R (up H x o') h' := by
  obtain ⟨H₁, s, r⟩ := S
  exact ⟨_, s.setObj (r.get hx hb) hni' hs ho hne, r.put hb' (.inr ⟨o, hx, hb⟩)⟩
set_option tactic.hygienic false in
theorem St.setAttr (S : St c R H h) {x : Addr} {cl : String} {es : List (String × AV)} (hx : H x = some (.inst cl es)) :
    ∃ d ents n, h.get? x = some (instObj (c.ca cl) d) ∧ h.get? d = some (dictOf ents n) ∧ attrsAre es ents ∧ (es.map (·.1)).Nodup ∧
      ∀ h' ents' n' es', Heap.SameBut d h h' → h'.get? d = some (dictOf ents' n') → attrsAre es' ents' → (es'.map (·.1)).Nodup → St c R (up H x (.inst cl es')) h' := by
  obtain ⟨H₁, s, r⟩ := S
  obtain ⟨d, ents, n, a1, a2, a3, a4, a5⟩ := s.setAttr (r.get hx rfl)
  exact ⟨d, ents, n, a1, a2, a3, a4, fun h' e' n' es' q1 q2 q3 q4 => ⟨_, a5 h' e' n' es' q1 q2 q3 q4, r.put rfl (.inr ⟨_, hx, rfl⟩)⟩⟩
set_option tactic.hygienic false in
theorem St.newInst (S : St c R H h) {cl : String} : H (h.objs.size + 1) = none ∧ St c R (up H (h.objs.size + 1) (.inst cl [])) ((h.push emptyDict).push (instObj (c.ca cl) h.objs.size)) := by
  obtain ⟨H₁, s, r⟩ := S
  obtain ⟨e, s'⟩ := s.newInst (cl := cl)
  exact ⟨r.none e, _, s', r.put rfl (.inl e)⟩
set_option tactic.hygienic false in
theorem St.bookAttr (S : St c R H h) {x : Addr} {B : Bk} (hx : H x = some (.book B)) : ∃ f s p, ∃ d ents n, h.get? x = some (instObj (c.ca "Book") d) ∧ h.get? d = some (dictOf ents n) ∧ attrsAre [("day", .int B.day), ("free", .ref f), ("aside", .ref s), ("pacts", .ref p)] ents := by
  obtain ⟨H₁, s, r⟩ := S
  obtain ⟨_, o, k⟩ := r
  rcases k x _ hx with ⟨k, _⟩ | ⟨B', f, s', p, as, e, k⟩
  · cases k
  cases e
  obtain ⟨d, ents, n, a1, a2, a3, _⟩ := s.setAttr k.hb
  exact ⟨f, s', p, d, ents, n, a1, a2, a3⟩
end

end Mine

end
section
open PySem PySem.W PyProof.Rows PySem.Spec PySem.SeqAt PySem.Calls
namespace Mine

structure Cx.Ok (c : Cx) (mg mb : Str → Option Value) : Prop where
  kin : c.K.In c.base
  g : c.base.Ns mainGlobals mg
  b : c.base.Ns builtinsNs mb
  nolimit : c.base.NoLimit
  builtins : ∀ x : Str, x ≠ "__name__" → mb x = bootBuiltins x
  seer : c.base.NoSeer
  tree : c.prog.given.tree = none
  top : ∃ p loose, TopRead p loose mg mb c.base

structure Ev (g : Gx) (A : Around) (R : RR) (e : Env) (l : List Env) : Prop where
  aok : AOk 4 g.n g.md A (e :: l)
  stk : Stk R (e :: l)

inductive TQi (c : Cx) (R : RR) (s₀ : Shared) (Q : AV → AHeap → Prop) (v : Value) (s' : Shared) : Prop
  | mk (av : AV) (H' : AHeap) (hv : VR av v) (S : St c R H' s'.heap) (m : Sm s₀ s') (q : Q av H') : TQi c R s₀ Q v s'
noncomputable def TQ (g : Gx) (R : RR) (s₀ : Shared) (Q : AV → AHeap → Prop) (v : Value) (s' : Shared) : Prop := TQi g.c R s₀ Q v s'
inductive TBi (c : Cx) (R : RR) (s₀ : Shared) (Q : Bool → AHeap → Prop) (b : Bool) (s' : Shared) : Prop
  | mk (H' : AHeap) (S : St c R H' s'.heap) (m : Sm s₀ s') (q : Q b H') : TBi c R s₀ Q b s'
noncomputable def TB (g : Gx) (R : RR) (s₀ : Shared) (Q : Bool → AHeap → Prop) (b : Bool) (s' : Shared) : Prop := TBi g.c R s₀ Q b s'
inductive TEi (c : Cx) (R : RR) (s₀ : Shared) (E : String → AHeap → Prop) (e : Value) (s' : Shared) : Prop
  | mk (a : Addr) (cl : String) (H' : AHeap) (h : e = .ref a) (X : ExcSt c R H' a cl .none s'.heap) (m : Sm s₀ s') (q : E cl H') : TEi c R s₀ E e s'
noncomputable def TE (g : Gx) (R : RR) (s₀ : Shared) (E : String → AHeap → Prop) (e : Value) (s' : Shared) : Prop := TEi g.c R s₀ E e s'

theorem Sm.step {s₀ s : Shared} (x : Sm s₀ s) (h : Heap) (tk : Nat) : Sm s₀ { s with heap := h, toks := tk } := x.trans ⟨h, tk, rfl⟩
theorem Sm.toks {s₀ s : Shared} (x : Sm s₀ s) (tk : Nat) : Sm s₀ { s with toks := tk } := x.trans ⟨s.heap, tk, rfl⟩
theorem Sm.heap {s₀ s : Shared} (x : Sm s₀ s) (h : Heap) : Sm s₀ { s with heap := h } := x.trans ⟨h, s.toks, rfl⟩

section
variable {g : Gx} {A : Around} {R : RR} {s₀ s : Shared} {H : AHeap} {E : Value → Shared → Prop} {Q : AV → AHeap → Prop}

theorem TQ.pure {a : AV} {v : Value} (hv : VR a v) (S : St g.c R H s.heap) (m : Sm s₀ s) (q : Q a H) : TQ g R s₀ Q v s := ⟨a, H, hv, S, m, q⟩
theorem TQ.toks {a : AV} {v : Value} {tk : Nat} (hv : VR a v) (S : St g.c R H s.heap) (m : Sm s₀ s) (q : Q a H) : TQ g R s₀ Q v { s with toks := tk } := ⟨a, H, hv, S, m.toks tk, q⟩

set_option tactic.hygienic false in
theorem isList_of {a : Addr} {xs : List AV} (S : St g.c R H s.heap) (e : H a = some (.list xs)) : ∃ vs n, s.heap.get? a = some (listOf (vs : List Value).toArray n) ∧ VRs xs vs ∧ s.heap.IsList a vs.toArray := by
  obtain ⟨⟨D, vs, n, h1, h2⟩, _⟩ := S.orep e
  exact ⟨vs, n, h1, h2, _, h1, rfl, n, rfl⟩
set_option tactic.hygienic false in
theorem isTup_of {a : Addr} {xs : List AV} (S : St g.c R H s.heap) (e : H a = some (.tuple xs)) : ∃ vs n, s.heap.get? a = some { cls := .type "tuple", data := .seq (vs : List Value).toArray n } ∧ VRs xs vs ∧ IsTup s.heap a vs.toArray := by
  obtain ⟨⟨D, vs, n, h1, h2⟩, _⟩ := S.orep e
  exact ⟨vs, n, h1, h2, _, h1, rfl, n, rfl⟩
set_option tactic.hygienic false in
theorem isDict_of {a : Addr} {ep : Nat} {es : List (Str × AV)} (S : St g.c R H s.heap) (e : H a = some (.dict ep es)) : ∃ kvs, s.heap.DictAt (strKind g.c.prog g.c.w) a kvs ep ∧ DRs es kvs := by
  obtain ⟨⟨D, r⟩, _⟩ := S.orep e
  exact r
set_option tactic.hygienic false in
theorem above_of {a : Addr} {o : AObj} (S : St g.c R H s.heap) (e : H a = some o) (hne : o.isX = false := by rfl) (hb : o.isB = false := by rfl) : g.c.base.objs.size ≤ a := (S.orep e hb).2.1.2 hne

set_option tactic.hygienic false in
theorem DRs.keys {es kvs} (h : DRs es kvs) : kvs.map (·.1) = es.map (·.1) := by
  induction h with
  | nil => rfl
  | cons _ _ _ ih => simp [ih]
set_option tactic.hygienic false in
theorem DRs.length {es kvs} (h : DRs es kvs) : kvs.length = es.length := by
  induction h with
  | nil => rfl
  | cons _ _ _ ih => simp [ih]
theorem DRs.look {es kvs} (h : DRs es kvs) (k : Str) : OVR (lookS es k) (valueAt kvs k) := by
  induction h with
  | nil => exact .none
  | cons hk hv _ ih =>
    rename_i k' a v as vs _
    dsimp only [lookS, valueAt, List.find?_cons] at ih ⊢
    by_cases q : k' = k
    · simp [q]; exact .some hv
    · simp [q]; exact ih
set_option tactic.hygienic false in
theorem DRs.vals {es kvs} (h : DRs es kvs) : VRs (es.map (·.2)) (kvs.map (·.2)) := by
  induction h with
  | nil => exact .nil
  | cons _ hv _ ih => exact .cons hv ih

set_option tactic.hygienic false in
theorem OVR.isSome {a v} (h : OVR a v) : v.isSome = a.isSome := by cases h <;> rfl

set_option tactic.hygienic false in
theorem newListT {xs : List AV} {vs : List Value} {n : Nat} {h' : Heap} {x : Addr} {tk : Nat} (S : St g.c R H s.heap) (m : Sm s₀ s) (hv : VRs xs vs) (hx : s.heap.objs.size ≤ x)
    (k : ∀ b ob, s.heap.get? b = some ob → h'.get? b = some ob) (hs : s.heap.objs.size ≤ h'.objs.size) (ho : h'.get? x = some (listOf vs.toArray n))
    (q : ∀ z, H z = none → Q (.ref z) (up H z (.list xs))) : TQ g R s₀ Q (.ref x) { s with heap := h', toks := tk } := by
  obtain ⟨e, S'⟩ := S.newObj (o := .list xs) hx k hs (by intro _ _ z; cases z) (fun D => ⟨vs, n, ho, hv⟩)
  exact ⟨.ref x, _, .ref x, S', m.step _ _, q x e⟩

theorem s_truth {v : Value} {a : AV} {Qb : Bool → AHeap → Prop} (hv : VR a v) (S : St g.c R H s.heap) (m : Sm s₀ s) (q : wtruth a H (fun b => Qb b H)) :
    wpAny (model g.c.prog g.c.w) A (truthy v) (TB g R s₀ Qb) E s := by
  cases hv with
  | none => exact truthy_none ⟨H, S, m, q⟩
  | bool b => exact wpAny_truthy_bool ⟨H, S, m, q⟩
  | int i t => exact truthy_int ⟨H, S, m, q⟩
  | str x t hx =>
    refine P.truthy_str (by have := q.1; omega) ⟨H, S, m.toks _, ?_⟩
    have : ((x.length : Int) != 0) = (x.length != 0) := by
      cases x.length with
      | zero => rfl
      | succ n => simp; omega
    rw [this]; exact q.2
  | ref p =>
    unfold wtruth at q
    dsimp only at q
    split at q
    · rename_i xs e
      obtain ⟨vs, n, h1, h2, h3⟩ := isList_of S e
      have hl := h2.length
      refine wpAny_truthy_list h3 (by simp only [List.size_toArray]; have := q.1; omega) ⟨H, S, m.toks _, ?_⟩
      have : (vs.toArray.isEmpty) = xs.isEmpty := by cases h2 <;> rfl
      rw [this]; exact q.2
    · rename_i xs e
      obtain ⟨vs, n, h1, h2, h3⟩ := isTup_of S e
      have hl := h2.length
      refine truthy_tuple h3 (by simp only [List.size_toArray]; have := q.1; omega) ⟨H, S, m.toks _, ?_⟩
      have : (vs.toArray.isEmpty) = xs.isEmpty := by cases h2 <;> rfl
      rw [this]; exact q.2
    · exact q.elim

set_option tactic.hygienic false in
theorem strOk_append {x y : Str} (hx : PyData.strOk x = true) (hy : PyData.strOk y = true) : PyData.strOk (x ++ y) = true := by
  show (x.cps ++ y.cps).all _ = true
  rw [Array.all_append]
  exact Bool.and_eq_true_iff.mpr ⟨hx, hy⟩
set_option tactic.hygienic false in
theorem strOk_mem {x : Str} (hx : PyData.strOk x = true) {ch : Nat} (hc : ch ∈ x.cps) : ch < 0x110000 := by
  have := (Array.all_eq_true_iff_forall_mem.mp hx) ch hc
  simpa using this
set_option tactic.hygienic false in
theorem strOk_of {l : List Nat} (h : ∀ ch ∈ l, ch < 0x110000) : PyData.strOk ⟨l.toArray⟩ = true := by
  show l.toArray.all _ = true
  rw [Array.all_eq_true_iff_forall_mem]
  intro ch hc
  simpa using h ch (by simpa using hc)

theorem s_bin {op : Operator} {a b : AV} {u v : Value} {e₀ : Env} {l₀ : List Env} {mg mb : Str → Option Value} (C : g.c.Ok mg mb) (V : Ev g A R e₀ l₀) (hu : VR a u) (hv : VR b v) (S : St g.c R H s.heap) (m : Sm s₀ s) (q : wbin op a b Q H) :
    wpAny (model g.c.prog g.c.w) A (binaryOp op u v) (TQ g R s₀ Q) E s := by
  have F0 := V.stk e₀ (List.mem_cons_self ..)
  unfold wbin at q
  split at q
  · split at q
    · cases hu; cases hv; exact add_int (TQ.toks (.int _ _) S m q)
    · cases hu with
      | str x t hx => cases hv with
        | str y u hy =>
          refine P.add_str ?_
          have e1 : ∀ z : Str, z.length = 0 → z = Str.empty := fun z hz => by
            obtain ⟨⟨l⟩⟩ := z
            cases l with
            | nil => rfl
            | cons => simp [Str.length] at hz
          split
          · rename_i hz
            have hz' := e1 _ (by simpa using hz)
            rw [hz'] at q
            refine TQ.pure (.str _ u hy) S m ?_
            have e2 : ∀ y : Str, Str.empty ++ y = y := fun y => by show Str.append _ _ = _; simp [Str.append, Str.empty]
            rw [e2] at q; exact q.2
          · split
            · rename_i _ hz
              have hz' := e1 _ (by simpa using hz)
              rw [hz'] at q
              refine TQ.pure (.str _ t hx) S m ?_
              have e2 : ∀ x : Str, x ++ Str.empty = x := fun x => by show Str.append _ _ = _; simp [Str.append, Str.empty]
              rw [e2] at q; exact q.2
            · refine ⟨?_, TQ.toks (.str _ _ (strOk_append hx hy)) S m q.2⟩
              rw [Str.length_append]; exact q.1
    · cases hu; cases hv
      split at q
      · rename_i xs ys e1 e2
        obtain ⟨vs, n, h1, h2, h3⟩ := isList_of S e1
        obtain ⟨ws, n', k1, k2, k3⟩ := isList_of S e2
        refine P.add_list (n := n) (n2 := n') h1 k1 ?_ (by have := h2.length; have := k2.length; have := q.1; simp only [List.size_toArray]; omega)
        have hvw := h2.append k2
        refine newListT (n := 0) (vs := vs ++ ws) S m hvw (Nat.le_refl _) (fun _ _ e => Heap.get?_push_of_some _ e) (by rw [Heap.size_push]; omega) ?_ q.2
        rw [Heap.get?_push_size _ rfl]; simp
      · exact q.elim
    · exact q.elim
  · unfold wii at q
    split at q
    · cases hu; cases hv; exact sub_int (TQ.toks (.int _ _) S m q)
    · exact q.elim
  · unfold wii at q
    split at q
    · cases hu; cases hv; exact mul_int (TQ.toks (.int _ _) S m q.2) q.1
    · exact q.elim
  · unfold wii at q
    split at q
    · cases hu; cases hv
      refine floordiv_int q.1 (TQ.toks (.int _ _) S m q.2) (.inr (PySem.PylongRoom.of (C.nolimit.keeps S.stays) ?_ (PySem.SeerAt.of (env := e₀) (l := l₀) (C.seer.keeps S.stays) C.tree V.aok.frames F0.gen F0.co F0.blt F0.glob)))
      have := V.aok.depth
      have e : Builtin.pylongFrames ≤ 100 := by decide
      omega
    · exact q.elim
  · unfold wii at q
    split at q
    · cases hu; cases hv; exact mod_int' q.1 (TQ.toks (.int _ _) S m q.2)
    · exact q.elim
  · unfold wii at q
    split at q
    · cases hu; cases hv
      rename_i x y _ _
      obtain ⟨⟨q1, q2, q3⟩, q4⟩ := q
      refine AutoIntOps.pow_4 (by omega) (by simp; omega) (by simp; omega) (by simp; omega) (by rw [q3]; simp) (show (Made.int (x ^ y.toNat)).post _ s from TQ.toks (.int _ _) S m q4)
    · exact q.elim
  · exact q.elim

set_option tactic.hygienic false in
theorem RDs.len {H : AHeap} : ∀ {as : List AV} {ds : List PyData}, RDs H as ds → as.length = ds.length
  | _, _, .nil => rfl
  | _, _, .cons _ r => by simp [RDs.len r]
set_option tactic.hygienic false in
theorem pairs_keys {prog : Program} {w : World} {h : Heap} : ∀ {es : List DictEntry} {kvs : List (Str × Value)}, Pairs (strKind prog w) es kvs → ∃ as, ReadsAll h (es.map (·.key)) (kvs.map fun e => PyData.str e.1) as
  | _, _, .nil => ⟨[], .nil⟩
  | _, _, .cons hk _ r => by
    obtain ⟨as, ih⟩ := pairs_keys (h := h) r
    obtain ⟨t, e⟩ := Value.isStrOf_shape hk
    refine ⟨[] ++ as, ?_⟩
    simp only [List.map_cons]
    rw [e]
    exact .cons (.str _ _) ih
set_option tactic.hygienic false in
theorem pairs_vals {prog : Program} {w : World} : ∀ {es : List DictEntry} {kvs : List (Str × Value)}, Pairs (strKind prog w) es kvs → es.map (·.val) = kvs.map (·.2)
  | _, _, .nil => rfl
  | _, _, .cons _ hv r => by simp [hv, pairs_vals r]

mutual
theorem reads_of (S : St g.c R H s.heap) : ∀ {a : AV} {d : PyData} {v : Value}, RD H a d → VR a v → (∃ as, Reads s.heap v d as) ∧ (flatD d = true → PyData.canLay0 d = true)
  | _, _, _, .none, .none => ⟨⟨[], .none⟩, fun _ => by simp only [PyData.canLay0]⟩
  | _, _, _, .bool b, .bool _ => ⟨⟨[], .bool b⟩, fun _ => by simp only [PyData.canLay0]⟩
  | _, _, _, .int i, .int _ t => ⟨⟨[], .int i t⟩, fun _ => by simp only [PyData.canLay0]⟩
  | _, _, _, .str x, .str _ t h => ⟨⟨[], .str x t⟩, fun _ => by simpa only [PyData.canLay0] using h⟩
  | _, _, _, .list e r, .ref _ => by
    obtain ⟨vs, n, h1, h2, h3⟩ := isList_of S e
    obtain ⟨⟨as, ih⟩, cl⟩ := readsAll_of S r h2
    exact ⟨⟨_, .list h1 rfl rfl (by simpa using ih)⟩, fun f => by simp only [PyData.canLay0]; exact cl (by simpa only [flatD] using f)⟩
  | _, _, _, .tuple e r, .ref _ => by
    obtain ⟨vs, n, h1, h2, h3⟩ := isTup_of S e
    obtain ⟨⟨as, ih⟩, cl⟩ := readsAll_of S r h2
    exact ⟨⟨_, .tuple h1 rfl rfl (by simpa using ih)⟩, fun f => by simp only [PyData.canLay0]; exact cl (by simpa only [flatD] using f)⟩
  | _, _, _, .dict (es := es) (ds := ds) e r, .ref _ => by
    obtain ⟨kvs, ⟨o, ents, ho, hx, hd, hk, hp, hn⟩, hr⟩ := isDict_of S e
    obtain ⟨⟨as, ih⟩, cl⟩ := readsAll_of S r hr.vals
    obtain ⟨bs, ik⟩ := pairs_keys (h := s.heap) hp
    rw [← pairs_vals hp] at ih
    have hl : (List.map (fun e => PyData.str e.1) kvs).length = ds.length := by
      rw [List.length_map, hr.length, ← RDs.len r, List.length_map]
    have hke : List.map (fun e => PyData.str e.1) kvs = List.map (fun e : Str × AV => PyData.str e.1) es := by
      have := congrArg (List.map PyData.str) hr.keys
      simpa [List.map_map, Function.comp_def] using this
    rw [hke] at hl ik
    refine ⟨⟨_, .dict (as := bs) (bs := as) ho hx.1 hd ?_ ?_⟩, fun f => by simp [flatD] at f⟩
    · rw [List.map_fst_zip (by omega)]; exact ik
    · rw [List.map_snd_zip (by omega)]; exact ih
theorem readsAll_of (S : St g.c R H s.heap) : ∀ {as : List AV} {ds : List PyData} {vs : List Value}, RDs H as ds → VRs as vs → (∃ bs, ReadsAll s.heap vs ds bs) ∧ (flatDs ds = true → PyData.canLayAll0 ds = true)
  | _, _, _, .nil, .nil => ⟨⟨[], .nil⟩, fun _ => by simp only [PyData.canLayAll0]⟩
  | _, _, _, .cons r rs, .cons v vs => by
    obtain ⟨⟨a1, h1⟩, c1⟩ := reads_of S r v
    obtain ⟨⟨a2, h2⟩, c2⟩ := readsAll_of S rs vs
    refine ⟨⟨_, .cons h1 h2⟩, fun f => ?_⟩
    simp only [flatDs, Bool.and_eq_true] at f
    simp only [PyData.canLayAll0, c1 f.1, c2 f.2, Bool.and_self]
end
set_option tactic.hygienic false in
theorem shaped_of {d : PyData} (h : okD d) (c : flatD d = true → PyData.canLay0 d = true) : shaped d = true := by
  unfold shaped
  rw [c h.1]
  simpa using h.2

set_option tactic.hygienic false in
theorem hds_of {mg mb : Str → Option Value} {p : Addr} {o : AObj} (C : g.c.Ok mg mb) (S : St g.c R H s.heap) (e : H p = some o) (hne : o.isX = false := by rfl) (hb : o.isB = false := by rfl) : (p == sysModules) = false := by
  have h1 := leN (above_of S e hne hb)
  obtain ⟨mc, hc, _⟩ := C.nolimit
  have h2 := hc.lt
  have h3 : @LT.lt Nat _ sysModules cStatics := by decide
  have h4 : @LT.lt Nat _ cStatics g.c.base.objs.size := h2
  have : @LT.lt Nat _ sysModules p := by omega
  exact beq_eq_false_iff_ne.mpr (Nat.ne_of_gt this)

set_option tactic.hygienic false in
theorem DHits.hits {eb ea : List (Str × AV)} {r : Bool} {kb : List (Str × Value)} (S : St g.c R H s.heap) (hb : DRs eb kb) (un : A.in1.units + 64 < cLine) (h : DHits H eb ea r) : ∀ {ka : List (Str × Value)}, DRs ea ka → PySem.W.KeqHits A.in1 s kb ka r := by
  induction h with
  | nil => intro ka hk; cases hk; exact .nil
  | @miss k v r hl =>
    intro ka hk
    cases hk with
    | cons _ hv hr =>
      refine .miss ?_
      have := hb.look k
      rw [hl] at this
      generalize valueAt kb k = w at this ⊢
      cases this
      rfl
  | @hit k v y r d e b hl r1 r2 o1 o2 _ ih =>
    intro ka hk
    cases hk with
    | cons _ hv hr =>
      have := hb.look k
      rw [hl] at this
      generalize hq : valueAt kb k = w at this
      cases this with
      | some hy =>
        obtain ⟨⟨as, ra'⟩, ca⟩ := reads_of S r1 hv
        obtain ⟨⟨bs, rb'⟩, cb⟩ := reads_of S r2 hy
        exact .hit hq (PySem.W.keq_at ra' rb' (shaped_of o1 ca) (shaped_of o2 cb) un) (ih hr)

theorem isDictV_some {a : AV} {ea : List (Str × AV)} (h : isDictV H a = some ea) : ∃ p ep, a = .ref p ∧ H p = some (.dict ep ea) := by
  unfold isDictV at h
  split at h
  · split at h
    · cases h; exact ⟨_, _, rfl, by assumption⟩
    · cases h
  · cases h

theorem s_eq {ne : Bool} {a b : AV} {u v : Value} {e₀ : Env} {l₀ : List Env} {mg mb : Str → Option Value} (C : g.c.Ok mg mb) (V : Ev g A R e₀ l₀) (hu : VR a u) (hv : VR b v) (S : St g.c R H s.heap) (m : Sm s₀ s) (q : weq ne a b Q H) :
    wpAny (model g.c.prog g.c.w) A (compareOp (if ne then .NotEq else .Eq) u v) (TQ g R s₀ Q) E s := by
  have un : A.units + 64 < cLine := by have := V.aok.units; omega
  have gen : ∀ da db, RD H a da → RD H b db → okD da → okD db → Q (.bool (nt ne (PyData.eqv da db))) H → wpAny (model g.c.prog g.c.w) A (compareOp (if ne then .NotEq else .Eq) u v) (TQ g R s₀ Q) E s := by
    intro da db ra rb sa sb qq
    obtain ⟨⟨as, ra'⟩, ca⟩ := reads_of S ra hu
    obtain ⟨⟨bs, rb'⟩, cb⟩ := reads_of S rb hv
    replace sa := shaped_of sa ca
    replace sb := shaped_of sb cb
    cases ne with
    | true =>
      refine ne_dataH ra' rb' sa sb un (TQ.pure (.bool _) S m ?_)
      exact qq
    | false =>
      refine eq_dataH ra' rb' sa sb un (TQ.pure (.bool _) S m ?_)
      exact qq
  unfold weq at q
  split at q
  · cases hu; cases hv
    cases ne with
    | false => exact eq_int (TQ.pure (.bool _) S m q)
    | true => exact ne_int (TQ.pure (.bool _) S m q)
  · rename_i x y
    refine gen (.str x) (.str y) (.str x) (.str y) ⟨rfl, Nat.zero_le _⟩ ⟨rfl, Nat.zero_le _⟩ ?_
    have : PyData.eqv (.str x) (.str y) = (x == y) := rfl
    rw [this]; exact q
  · split at q
    · rename_i ea eb h1 h2
      obtain ⟨r, hits, qq⟩ := q
      obtain ⟨p, ep, rfl, e1⟩ := isDictV_some h1
      obtain ⟨p', ep', rfl, e2⟩ := isDictV_some h2
      cases hu; cases hv
      obtain ⟨ka, da, ra⟩ := isDict_of S e1
      obtain ⟨kb, db, rb⟩ := isDict_of S e2
      have un' : A.in1.units + 64 < cLine := by have := V.aok.units; dsimp only [Around.in1]; omega
      cases ne with
      | true =>
        refine PySem.W.keq_ne (r := r) (hds_of C S e1) (hds_of C S e2) da.dictOf db.dictOf (by omega) (fun hl => (hits (by rw [← ra.length, ← rb.length]; exact hl)).hits S rb un' ra) (TQ.pure (.bool _) S m ?_)
        rw [ra.length, rb.length]; exact qq
      | false =>
        refine PySem.W.keq_eq (r := r) (hds_of C S e1) (hds_of C S e2) da.dictOf db.dictOf (by omega) (fun hl => (hits (by rw [← ra.length, ← rb.length]; exact hl)).hits S rb un' ra) (TQ.pure (.bool _) S m ?_)
        rw [ra.length, rb.length]; exact qq
    · obtain ⟨da, db, ra, rb, sa, sb, qq⟩ := q
      exact gen da db ra rb sa sb qq

set_option tactic.hygienic false in
theorem occ_one (ch : Nat) (x : Str) : (!(Builtin.Str.occurrences x ⟨#[ch]⟩ 0 x.length 1).isEmpty) = x.cps.toList.contains ch := by
  rw [StrLaws.found_one]
  simp

theorem s_in {no : Bool} {a b : AV} {u v : Value} {e₀ : Env} {l₀ : List Env} {mg mb : Str → Option Value} (C : g.c.Ok mg mb) (V : Ev g A R e₀ l₀) (hu : VR a u) (hv : VR b v) (S : St g.c R H s.heap) (m : Sm s₀ s) (q : win no a b Q H) :
    wpAny (model g.c.prog g.c.w) A (compareOp (if no then .NotIn else .In) u v) (TQ g R s₀ Q) E s := by
  have un : A.units + 1 + 64 < cLine := by have := V.aok.units; omega
  unfold win at q
  split at q
  · cases hv
    rename_i p
    split at q
    · rename_i ys e
      obtain ⟨d, ds, r1, r2, q1, q2, qq⟩ := q
      obtain ⟨⟨as, r1'⟩, c1⟩ := reads_of S r1 hu
      obtain ⟨⟨bs, r2'⟩, c2⟩ := reads_of S (.list e r2) (.ref p)
      have dd : d.depth ≤ 64 := q1.2
      replace q1 := shaped_of q1 c1
      replace q2 : PyData.canLayAll0 ds = true := by
        have := c2 (by simpa only [flatD] using q2)
        simpa only [PyData.canLay0] using this
      cases no with
      | true => exact notIn_list_reads r2' r1' q2 (canLay_of_shaped q1) (by omega) (TQ.pure (.bool _) S m (by exact qq))
      | false => exact in_list_reads r2' r1' q2 (canLay_of_shaped q1) (by omega) (TQ.pure (.bool _) S m (by exact qq))
    · rename_i ys e
      obtain ⟨d, ds, r1, r2, q1, q2, qq⟩ := q
      obtain ⟨⟨as, r1'⟩, c1⟩ := reads_of S r1 hu
      obtain ⟨⟨bs, r2'⟩, c2⟩ := reads_of S (.tuple e r2) (.ref p)
      have dd : d.depth ≤ 64 := q1.2
      replace q1 := shaped_of q1 c1
      replace q2 : PyData.canLayAll0 ds = true := by
        have := c2 (by simpa only [flatD] using q2)
        simpa only [PyData.canLay0] using this
      cases no with
      | true => exact notIn_tuple_reads r2' r1' q2 (canLay_of_shaped q1) (by omega) (TQ.pure (.bool _) S m (by exact qq))
      | false => exact in_tuple_reads r2' r1' q2 (canLay_of_shaped q1) (by omega) (TQ.pure (.bool _) S m (by exact qq))
    · rename_i ep es e
      split at q
      · cases hu
        rename_i k t hk
        obtain ⟨kvs, hd, hr⟩ := isDict_of S e
        have hds : (p == sysModules) = false := by
          have h1 := leN (above_of S e)
          obtain ⟨mc, hc, _⟩ := C.nolimit
          have h2 := hc.lt
          have h3 : @LT.lt Nat _ sysModules cStatics := by decide
          have h4 : @LT.lt Nat _ cStatics g.c.base.objs.size := h2
          have : @LT.lt Nat _ sysModules p := by omega
          exact beq_eq_false_iff_ne.mpr (Nat.ne_of_gt this)
        have ho := (hr.look k).isSome
        cases no with
        | true =>
          refine wpAny_notIn_of (strKind_is _ _ k t) hds hd.dictOf.mapOf (TQ.toks (.bool _) S m ?_)
          rw [ho]; exact q
        | false =>
          refine wpAny_in_of (strKind_is _ _ k t) hds hd.dictOf.mapOf (TQ.toks (.bool _) S m ?_)
          rw [ho]; exact q
      · exact q.elim
    · exact q.elim
  · cases hv
    split at q
    · cases hu
      obtain ⟨ch, rfl, qq⟩ := q
      cases no with
      | true =>
        refine notIn_str (TQ.pure (.bool _) S m ?_)
        rw [occ_one]; exact qq
      | false =>
        refine in_str (TQ.pure (.bool _) S m ?_)
        rw [occ_one]; exact qq
    · exact q.elim
  · exact q.elim
end
end Mine

end
section
open PySem PySem.W PyProof.Rows PySem.Spec PySem.SeqAt PySem.Calls
namespace Mine
section
variable {g : Gx} {A : Around} {R : RR} {s₀ s : Shared} {H : AHeap} {E : Value → Shared → Prop} {Q : AV → AHeap → Prop}

theorem isSame_bool {a : AV} {u : Value} (hu : VR a u) (c : Bool) : isSame u (.bool c) = pure (a == .bool c) := by
  cases hu <;> first | rfl | (rename_i b; cases c <;> cases b <;> rfl)
set_option tactic.hygienic false in
theorem isSame_none' {a : AV} {u : Value} (hu : VR a u) : isSame u .none = pure (a == .none) := by
  cases hu <;> rfl

set_option tactic.hygienic false in
theorem s_cmp {op : CmpOp} {a b : AV} {u v : Value} {e₀ : Env} {l₀ : List Env} {mg mb : Str → Option Value} (C : g.c.Ok mg mb) (V : Ev g A R e₀ l₀) (hu : VR a u) (hv : VR b v) (S : St g.c R H s.heap) (m : Sm s₀ s)
    (q : wcmp op a b Q H) : wpAny (model g.c.prog g.c.w) A (compareOp op u v) (TQ g R s₀ Q) E s := by
  unfold wcmp at q
  split at q
  · exact s_eq (ne := false) C V hu hv S m q
  · exact s_eq (ne := true) C V hu hv S m q
  · exact s_in (no := false) C V hu hv S m q
  · exact s_in (no := true) C V hu hv S m q
  · show wpAny _ _ (do return Value.bool (← isSame u v) : Sem Value) _ _ _
    split at q
    · cases hv; rw [isSame_none' hu]; exact wpAny_bind (wpAny_pure (wpAny_pure (TQ.pure (.bool _) S m q)))
    · cases hv; rw [isSame_bool hu]; exact wpAny_bind (wpAny_pure (wpAny_pure (TQ.pure (.bool _) S m q)))
    · exact q.elim
  · show wpAny _ _ (do return Value.bool (!(← isSame u v)) : Sem Value) _ _ _
    split at q
    · cases hv; rw [isSame_none' hu]; exact wpAny_bind (wpAny_pure (wpAny_pure (TQ.pure (.bool _) S m q)))
    · cases hv; rw [isSame_bool hu]; exact wpAny_bind (wpAny_pure (wpAny_pure (TQ.pure (.bool _) S m q)))
    · exact q.elim
  · split at q
    · cases hu; cases hv
      split at q
      · exact lt_int (TQ.pure (.bool _) S m q)
      · exact le_int (TQ.pure (.bool _) S m q)
      · exact gt_int (TQ.pure (.bool _) S m q)
      · exact ge_int (TQ.pure (.bool _) S m q)
      · exact q.elim
    · exact q.elim

set_option tactic.hygienic false in
theorem pyIdx_seq {n : Nat} {i : Int} {j : Nat} (h : pyIdx n i = some j) : seqIndex? i n = some j := by
  unfold pyIdx at h
  unfold seqIndex?
  split at h
  · split at h
    · cases h; have : ¬ i < 0 := by omega
      simp only [this, if_false]; rw [if_pos (by simp; omega)]
    · cases h
  · split at h
    · cases h; have : i < 0 := by omega
      simp only [this, if_true]; rw [if_pos (by simp; omega)]
    · cases h
set_option tactic.hygienic false in
theorem pyIdx_lt {n : Nat} {i : Int} {j : Nat} (h : pyIdx n i = some j) : j < n ∧ (0 ≤ i → j = i.toNat) ∧ (i < 0 → j = (i + n).toNat ∧ -(n : Int) ≤ i) := by
  unfold pyIdx at h
  split at h
  · split at h
    · cases h; omega
    · cases h
  · split at h
    · cases h; omega
    · cases h

theorem s_sub {value slice : PySem.Expr} {a i : AV} {u v : Value} {mg mb : Str → Option Value} (_C : g.c.Ok mg mb) (hu : VR a u) (hv : VR i v) (S : St g.c R H s.heap) (m : Sm s₀ s) (q : wsub a i Q H)
    (hs : ∀ o j, subscripted slice false o j = operate [o, j] (getItem o j)) : wpAny (model g.c.prog g.c.w) A (subscriptTail value slice u v) (TQ g R s₀ Q) E s := by
  unfold wsub at q
  split at q
  · rename_i i
    cases hu; cases hv
    split at q
    · rename_i xs e
      obtain ⟨j, x, h1, h2, h3, h4, qq⟩ := q
      obtain ⟨vs, n, k1, k2, k3⟩ := isList_of S e
      obtain ⟨y, y1, y2⟩ := k2.get h4
      obtain ⟨p1, p2, p3⟩ := pyIdx_lt h1
      rw [k2.length] at p3
      refine tail_any k3.typeIs slot_list_getitem.lookup ?_ (hs _ _)
      by_cases hz : 0 ≤ i
      · exact wpAny_getItem_list k3 hz h2 (by rw [← p2 hz]; simpa using y1) (TQ.pure y2 S m qq)
      · obtain ⟨p4, p5⟩ := p3 (by omega)
        exact wpAny_getItem_list_neg k3 (by omega) (by simpa using p5) h3 (by simp only [List.size_toArray]; rw [← p4]; simpa using y1) (TQ.pure y2 S m qq)
    · rename_i xs e
      obtain ⟨j, x, h1, h2, h3, h4, qq⟩ := q
      obtain ⟨vs, n, k1, k2, k3⟩ := isTup_of S e
      obtain ⟨y, y1, y2⟩ := k2.get h4
      refine tail_any k3.typeIs slot_tuple_getitem.lookup ?_ (hs _ _)
      exact getItem_tuple k3 h3 h2 (by simp only [List.size_toArray]; rw [← k2.length]; exact pyIdx_seq h1) (by simpa using y1) (TQ.pure y2 S m qq)
    · rename_i ns e
      obtain ⟨h1, h2, nn, h3, qq⟩ := q
      obtain ⟨⟨D, vs, n, k1, k2⟩, _⟩ := S.orep e
      obtain ⟨y, y1, y2⟩ := k2.get (i := i.toNat) (a := .int nn) (by rw [List.getElem?_map, h3]; rfl)
      have k3 : s.heap.IsList _ vs.toArray := ⟨_, k1, rfl, _, rfl⟩
      refine tail_any k3.typeIs slot_list_getitem.lookup ?_ (hs _ _)
      exact wpAny_getItem_list k3 h1 h2 (by simpa using y1) (TQ.pure y2 S m qq)
    · exact q.elim
  · cases hu
    cases hv
    rename_i k t hk
    split at q
    · rename_i ep es e
      obtain ⟨x, hx, qq⟩ := q
      obtain ⟨kvs, hd, hr⟩ := isDict_of S e
      have ho := hr.look k
      rw [hx] at ho
      generalize hval : valueAt kvs k = y at ho
      cases ho with
      | some hv =>
        refine tail_any hd.dictOf.typeIs slot_dict_getitem.lookup ?_ (hs _ _)
        exact wpAny_getItem_of (strKind_is _ _ k t) hd.dictOf.mapOf hval (TQ.toks hv S m qq)
    · exact q.elim
  · rename_i x i
    cases hu with
    | str _ t hx => cases hv with
      | int _ u =>
        obtain ⟨h1, h2, ch, h3, qq⟩ := q
        refine tail_any (typeIs_str s _ t) slot_str_getitem.lookup ?_ (hs _ _)
        have hlt : i.toNat < x.cps.size := (Array.getElem?_eq_some_iff.mp h3).1
        refine getItem_str (by simp; omega) (c := ch) ?_ (TQ.toks (.str _ _ ?_) S m qq)
        · have : seqIndex? i x.length = some i.toNat := by
            unfold seqIndex?
            have : ¬ i < 0 := by omega
            have h' : 0 ≤ i ∧ i < (x.length : Int) := ⟨h1, by show i < ((x.cps.size : Nat) : Int); omega⟩
            simp only [this, if_false]
            rw [if_pos (by simpa using h')]
          rw [this]; exact h3
        · have hm := Array.mem_of_getElem? h3
          exact strOk_of (l := [ch]) (by intro c hc; simp at hc; subst hc; exact strOk_mem hx hm)
  · exact q.elim

set_option tactic.hygienic false in
theorem VRs.filterMap {xs : List AV} {vs : List Value} (h : VRs xs vs) : ∀ ks : List Nat, VRs (ks.filterMap (xs[·]?)) (ks.filterMap (vs[·]?))
  | [] => .nil
  | k :: r => by
    have ih := VRs.filterMap h r
    dsimp only [List.filterMap_cons]
    cases e : xs[k]? with
    | none =>
      have : vs[k]? = none := by rw [List.getElem?_eq_none_iff] at e ⊢; rw [← h.length]; exact e
      rw [this]; exact ih
    | some a =>
      obtain ⟨v, hv, hr⟩ := h.get e
      rw [hv]; exact .cons hr ih

theorem s_slice {value : PySem.Expr} {lo hi st : Option PySem.Expr} {p : Pos} {a : AV} {l u t : Option AV} {o vl vu vt : Value} (hu : VR a o)
    (hl : (l = none ∧ vl = .none) ∨ ∃ x, l = some x ∧ VR x vl) (hh : (u = none ∧ vu = .none) ∨ ∃ x, u = some x ∧ VR x vu) (ht : (t = none ∧ vt = .none) ∨ ∃ x, t = some x ∧ VR x vt)
    (S : St g.c R H s.heap) (m : Sm s₀ s) (q : wslice a l u t Q H) :
    wpAny (model g.c.prog g.c.w) A (subscriptTail value (.Slice lo hi st p) o (.ref s.heap.objs.size)) (TQ g R s₀ Q) E { s with heap := s.heap.push { cls := .type "slice", data := .fields #[vl, vu, vt] } } := by
  have part : ∀ {x : Option AV} {v : Value} {k : Option Int}, ((x = none ∧ v = .none) ∨ ∃ y, x = some y ∧ VR y v) → partI x = some k → IsPart v k := by
    rintro x v k (⟨rfl, rfl⟩ | ⟨y, rfl, hv⟩) e
    · cases e; exact .none
    · cases hv <;> dsimp only [partI] at e <;> cases e
      exact .int _ _
  have hs : ∀ o j, ∃ ops, subscripted (.Slice lo hi st p) false o j = operate ops (getItem o j) := by
    intro o j
    cases st with
    | none => exact ⟨_, rfl⟩
    | some _ => exact ⟨_, rfl⟩
  unfold wslice at q
  split at q
  · cases hu
    split at q
    · rename_i xs e
      obtain ⟨li, ui, ti, e1, e2, e3, h0, hz, qq⟩ := q
      obtain ⟨vs, n, k1, k2, k3⟩ := isList_of S e
      obtain ⟨ops, hop⟩ := hs (.ref _) (.ref s.heap.objs.size)
      refine tail_any (Heap.IsList.typeIs (s := { s with heap := s.heap.push _ }) (k3.push _)) slot_list_getitem.lookup ?_ hop
      refine wpAny_getItem_list_slice (k3.push _) (Heap.IsSliceOf.new ..) (part hl e1) (part hh e2) (part ht e3) h0 ?_ (by simp only [List.size_toArray]; rw [← k2.length]; exact hz)
      have hp : VRs (pickL xs li ui ti) (pickL vs li ui ti) := by
        unfold pickL; rw [k2.length]; exact k2.filterMap _
      dsimp only
      rw [Heap.size_push]
      refine newListT (n := 0) (vs := pickL vs li ui ti) S m hp (Nat.le_succ _) (fun _ _ z => Heap.get?_push_of_some _ (Heap.get?_push_of_some _ z)) (by rw [Heap.size_push, Heap.size_push]; omega) ?_ qq
      have := Heap.get?_push_size (s.heap.push { cls := .type "slice", data := .fields #[vl, vu, vt] }) (o := { cls := .type "list", data := .seq (slicePick vs.toArray li ui ti) }) rfl
      rw [Heap.size_push] at this
      rw [this]
      simp [slicePick, pickL]
    · exact q.elim
  · rename_i x
    cases hu with
    | str _ tk hx =>
      obtain ⟨ops, hop⟩ := hs (.str x tk) (.ref s.heap.objs.size)
      have sz : ∀ a b : Nat, a ≤ b → b ≤ x.length → x.length ≤ sizeLine → ∀ (l u : Option (Int × Tok)), (l.map (·.1) = some (a : Int) ∨ (l = none ∧ a = 0)) → (u.map (·.1) = some (b : Int) ∨ (u = none ∧ b = x.length)) →
          Q (.str ⟨((x.cps.toList.drop a).take (b - a)).toArray⟩) H → ∀ s' : Shared, s'.heap.IsSlice s.heap.objs.size l u none → St g.c R H s'.heap → Sm s₀ s' → wpAny (model g.c.prog g.c.w) A (getItem (.str x tk) (.ref s.heap.objs.size)) (TQ g R s₀ Q) E s' := by
        intro a b hab hb hz l u hl hu qq s' hsl S' m'
        refine wpAny_getItem_str_slice hsl rfl ?_
        have e : (slicePicked x l u none).filterMap (x.cps[·]?) = (x.cps.toList.drop a).take (b - a) := by
          rw [← StrLaws.sliced_plain x hab hb]
          unfold slicePicked
          congr 1
          show Builtin.Str.strSliceIndices _ _ 1 x.length = _
          rcases hl with hl | ⟨rfl, rfl⟩ <;> rcases hu with hu | ⟨rfl, rfl⟩
          · rw [hl, hu]
          · rw [hl]; exact StrLaws.sliceIdx_none_hi _ _
          · rw [hu]; exact StrLaws.sliceIdx_none_lo _ _
          · exact (StrLaws.sliceIdx_none_lo _ _).trans (StrLaws.sliceIdx_none_hi _ _)
        have el : (slicePicked x l u none).length = b - a := by
          unfold slicePicked
          show (Builtin.Str.strSliceIndices _ _ 1 x.length).length = _
          have e0 : Builtin.Str.strSliceIndices (l.map (·.1)) (u.map (·.1)) 1 x.length = (List.range (b - a)).map (fun k => a + k) := by
            rw [← StrLaws.strSliceIndices_plain hab hb]
            rcases hl with hl | ⟨rfl, rfl⟩ <;> rcases hu with hu | ⟨rfl, rfl⟩
            · rw [hl, hu]
            · rw [hl]; exact StrLaws.sliceIdx_none_hi _ _
            · rw [hu]; exact StrLaws.sliceIdx_none_lo _ _
            · exact (StrLaws.sliceIdx_none_lo _ _).trans (StrLaws.sliceIdx_none_hi _ _)
          rw [e0]; simp
        unfold sliceMade
        split
        · rename_i hc
          refine TQ.pure (.str _ tk hx) S' m' ?_
          have hc' : b - a = x.length := by
            have := (Bool.and_eq_true_iff.mp hc).2
            rw [el] at this
            simpa using this
          have ha : a = 0 := by omega
          have hbx : b = x.length := by omega
          subst ha hbx
          have : (⟨((x.cps.toList.drop 0).take (x.length - 0)).toArray⟩ : Str) = x := by
            have : x.cps.toList.take x.length = x.cps.toList := List.take_of_length_le (by simp [Str.length])
            simp [this]
          rw [this] at qq; exact qq
        · rw [e]
          refine ⟨?_, TQ.toks (.str _ _ ?_) S' m' qq⟩
          · simp [Str.length] at *; omega
          · exact strOk_of fun ch hc => strOk_mem hx (by have := List.mem_of_mem_drop (List.mem_of_mem_take hc); simpa using this)
      have isl : ∀ {x : Option AV} {v : Value}, ((x = none ∧ v = .none) ∨ ∃ y, x = some y ∧ VR y v) → x = none → v = .none := by
        rintro x v (⟨_, h⟩ | ⟨y, e, _⟩) h2
        · exact h
        · rw [h2] at e; cases e
      refine tail_any (typeIs_str _ _ tk) slot_str_getitem.lookup ?_ hop
      split at q
      · rename_i li
        obtain ⟨h1, h2, h3, qq⟩ := q
        have h4 := isl hh rfl
        have h5 := isl ht rfl
        subst h4 h5
        rcases hl with ⟨z, _⟩ | ⟨y, z, hv⟩
        · cases z
        · cases z
          cases hv with
          | int _ t1 =>
            refine sz li.toNat x.length (by omega) (Nat.le_refl _) h3 (some (li, t1)) none (.inl (by simp; omega)) (.inr ⟨rfl, rfl⟩) ?_ _ ⟨_, Heap.get?_push_size _ rfl, rfl, rfl⟩ (S.push _) (m.heap _)
            have : (x.cps.toList.drop li.toNat).take (x.length - li.toNat) = x.cps.toList.drop li.toNat := List.take_of_length_le (by simp [Str.length])
            rw [this]; exact qq
      · rename_i ui
        obtain ⟨h1, h2, h3, qq⟩ := q
        have h4 := isl hl rfl
        have h5 := isl ht rfl
        subst h4 h5
        rcases hh with ⟨z, _⟩ | ⟨y, z, hv⟩
        · cases z
        · cases z
          cases hv with
          | int _ t1 =>
            refine sz 0 ui.toNat (Nat.zero_le _) (by omega) h3 none (some (ui, t1)) (.inr ⟨rfl, rfl⟩) (.inl (by simp; omega)) ?_ _ ⟨_, Heap.get?_push_size _ rfl, rfl, rfl⟩ (S.push _) (m.heap _)
            simpa using qq
      · exact q.elim
  · exact q.elim
end
end Mine

end
section
open PySem PySem.W PyProof.Rows PySem.Spec PySem.SeqAt PySem.Calls
namespace Mine
section
variable {g : Gx} {A : Around} {R : RR} {s₀ s : Shared} {H : AHeap} {E : Value → Shared → Prop} {Q : AV → AHeap → Prop}

theorem s_isT {a : AV} {u : Value} {k ty : String} {b : Bool} (hu : VR a u) (S : St g.c R H s.heap) (m : Sm s₀ s) (hk : vkind H a = some k) (hty : ty = "int" ∨ ty = "bool" ∨ ty = "str" ∨ ty = "list")
    (hb : (k == ty || (k == "bool" && ty == "int")) = b) (q : Q (.bool b) H) : wpAny (model g.c.prog g.c.w) A (call (.builtin "isinstance") [u, .type ty]) (TQ g R s₀ Q) E s := by
  subst hb
  cases hu with
  | none =>
    cases hk
    rcases hty with rfl | rfl | rfl | rfl
    · exact IsiPair.NoneType_int (TQ.toks (.bool _) S m q)
    · exact IsiPair.NoneType_bool (TQ.toks (.bool _) S m q)
    · exact IsiPair.NoneType_str (TQ.toks (.bool _) S m q)
    · exact IsiPair.NoneType_list (TQ.toks (.bool _) S m q)
  | bool b =>
    cases hk
    rcases hty with rfl | rfl | rfl | rfl
    · exact IsiPair.bool_int (TQ.pure (.bool _) S m q)
    · exact IsiPair.bool_bool (TQ.pure (.bool _) S m q)
    · exact IsiPair.bool_str (TQ.toks (.bool _) S m q)
    · exact IsiPair.bool_list (TQ.toks (.bool _) S m q)
  | int i t =>
    cases hk
    rcases hty with rfl | rfl | rfl | rfl
    · exact IsiPair.int_int (TQ.pure (.bool _) S m q)
    · exact IsiPair.int_bool (TQ.toks (.bool _) S m q)
    · exact IsiPair.int_str (TQ.toks (.bool _) S m q)
    · exact IsiPair.int_list (TQ.toks (.bool _) S m q)
  | str x t hx =>
    cases hk
    rcases hty with rfl | rfl | rfl | rfl
    · exact IsiPair.str_int (TQ.toks (.bool _) S m q)
    · exact IsiPair.str_bool (TQ.toks (.bool _) S m q)
    · exact IsiPair.str_str (TQ.pure (.bool _) S m q)
    · exact IsiPair.str_list (TQ.toks (.bool _) S m q)
  | ref p =>
    unfold vkind at hk
    dsimp only at hk
    split at hk
    · rename_i xs e
      cases hk
      obtain ⟨vs, n, h1, h2, h3⟩ := isList_of S e
      rcases hty with rfl | rfl | rfl | rfl
      · exact IsiPair.list_int h1 rfl (TQ.toks (.bool _) S m q)
      · exact IsiPair.list_bool h1 rfl (TQ.toks (.bool _) S m q)
      · exact IsiPair.list_str h1 rfl (TQ.toks (.bool _) S m q)
      · exact IsiPair.list_list h1 rfl (TQ.pure (.bool _) S m q)
    · rename_i xs e
      cases hk
      obtain ⟨vs, n, h1, h2, h3⟩ := isTup_of S e
      rcases hty with rfl | rfl | rfl | rfl
      · exact IsiPair.tuple_int h1 rfl (TQ.toks (.bool _) S m q)
      · exact IsiPair.tuple_bool h1 rfl (TQ.toks (.bool _) S m q)
      · exact IsiPair.tuple_str h1 rfl (TQ.toks (.bool _) S m q)
      · exact IsiPair.tuple_list h1 rfl (TQ.toks (.bool _) S m q)
    · rename_i ep es e
      cases hk
      obtain ⟨kvs, ⟨o, ents, h1, h2, h3⟩, hr⟩ := isDict_of S e
      rcases hty with rfl | rfl | rfl | rfl
      · exact IsiPair.dict_int h1 h2.1 (TQ.toks (.bool _) S m q)
      · exact IsiPair.dict_bool h1 h2.1 (TQ.toks (.bool _) S m q)
      · exact IsiPair.dict_str h1 h2.1 (TQ.toks (.bool _) S m q)
      · exact IsiPair.dict_list h1 h2.1 (TQ.toks (.bool _) S m q)
    · cases hk

noncomputable def primVal : Pr → Value
  | .len => .builtin "len"
  | .list => .type "list"
  | .range => .type "range"
  | .all => .builtin "all"
  | .min => .builtin "min"
noncomputable def primValS : String → Value
  | "len" => .builtin "len"
  | "list" => .type "list"
  | "int" => .type "int"
  | "range" => .type "range"
  | "sum" => .builtin "sum"
  | "all" => .builtin "all"
  | "min" => .builtin "min"
  | "max" => .builtin "max"
  | "isinstance" => .builtin "isinstance"
  | "bool" => .type "bool"
  | "str" => .type "str"
  | "ValueError" => .type "ValueError"
  | _ => .builtin "?"
set_option tactic.hygienic false in
theorem primValS_str (f : Pr) : primValS f.str = primVal f := by cases f <;> rfl
set_option tactic.hygienic false in
theorem primVal_is (f : Pr) : (∃ i, primVal f = .builtin i) ∨ ∃ i, primVal f = .type i := by
  cases f <;> first | exact .inl ⟨_, rfl⟩ | exact .inr ⟨_, rfl⟩

set_option tactic.hygienic false in
theorem St.kept {h h' : Heap} {e₀ : Env} {l₀ : List Env} (ev : Ev g A R e₀ l₀) (S : St g.c R H h) (k : ∀ b o, h.get? b = some o → h'.get? b = some o) : St g.c R H h' := by
  obtain ⟨m, hm⟩ := (ev.stk e₀ (List.mem_cons_self ..)).ns
  obtain ⟨o, _, _, w, _⟩ := (S.res _ _ hm).2
  have h1 := (S.res _ _ hm).1
  have h2 := lts (k _ _ w)
  obtain ⟨H₁, ⟨s1, s2, s3, D, s4⟩, r⟩ := S
  exact ⟨H₁, ⟨fun b o e => k b o (s1 b o e), Nat.le_of_lt (Nat.lt_of_le_of_lt h1 h2), fun b r e => ⟨(s3 b r e).1, (s3 b r e).2.agree fun _ => k _ _⟩, D,
    ⟨fun a o e => (s4.rep a o e).agree (fun _ => k _ _) fun _ _ _ => ⟨rfl, fun _ => k _ _⟩, s4.above, s4.dict, s4.inj⟩⟩, r⟩

set_option tactic.hygienic false in
theorem items_vals {K : Type} {kvs : List (K × Value)} {acc : Array Value} (h : ItemsOf (fun i v => ∃ k, kvs[i]? = some (k, v)) acc kvs.length) : acc.toList = kvs.map (·.2) := by
  obtain ⟨h1, h2⟩ := h
  exact kdl_vals_eq acc.toList (by simpa using h1) fun j v e => h2 j v (by simpa using e)

theorem VRs.of_get : ∀ {as : List AV} {vs : List Value}, as.length = vs.length → (∀ (i : Nat) a v, as[i]? = some a → vs[i]? = some v → VR a v) → VRs as vs
  | [], [], _, _ => .nil
  | a :: as, v :: vs, hl, h => .cons (h 0 a v rfl rfl) (VRs.of_get (Nat.succ.inj hl) fun i => h (i + 1))
set_option tactic.hygienic false in
theorem DRs.key {es : List (Str × AV)} {kvs : List (Str × Value)} (h : DRs es kvs) : ∀ {k : Nat} {n : Str} {v : Value}, kvs[k]? = some (n, v) → ∃ a, es[k]? = some (n, a) ∧ PyData.strOk n = true := by
  induction h with
  | nil => intro k n a e; simp at e
  | cons h1 h2 _ ih =>
    intro k n a e
    cases k with
    | zero => simp at e; obtain ⟨rfl, rfl⟩ := e; exact ⟨_, rfl, h1⟩
    | succ k => exact ih (by simpa using e)
set_option tactic.hygienic false in
theorem strKind_key {prog : Program} {w : World} {k : Str} {key : Value} (h : (PySem.strKind prog w).is k key = true) : ∃ t, key = .str k t := by
  cases key <;> simp [PySem.strKind, Value.isStrOf] at h
  subst h; exact ⟨_, rfl⟩

theorem s_list1 {p : Addr} {e₀ : Env} {l₀ : List Env} {mg mb : Str → Option Value} (C : g.c.Ok mg mb) (ev : Ev g A R e₀ l₀) (S : St g.c R H s.heap) (m : Sm s₀ s) (q : wprim g.md .list [.ref p] Q H) :
    wpAny (model g.c.prog g.c.w) A (call (.type "list") [.ref p]) (TQ g R s₀ Q) E s := by
  rw [p_listr] at q
  split at q
  · rename_i xs e
    obtain ⟨vs, n, k1, k2, k3⟩ := isList_of S e
    have hl := k2.length
    refine call_list_seq (hsz := by simp only [List.size_toArray]; rw [← hl]; exact q.1) _ (.inl rfl) k1 rfl rfl fun h' c' hk hD => ?_
    exact newListT (s := s) S m k2 (Nat.le_refl _) hk (Nat.le_of_lt (lts hD)) hD q.2
  · rename_i xs e
    obtain ⟨vs, n, k1, k2, k3⟩ := isTup_of S e
    have hl := k2.length
    refine call_list_seq (hsz := by simp only [List.size_toArray]; rw [← hl]; exact q.1) _ (.inr rfl) k1 rfl rfl fun h' c' hk hD => ?_
    exact newListT (s := s) S m k2 (Nat.le_refl _) hk (Nat.le_of_lt (lts hD)) hD q.2
  · rename_i ep es e
    obtain ⟨hmd, hz, q⟩ := q
    obtain ⟨kvs, hd, hr⟩ := isDict_of S e
    have hl := hr.length
    refine kdl_call (kdl_dict (knd := strKind g.c.prog g.c.w) (kvs := kvs) (ep := ep) (hds_of C S e)) (ev.aok.hand hmd) hd (by rw [hl]; exact hz) fun h' tk acc' c' hk hD hi => ?_
    have hvr : VRs (es.map fun e => AV.str e.1) acc'.toList := by
      refine VRs.of_get (by rw [List.length_map, ← hl, ← hi.1]; rfl) fun i a v h1 h2 => ?_
      obtain ⟨k, x, h3, h4⟩ := hi.2 i v (by simpa using h2)
      obtain ⟨t, rfl⟩ := strKind_key h4
      obtain ⟨av, h5, h6⟩ := hr.key h3
      rw [List.getElem?_map, h5] at h1
      cases h1
      exact .str _ _ h6
    exact newListT (s := s) (n := c') S m hvr (Nat.le_refl _) hk (Nat.le_of_lt (lts hD)) (by rw [hD]) q
  · rename_i d e
    split at q
    · rename_i ep es e'
      obtain ⟨hmd, hz, q⟩ := q
      obtain ⟨kvs, hd, hr⟩ := isDict_of S e'
      have hl := hr.length
      obtain ⟨⟨D, hv⟩, _⟩ := S.orep e
      refine kdl_call (kdl_values (knd := strKind g.c.prog g.c.w) (kvs := kvs) (ep := ep)) (ev.aok.hand hmd) ⟨⟨_, hv, rfl, rfl⟩, hd⟩ (by rw [hl]; exact hz) fun h' tk acc' c' hk hD hi => ?_
      refine newListT (s := s) (n := c') S m (vs := acc'.toList) ?_ (Nat.le_refl _) hk (Nat.le_of_lt (lts hD)) (by rw [hD]) q
      rw [items_vals hi]; exact hr.vals
    · exact q.elim
  · exact q.elim
set_option tactic.hygienic false in
theorem VRs.bools {bs : List Bool} {vs : List Value} (h : VRs (bs.map .bool) vs) : ∀ (i : Nat) v, vs[i]? = some v → v = .bool ((bs[i]?).getD false) := by
  intro i v e
  have hl := h.length
  rw [List.length_map] at hl
  have hi : i < bs.length := by have := (List.getElem?_eq_some_iff.mp e).1; omega
  obtain ⟨v', h1, h2⟩ := h.get (i := i) (a := .bool bs[i]) (by simp [hi])
  rw [e] at h1; cases h1
  cases h2
  simp [hi]
set_option tactic.hygienic false in
theorem all_fin {bs : List Bool} : (List.range bs.length).all (fun i => (bs[i]?).getD false) = bs.all id := by
  rw [Bool.eq_iff_iff, List.all_eq_true, List.all_eq_true]
  constructor
  · intro h x hx
    obtain ⟨i, hi, rfl⟩ := List.getElem_of_mem hx
    have := h i (List.mem_range.mpr hi)
    simpa [hi] using this
  · intro h i hi
    have hi := List.mem_range.mp hi
    have := h bs[i] (List.getElem_mem hi)
    simpa [hi] using this
theorem s_all {p : Addr} {e₀ : Env} {l₀ : List Env} (ev : Ev g A R e₀ l₀) (S : St g.c R H s.heap) (m : Sm s₀ s) (q : wprim g.md .all [.ref p] Q H) :
    wpAny (model g.c.prog g.c.w) A (call (.builtin "all") [.ref p]) (TQ g R s₀ Q) E s := by
  rw [p_allr] at q
  obtain ⟨hmd, q⟩ := q
  refine call_all_walk ?_
  split at q
  · rename_i xs e
    obtain ⟨bs, rfl, q⟩ := q
    obtain ⟨vs, n, k1, k2, k3⟩ := isList_of S e
    have hl := k2.length
    rw [List.length_map] at hl
    have W := Walks.list (prog := g.c.prog) (w := g.c.w) (A := A.in1) (ev.aok.hand hmd) _ _ (Nat.ne_of_lt (lts k1)) vs.toArray
    refine wpAny_pyIter_list k3 ⟨_, _, _, _, _, _, fun i => (bs[i]?).getD false, rfl, W, ⟨⟨_, Heap.get?_push_size _ rfl, rfl, rfl⟩, k3.push _⟩, fun i v s' Q' E' h hq => ?_, fun h' tk hk => ?_⟩
    · rw [k2.bools i v (by simpa using h)]
      exact wpAny_truthy_bool hq
    · rw [List.size_toArray, ← hl, all_fin]
      exact ⟨_, _, .bool _, S.kept ev fun b o w => hk b o (by simp only [List.mem_singleton]; exact Nat.ne_of_lt (lts w)) (Heap.get?_push_of_some _ w), m.step _ _, q⟩
  · exact q.elim

set_option tactic.hygienic false in
theorem prim3 {md : Bool} {f : Pr} {a b c : AV} {r : List AV} {Q : AV → AHeap → Prop} {H : AHeap} (q : wprim md f (a :: b :: c :: r) Q H) : False := by
  cases f <;> cases a <;> first | exact q | (cases b <;> exact q)
theorem s_prim {f : Pr} {as : List AV} {vs : List Value} {e₀ : Env} {l₀ : List Env} {mg mb : Str → Option Value} (C : g.c.Ok mg mb) (ev : Ev g A R e₀ l₀) (hv : VRs as vs) (S : St g.c R H s.heap) (m : Sm s₀ s) (q : wprim g.md f as Q H) :
    wpAny (model g.c.prog g.c.w) A (call (primVal f) vs) (TQ g R s₀ Q) E s := by
  cases hv with
  | nil => cases f <;> exact q.elim
  | cons h1 hr =>
  cases hr with
  | nil =>
    cases h1 with
    | str s' t hs =>
      cases f with
      | len => exact len_str (by have := q.1; omega) (TQ.toks (.int _ _) S m q.2)
      | _ => exact q.elim
    | bool b => cases f <;> exact q.elim
    | int b t =>
      cases f with
      | range =>
        refine call_range_1 ?_
        obtain ⟨e, S'⟩ := S.newObj (o := .range 0 _) (Nat.le_refl _) (fun _ _ z => Heap.get?_push_of_some _ z) (by rw [Heap.size_push]; exact Nat.le_succ _) (by intro _ _ z; cases z) (fun D => ⟨⟨by decide, by decide, q.1.1, q.1.2⟩, _, _, _, Heap.get?_push_size _ rfl⟩)
        exact ⟨_, _, .ref _, S', m.step _ _, q.2 _ e⟩
      | _ => exact q.elim
    | ref p =>
      cases f with
      | len =>
        rw [p_lenr] at q
        split at q
        · rename_i xs e
          obtain ⟨vs, n, k1, k2, k3⟩ := isList_of S e
          have hl := k2.length
          refine call_len_list k3 (by simp only [List.size_toArray]; have := q.1; omega) (TQ.toks (.int _ _) S m ?_)
          simp only [List.size_toArray]; rw [← hl]; exact q.2
        · rename_i xs e
          obtain ⟨vs, n, k1, k2, k3⟩ := isTup_of S e
          have hl := k2.length
          refine PyProof.Rows.len_tuple k3 (by simp only [List.size_toArray]; have := q.1; omega) (TQ.toks (.int _ _) S m ?_)
          simp only [List.size_toArray]; rw [← hl]; exact q.2
        · rename_i ep es e
          obtain ⟨kvs, hd, hr⟩ := isDict_of S e
          have hl := hr.length
          refine call_len_dict (hds_of C S e) hd.dictOf (by have := q.1; omega) (TQ.toks (.int _ _) S m ?_)
          rw [hl]; exact q.2
        · rename_i ns e
          obtain ⟨⟨D, vs, n, k1, k2⟩, _⟩ := S.orep e
          have hl := k2.length
          rw [List.length_map] at hl
          refine call_len_list (items := vs.toArray) ⟨_, k1, rfl, _, rfl⟩ (by simp only [List.size_toArray]; have := q.1; omega) (TQ.toks (.int _ _) S m ?_)
          simp only [List.size_toArray]; rw [← hl]; exact q.2
        · exact q.elim
      | list => exact s_list1 C ev S m q
      | all => exact s_all ev S m q
      | _ => exact q.elim
    | none => cases f <;> exact q.elim
  | cons h2 hr =>
    cases hr with
    | cons => exact (prim3 q).elim
    | nil =>
    cases h1 with
    | int a t =>
      cases h2 with
      | int b u =>
        cases f with
        | range =>
          refine call_range_2 ?_
          obtain ⟨e, S'⟩ := S.newObj (o := .range _ _) (Nat.le_refl _) (fun _ _ z => Heap.get?_push_of_some _ z) (by rw [Heap.size_push]; exact Nat.le_succ _) (by intro _ _ z; cases z) (fun D => ⟨q.1, _, _, _, Heap.get?_push_size _ rfl⟩)
          exact ⟨_, _, .ref _, S', m.step _ _, q.2 _ e⟩
        | min =>
          refine min_two_ints (ev.aok.hand q.1) fun h' tk hk => ?_
          have q := q.2
          split
          · rename_i z; rw [if_pos z] at q; exact ⟨_, _, .int _ _, S.kept ev hk, m.step _ _, q⟩
          · rename_i z; rw [if_neg z] at q; exact ⟨_, _, .int _ _, S.kept ev hk, m.step _ _, q⟩
        | _ => exact q.elim
      | _ => cases f <;> exact q.elim
    | _ => cases f <;> exact q.elim

set_option tactic.hygienic false in
theorem s_append {p : Addr} {v : AV} {u : Value} {xs : List AV} (hv : VR v u) (S : St g.c R H s.heap) (m : Sm s₀ s) (e : H p = some (.list xs)) (hz : xs.length ≤ sizeLine) (q : Q .none (up H p (.list (xs ++ [v])))) :
    wpAny (model g.c.prog g.c.w) A (call (.builtin "list.append") [.ref p, u]) (TQ g R s₀ Q) E s := by
  obtain ⟨vs, n, k1, k2, k3⟩ := isList_of S e
  refine append_at k1 (fun h' hs ho => ?_) (by simp only [List.size_toArray]; rw [← k2.length]; exact hz)
  refine ⟨.none, _, .none, S.setObj (o' := .list (xs ++ [v])) e (by intro _ _ z; cases z) hs (fun D => ⟨vs ++ [u], n + 1, ?_, k2.append (.one hv)⟩), m.heap _, q⟩
  rw [ho]; simp
end
end Mine

end
section
open PySem PySem.W PyProof.Rows PySem.Spec PySem.SeqAt PySem.Calls
namespace Mine

noncomputable def kindOk (sc : Scope) (id : Str) : Bool := match sc.names.lookup id with
  | some .local => true
  | some .cell => true
  | some .free => true
  | _ => false
noncomputable def isGlob (sc : Scope) (id : Str) : Bool := sc.names.lookup id == some .globalImplicit
noncomputable def plainName (id : Str) : Bool := !(id == ("__debug__" : Str)) && !(id == ("__classdict__" : Str))
noncomputable def baseOk : PySem.Expr → Bool
  | .Call (.Name _ _) [] [] _ => false
  | _ => true
noncomputable def noSlice : PySem.Expr → Bool
  | .Slice .. => false
  | _ => true
noncomputable def nameIs (sc : Scope) (n : String) : PySem.Expr → Bool
  | .Name id _ => id == Str.ofString n && isGlob sc id && plainName id
  | _ => false
noncomputable def notSet : PySem.Expr → Bool
  | .Set .. => false
  | _ => true
noncomputable def isLC : PySem.Expr → Bool
  | .ListComp .. => true
  | _ => false
noncomputable def litOk (v : AV) (cc : Const) : Bool := match v, cc with
  | .none, .none => true
  | .bool a, .bool b => a == b
  | .int a, .int b => a == b
  | .str a, .str b => a == b && PyData.strOk a
  | _, _ => false
noncomputable def isComp : X → Bool
  | .comp .. => true
  | _ => false
noncomputable def hideN (nm : List Str) (ts : List Str) : List Str := nm.map fun x => if ts.contains x then ⟨#[]⟩ else x
noncomputable def namesOfE : List PySem.Expr → Option (List Str)
  | [] => some []
  | .Name id _ :: r => (namesOfE r).map (id :: ·)
  | _ => none
noncomputable def tgNames : PySem.Expr → Option (Bool × List Str)
  | .Name t _ => some (false, [t])
  | .Tuple es _ _ => (namesOfE es).map fun ts => (true, ts)
  | _ => none
noncomputable def compScOk (sc csc : Scope) (nm ts : List Str) : Bool :=
  csc.kind == .function && ts.all (fun t => csc.names.lookup t == some .local && t.length != 0 && plainName t) && decide ts.Nodup && !nm.contains (Str.ofString ".0") &&
  csc.names.all (fun p => p.2 != .cell && (p.2 != .local || (csc.names.lookup p.1 == some .local && (ts.contains p.1 || p.1 == Str.ofString ".0"))) && (p.2 != .free || (sc.names.lookup p.1 == some .cell && nm.contains p.1 && csc.names.lookup p.1 == some .free)) && p.1.length != 0)

abbrev EB := PySem.Expr → Bool
noncomputable def mLit (v : AV) (e : PySem.Expr) : Bool := match e with
  | .Constant cc _ _ => litOk v cc
  | _ => false
noncomputable def mVar (sc : Scope) (nm : List Str) (i : Nat) (e : PySem.Expr) : Bool := match e with
  | .Name id _ => nm[i]? == some id && kindOk sc id && plainName id
  | _ => false
noncomputable def mBin (op : Operator) (a b : EB) (e : PySem.Expr) : Bool := match e with
  | .BinOp l op' r _ => op == op' && a l && b r
  | _ => false
noncomputable def mNeg (a : EB) (e : PySem.Expr) : Bool := match e with
  | .UnaryOp .USub x _ => a x
  | _ => false
noncomputable def mNot (a : EB) (e : PySem.Expr) : Bool := match e with
  | .UnaryOp .Not x _ => a x
  | _ => false
noncomputable def mAo (isAnd : Bool) (xs : List PySem.Expr → Bool) (e : PySem.Expr) : Bool := match e with
  | .BoolOp op vs _ => (op == (if isAnd then PySem.BoolOp.And else PySem.BoolOp.Or)) && xs vs
  | _ => false
noncomputable def mIte (c a b : EB) (e : PySem.Expr) : Bool := match e with
  | .IfExp t x y _ => c t && a x && b y
  | _ => false
noncomputable def mCmp (op : CmpOp) (a b : EB) (e : PySem.Expr) : Bool := match e with
  | .Compare l [op'] [r] _ => op == op' && !behindInMarks op' r && a l && b r
  | _ => false
noncomputable def mCmp2 (op₁ op₂ : CmpOp) (a b d : EB) (e : PySem.Expr) : Bool := match e with
  | .Compare l [o₁, o₂] [r₁, r₂] _ => op₁ == o₁ && op₂ == o₂ && !lastMarks [o₁, o₂] [r₁, r₂] && a l && b r₁ && d r₂
  | _ => false
noncomputable def mSub (a i : EB) (e : PySem.Expr) : Bool := match e with
  | .Subscript v sl _ => noSlice sl && a v && i sl
  | _ => false
noncomputable def mSlice (a : EB) (lo hi st : Option PySem.Expr → Bool) (e : PySem.Expr) : Bool := match e with
  | .Subscript v (.Slice l u t _) _ => a v && lo l && hi u && st t
  | _ => false
noncomputable def mAttr (a : EB) (n : String) (e : PySem.Expr) : Bool := match e with
  | .Attribute v at' _ => at' == Str.ofString n && baseOk v && a v
  | _ => false
noncomputable def mCall (sc : Scope) (ok : Bool) (f : String) (xs : List PySem.Expr → Bool) (e : PySem.Expr) : Bool := match e with
  | .Call fe args [] _ => nameIs sc f fe && ok && xs args
  | _ => false
noncomputable def mMeth (m : String) (a : EB) (xs : List PySem.Expr → Bool) (e : PySem.Expr) : Bool := match e with
  | .Call (.Attribute o name apos) args [] pos => name == Str.ofString m && (apos.endLine == pos.line) && baseOk o && decide (args.length < 29) && a o && xs args
  | _ => false
noncomputable def mIsi (P : Pg) (sc : Scope) (a : EB) (ty : String) (e : PySem.Expr) : Bool := match e with
  | .Call fe [x, t] [] _ => nameIs sc "isinstance" fe && P.prims.contains "isinstance" && (P.prims.contains ty || (P.excs.lookup ty).isSome) && nameIs sc ty t && a x
  | _ => false
noncomputable def mList (xs : List PySem.Expr → Bool) (e : PySem.Expr) : Bool := match e with
  | .List es _ => xs es && decide (es.length < 1000)
  | _ => false
noncomputable def mTup (xs : List PySem.Expr → Bool) (e : PySem.Expr) : Bool := match e with
  | .Tuple es _ _ => xs es && decide (es.length < 1000)
  | _ => false
noncomputable def mDict (ks vs : List X) (mk : List (Option PySem.Expr) → Bool) (mv : List PySem.Expr → Bool) (e : PySem.Expr) : Bool := match e with
  | .Dict ks' vs' _ => (ks.isEmpty && vs.isEmpty && ks'.isEmpty && vs'.isEmpty)
  | _ => false
noncomputable def mComp (top tup : Bool) (k : Nat) (sc : Scope) (nm : List Str) (it : EB) (x : Scope → List Str → EB) (c : Scope → List Str → List PySem.Expr → Bool) (e : PySem.Expr) : Bool := top && (match e with
  | .ListComp elt [⟨tg, iter, ifs, ia⟩] csc _ => (match tgNames tg with
    | some (tup', ts) => ia == 0 && tup == tup' && k == ts.length && notSet iter && it iter && compScOk sc csc nm ts && x csc (hideN nm ts ++ ts) elt && c csc (hideN nm ts ++ ts) ifs
    | none => false)
  | _ => false)

mutual
noncomputable def mtX (P : Pg) (top : Bool) (sc : Scope) (nm : List Str) : X → PySem.Expr → Bool
  | .lit v, e => mLit v e
  | .var i, e => mVar sc nm i e
  | .glob n, e => nameIs sc n e
  | .bin op a b, e => mBin op (mtX P top sc nm a) (mtX P top sc nm b) e
  | .neg a, e => mNeg (mtX P top sc nm a) e
  | .not a, e => mNot (mtX P top sc nm a) e
  | .ao isAnd xs, e => mAo isAnd (mtXs P top sc nm xs) e
  | .ite c a b, e => mIte (mtX P top sc nm c) (mtX P top sc nm a) (mtX P top sc nm b) e
  | .cmp op a b, e => mCmp op (mtX P top sc nm a) (mtX P top sc nm b) e
  | .cmp2 op₁ op₂ a b d, e => mCmp2 op₁ op₂ (mtX P top sc nm a) (mtX P top sc nm b) (mtX P top sc nm d) e
  | .sub a i, e => mSub (mtX P top sc nm a) (mtX P top sc nm i) e
  | .slice a lo hi st, e => mSlice (mtX P top sc nm a) (mtO P top sc nm lo) (mtO P top sc nm hi) (mtO P top sc nm st) e
  | .attr a n, e => mAttr (mtX P top sc nm a) n e
  | .call f xs, e => mCall sc (P.gfns.contains f) f (mtXs P top sc nm xs) e
  | .new cl xs, e => mCall sc (P.classes.contains cl) cl (mtXs P top sc nm xs) e
  | .meth a m xs, e => mMeth m (mtX P top sc nm a) (mtXs P top sc nm xs) e
  | .bm a m xs, e => mMeth m.str (mtX P top sc nm a) (mtXs P top sc nm xs) e
  | .prim f xs, e => mCall sc (P.prims.contains f.str) f.str (mtXs P top sc nm xs) e
  | .isinst a ty, e => mIsi P sc (mtX P top sc nm a) ty e
  | .list xs, e => mList (mtXs P top sc nm xs) e
  | .tuple xs, e => mTup (mtXs P top sc nm xs) e
  | .dict ks vs, e => mDict ks vs (mtOs P top sc nm ks) (mtXs P top sc nm vs) e
  | .comp x k tup it c, e => mComp top tup k sc nm (mtX P top sc nm it) (fun csc nm' => mtX P false csc nm' x) (fun csc nm' => mtC P csc nm' c) e
noncomputable def mtXs (P : Pg) (top : Bool) (sc : Scope) (nm : List Str) : List X → List PySem.Expr → Bool
  | [], es => es.isEmpty
  | x :: r, es => (match es with
    | e :: q => mtX P top sc nm x e && mtXs P top sc nm r q
    | [] => false)
noncomputable def mtO (P : Pg) (top : Bool) (sc : Scope) (nm : List Str) : Option X → Option PySem.Expr → Bool
  | none, e => e.isNone
  | some x, e => (match e with
    | some e => mtX P top sc nm x e
    | none => false)
noncomputable def mtOs (P : Pg) (top : Bool) (sc : Scope) (nm : List Str) : List X → List (Option PySem.Expr) → Bool
  | [], es => es.isEmpty
  | x :: r, es => (match es with
    | some e :: q => mtX P top sc nm x e && mtOs P top sc nm r q
    | _ => false)
noncomputable def mtC (P : Pg) (sc : Scope) (nm : List Str) : Option X → List PySem.Expr → Bool
  | none, es => es.isEmpty
  | some x, es => (match es with
    | [e] => mtX P false sc nm x e
    | _ => false)
end

noncomputable def locKind (sc : Scope) (id : Str) : Bool := match sc.names.lookup id with
  | some .local => true
  | some .cell => true
  | _ => false
inductive OVW : Option AV → Option Value → Prop
  | none {x} : OVW Option.none x
  | some {a v} : VR a v → OVW (Option.some a) (Option.some v)
structure Frm (R : RR) (env : Env) (sc : Scope) (nm : List Str) (V : VV) : Prop where
  kind : env.scope.kind = .function
  glob : env.globals = mainGlobals
  blt : env.builtins = builtinsNs
  sco : ∀ id, isGlob sc id = true → env.kindOf id = some .globalImplicit
  kok : ∀ id, kindOk sc id = true → env.kindOf id = some .local ∨ env.kindOf id = some .cell ∨ env.kindOf id = some .free
  lok : ∀ id, locKind sc id = true → env.kindOf id = some .local ∨ env.kindOf id = some .cell
  lco : ∀ id, sc.names.lookup id = some .local → env.kindOf id = some .local
  cco : ∀ id, sc.names.lookup id = some .cell → env.kindOf id = some .cell
  len : V.length = nm.length
  inj : ∀ n n' a, env.cells.lookup n = some a → env.cells.lookup n' = some a → n = n'
  ns : ∃ m, R env.locals = some (.ns m) ∧ ∀ (i : Nat) n, nm[i]? = some n → env.kindOf n = some .local → ∃ v, V[i]? = some v ∧ OVW v (m n)
  cell : ∀ (i : Nat) n, nm[i]? = some n → (env.kindOf n = some .cell ∨ env.kindOf n = some .free) → ∃ a x v, env.cells.lookup n = some a ∧ R a = some (.cell x) ∧ V[i]? = some v ∧ OVW v x

noncomputable def veM : List Value := [.type "ValueError", .type "Exception", .type "BaseException", .type "object"]
noncomputable def typeNames : List String := ["int", "bool", "str", "list"]
structure PgOk (c : Cx) : Prop where
  fn : ∀ f, c.P.gfns.contains f = true → nsIn c.K mainGlobals (Str.ofString f) = some (some (.ref (c.fa f))) ∧ keepIn c.K (.ref (c.fa f)) = true
  cls : ∀ cl, c.P.classes.contains cl = true → nsIn c.K mainGlobals (Str.ofString cl) = some (some (.ref (c.ca cl))) ∧ keepIn c.K (.ref (c.ca cl)) = true ∧ makesIn c.K (c.ca cl) = true ∧
    findIn c.K (.ref (c.ca cl)) "__init__" = some (some (.ref (c.fa (cl ++ ".__init__")))) ∧ isFn c.K (.ref (c.fa (cl ++ ".__init__"))) = true
  meth : ∀ cl m, c.P.meths.contains (cl, m) = true → plainGet c.K (c.ca cl) (Str.ofString m) = true ∧ findIn c.K (.ref (c.ca cl)) (Str.ofString m) = some (some (.ref (c.fa (cl ++ "." ++ m)))) ∧ isFn c.K (.ref (c.fa (cl ++ "." ++ m))) = true ∧
    keepIn c.K (.ref (c.fa (cl ++ "." ++ m))) = true
  attr : ∀ cl n, c.P.attrs.contains (cl, n) = true → plainGet c.K (c.ca cl) (Str.ofString n) = true ∧ hasDictIn c.K (c.ca cl) = true ∧ findIn c.K (.ref (c.ca cl)) (Str.ofString n) = some none ∧
    findIn c.K (.ref (c.ca cl)) "__setattr__" = some (some (.builtin "object.__setattr__")) ∧ plainOver c.K (c.ca cl) = true ∧ takerIn c.K (c.ca cl) (Str.ofString n) = some none
  prim : ∀ f, c.P.prims.contains f = true → nsIn c.K mainGlobals (Str.ofString f) = some none ∧ (Str.ofString f == Str.ofString "__name__") = false ∧ bootBuiltins (Str.ofString f) = some (primValS f)
  exc : ∀ cl ty, ((c.P.excs.lookup cl).map (·.contains ty)).getD false = true → c.P.prims.contains ty = true → ty = "ValueError" ∧ subIn c.K (.ref (c.ca cl)) (.type ty) = some true
  excR : ∀ cl, (c.P.excs.lookup cl).isSome = true → nsIn c.K mainGlobals (Str.ofString cl) = some (some (.ref (c.ca cl))) ∧ excIn c.K (c.ca cl) veM "ValueError.__new__" = true ∧ instIn c.K (.ref (c.ca cl)) (.type "tuple") = some false ∧ subIn c.K (.ref (c.ca cl)) (.type "BaseException") = some true ∧ (clsIn c.K (c.ca cl)).isSome = true ∧
    typeIn c.K (.ref (c.ca cl)) = some (.type "type") ∧ instIn c.K (.ref (c.ca cl)) (.type "type") = some true ∧ typeNames.contains cl = false
  excC : ∀ cl d, (c.P.excs.lookup cl).isSome = true → (c.P.excs.lookup d).isSome = true → subIn c.K (.ref (c.ca cl)) (.ref (c.ca d)) = some (excSub c.P cl d)
  const : ∀ n v, c.P.consts.lookup n = some v → ∃ x, nsIn c.K mainGlobals (Str.ofString n) = some (some x) ∧ VR v x
end Mine

namespace Mine
noncomputable def notComp : PySem.Expr → Bool
  | .ListComp .. => false
  | .SetComp .. => false
  | .DictComp .. => false
  | .Set .. => false
  | _ => true
noncomputable def tgtOk (sc : Scope) (nm : List Str) (i : Nat) : PySem.Expr → Bool
  | .Name id _ => nm[i]? == some id && locKind sc id
  | _ => false
noncomputable def tgsOk (sc : Scope) (nm : List Str) : List Nat → List PySem.Expr → Bool
  | [], es => es.isEmpty
  | i :: is, es => (match es with
    | e :: r => tgtOk sc nm i e && tgsOk sc nm is r
    | [] => false)
noncomputable def tupOk (sc : Scope) (nm : List Str) (is : List Nat) : PySem.Expr → Bool
  | .Tuple es _ _ => tgsOk sc nm is es
  | _ => false
noncomputable def tgOk (sc : Scope) (nm : List Str) : Tg → PySem.Expr → Bool
  | .var i, e => tgtOk sc nm i e
  | .tup _, _ => false
noncomputable def notTup : PySem.Expr → Bool
  | .Tuple .. => false
  | _ => true
noncomputable def mtT (P : Pg) (sc : Scope) (nm : List Str) : T → PySem.Expr → Bool
  | .var i, e => tgtOk sc nm i e
  | .sub a i, e => (match e with
    | .Subscript v sl _ => noSlice sl && mtX P true sc nm a v && mtX P true sc nm i sl
    | _ => false)
  | .attr a n, e => (match e with
    | .Attribute v at' _ => at' == Str.ofString n && mtX P true sc nm a v
    | _ => false)
  | .tup _, _ => false
noncomputable def notTupT : T → Bool
  | .tup _ => false
  | _ => true
noncomputable def mStr1 (msg : Str) (es : List PySem.Expr) : Bool := match es with
  | [e] => mLit (.str msg) e
  | _ => false
mutual
noncomputable def mtS (P : Pg) (sc : Scope) (nm : List Str) : S → Stmt → Bool
  | .assign t e, st => (match st with
    | .Assign [tg] v _ => (notComp v || (isLC v && isComp e)) && (notTup v || notTupT t) && mtT P sc nm t tg && mtX P true sc nm e v
    | _ => false)
  | .expr e, st => (match st with
    | .Expr v _ => notComp v && mtX P true sc nm e v
    | _ => false)
  | .ret e, st => (match st with
    | .Return (some v) _ => mtX P true sc nm e v
    | _ => false)
  | .ite c a b, st => (match st with
    | .If t x y _ => mtX P true sc nm c t && mtSs P sc nm a x && mtSs P sc nm b y
    | _ => false)
  | .while _ _, _ => false
  | .for t it b, st => (match st with
    | .For tg iter x [] _ => notSet iter && tgOk sc nm t tg && mtX P true sc nm it iter && mtSs P sc nm b x
    | _ => false)
  | .raise cl msg, st => (match st with
    | .Raise (some c) none _ => mCall sc (P.excs.lookup cl).isSome cl (mStr1 msg) c
    | _ => false)
  | .try b hs, st => (match st with
    | .Try x (h₀ :: hs') [] [] _ => mtSs P sc nm b x && mtHs P sc nm hs (h₀ :: hs')
    | _ => false)
  | .pass, st => (match st with
    | .Pass _ => true
    | _ => false)
noncomputable def mtSs (P : Pg) (sc : Scope) (nm : List Str) : List S → List Stmt → Bool
  | [], es => es.isEmpty
  | x :: r, es => (match es with
    | e :: q => mtS P sc nm x e && mtSs P sc nm r q
    | [] => false)
noncomputable def mtHs (P : Pg) (sc : Scope) (nm : List Str) : List Hd → List ExceptHandler → Bool
  | [], es => es.isEmpty
  | h :: r, es => (match es with
    | e :: q => mtH P sc nm h e && mtHs P sc nm r q
    | [] => false)
noncomputable def mtH (P : Pg) (sc : Scope) (nm : List Str) : Hd → ExceptHandler → Bool
  | .mk cl nmi b, e => (match e with
    | .ExceptHandler (some t) name (x :: body) _ => nameIs sc cl t && (P.excs.lookup cl).isSome && mtSs P sc nm b (x :: body) && (match nmi, name with
      | none, none => true
      | some i, some n => nm[i]? == some n && sc.names.lookup n == some .local
      | _, _ => false)
    | _ => false)
end
section
variable {P : Pg} {top : Bool} {sc : Scope} {nm : List Str}
theorem mtS_e1 : mtS P sc nm (.assign t e) zt = (match zt with
    | .Assign [tg] v _ => (notComp v || (isLC v && isComp e)) && (notTup v || notTupT t) && mtT P sc nm t tg && mtX P true sc nm e v
    | _ => false) := rfl
theorem mtS_e2 : mtS P sc nm (.expr e) zt = (match zt with
    | .Expr v _ => notComp v && mtX P true sc nm e v
    | _ => false) := rfl
theorem mtS_e3 : mtS P sc nm (.ret e) zt = (match zt with
    | .Return (some v) _ => mtX P true sc nm e v
    | _ => false) := rfl
theorem mtS_e4 : mtS P sc nm (.ite c a b) zt = (match zt with
    | .If t x y _ => mtX P true sc nm c t && mtSs P sc nm a x && mtSs P sc nm b y
    | _ => false) := rfl
theorem mtS_e6 : mtS P sc nm (.for t it b) zt = (match zt with
    | .For tg iter x [] _ => notSet iter && tgOk sc nm t tg && mtX P true sc nm it iter && mtSs P sc nm b x
    | _ => false) := rfl
theorem mtS_e7 : mtS P sc nm (.raise cl msg) zt = (match zt with
    | .Raise (some c) none _ => mCall sc (P.excs.lookup cl).isSome cl (mStr1 msg) c
    | _ => false) := rfl
theorem mtS_e8 : mtS P sc nm (.try b hs) zt = (match zt with
    | .Try x (h₀ :: hs') [] [] _ => mtSs P sc nm b x && mtHs P sc nm hs (h₀ :: hs')
    | _ => false) := rfl
theorem mtS_e9 : mtS P sc nm (.pass) zt = (match zt with
    | .Pass _ => true
    | _ => false) := rfl
theorem mtSs_e1 : mtSs P sc nm ([]) es = (es.isEmpty) := rfl
theorem mtSs_e2 : mtSs P sc nm (x :: r) es = (match es with
    | e :: q => mtS P sc nm x e && mtSs P sc nm r q
    | [] => false) := rfl
theorem mtHs_e1 : mtHs P sc nm ([]) es = (es.isEmpty) := rfl
theorem mtHs_e2 : mtHs P sc nm (h :: r) es = (match es with
    | e :: q => mtH P sc nm h e && mtHs P sc nm r q
    | [] => false) := rfl
theorem mtH_e1 : mtH P sc nm (.mk cl nmi b) e = (match e with
    | .ExceptHandler (some t) name (x :: body) _ => nameIs sc cl t && (P.excs.lookup cl).isSome && mtSs P sc nm b (x :: body) && (match nmi, name with
      | none, none => true
      | some i, some n => nm[i]? == some n && sc.names.lookup n == some .local
      | _, _ => false)
    | _ => false) := rfl
theorem mtT_e2 : mtT P sc nm (.sub a i) e = (match e with
    | .Subscript v sl _ => noSlice sl && mtX P true sc nm a v && mtX P true sc nm i sl
    | _ => false) := rfl
theorem mtT_e3 : mtT P sc nm (.attr a n) e = (match e with
    | .Attribute v at' _ => at' == Str.ofString n && mtX P true sc nm a v
    | _ => false) := rfl
theorem mtXs_e1 : mtXs P top sc nm ([]) es = (es.isEmpty) := rfl
theorem mtXs_e2 : mtXs P top sc nm (x :: r) es = (match es with
    | e :: q => mtX P top sc nm x e && mtXs P top sc nm r q
    | [] => false) := rfl
theorem mtO_e1 : mtO P top sc nm (none) e = (e.isNone) := rfl
theorem mtO_e2 : mtO P top sc nm (some x) e = (match e with
    | some e => mtX P top sc nm x e
    | none => false) := rfl
theorem mtOs_e2 : mtOs P top sc nm (x :: r) es = (match es with
    | some e :: q => mtX P top sc nm x e && mtOs P top sc nm r q
    | _ => false) := rfl
theorem mtC_e1 : mtC P sc nm (none) es = (es.isEmpty) := rfl
theorem mtC_e2 : mtC P sc nm (some x) es = (match es with
    | [e] => mtX P false sc nm x e
    | _ => false) := rfl
end
end Mine

end
section
open PySem PySem.W PyProof.Rows PySem.Spec PySem.SeqAt PySem.Calls
namespace Mine

noncomputable def HX (g : Gx) (A : Around) (R : RR) (V : VV) (s₀ : Shared) (x : X) (t : Sem Value) : Prop :=
  ∀ (H : AHeap) (s : Shared) (Q : AV → AHeap → Prop) (E : String → AHeap → Prop), St g.c R H s.heap → Sm s₀ s → wpX g x V Q E H → wpAny (model g.c.prog g.c.w) A t (TQ g R s₀ Q) (TE g R s₀ E) s
inductive TTi (c : Cx) (R : RR) (s₀ : Shared) (Q : AV → Bool → AHeap → Prop) (b : Bool) (s' : Shared) : Prop
  | mk (v : AV) (H' : AHeap) (S : St c R H' s'.heap) (m : Sm s₀ s') (q : Q v b H') (h : ∀ P : Bool → Prop, wtruth v H' P → P b) : TTi c R s₀ Q b s'
noncomputable def TT (g : Gx) (R : RR) (s₀ : Shared) (Q : AV → Bool → AHeap → Prop) (b : Bool) (s' : Shared) : Prop := TTi g.c R s₀ Q b s'
noncomputable def HT (g : Gx) (A : Around) (R : RR) (V : VV) (s₀ : Shared) (x : X) (t : Sem Bool) : Prop :=
  ∀ (H : AHeap) (s : Shared) (Q : AV → Bool → AHeap → Prop) (E : String → AHeap → Prop), St g.c R H s.heap → Sm s₀ s → wpX g x V (fun v H => wtruth v H fun b => Q v b H) E H →
    wpAny (model g.c.prog g.c.w) A t (TT g R s₀ Q) (TE g R s₀ E) s
inductive TQsi (c : Cx) (R : RR) (s₀ : Shared) (Q : List AV → AHeap → Prop) (vs : List Value) (s' : Shared) : Prop
  | mk (as : List AV) (H' : AHeap) (hv : VRs as vs) (S : St c R H' s'.heap) (m : Sm s₀ s') (q : Q as H') : TQsi c R s₀ Q vs s'
noncomputable def TQs (g : Gx) (R : RR) (s₀ : Shared) (Q : List AV → AHeap → Prop) (vs : List Value) (s' : Shared) : Prop := TQsi g.c R s₀ Q vs s'
noncomputable def HXs (g : Gx) (A : Around) (R : RR) (V : VV) (s₀ : Shared) (xs : List X) (t : Sem (List Value)) : Prop :=
  ∀ (H : AHeap) (s : Shared) (Q : List AV → AHeap → Prop) (E : String → AHeap → Prop), St g.c R H s.heap → Sm s₀ s → wpXs g xs V Q E H → wpAny (model g.c.prog g.c.w) A t (TQs g R s₀ Q) (TE g R s₀ E) s

set_option tactic.hygienic false in
theorem wtruth_self {v : AV} {H : AHeap} {P : Bool → Prop} (h : wtruth v H P) : ∃ b, P b ∧ (∀ P' : Bool → Prop, wtruth v H P' → P' b) ∧ ∀ P' : Bool → Prop, P' b → wtruth v H P' := by
  cases v with
  | none => exact ⟨_, h, fun _ x => x, fun _ x => x⟩
  | bool b => exact ⟨_, h, fun _ x => x, fun _ x => x⟩
  | int i => exact ⟨_, h, fun _ x => x, fun _ x => x⟩
  | str s => exact ⟨_, h.2, fun _ x => x.2, fun _ x => ⟨h.1, x⟩⟩
  | ref a =>
    unfold wtruth at h ⊢
    dsimp only at h ⊢
    split at h
    · exact ⟨_, h.2, fun P' x => x.2, fun P' x => ⟨h.1, x⟩⟩
    · exact ⟨_, h.2, fun P' x => x.2, fun P' x => ⟨h.1, x⟩⟩
    · exact h.elim

section
variable {g : Gx} {A : Around} {R : RR} {V : VV} {s₀ : Shared} {env : Env} {mg mb : Str → Option Value} {e₀ : Env} {l₀ : List Env}

set_option tactic.hygienic false in
theorem s_truthT {H : AHeap} {s : Shared} {v : Value} {a : AV} {Q : AV → Bool → AHeap → Prop} {E : Value → Shared → Prop} (hv : VR a v) (S : St g.c R H s.heap) (m : Sm s₀ s) (q : wtruth a H (fun b => Q a b H)) :
    wpAny (model g.c.prog g.c.w) A (truthy v) (TT g R s₀ Q) E s := by
  obtain ⟨b, qb, hb, hb'⟩ := wtruth_self q
  refine wpAny_mono (s_truth (A := A) (E := E) (Qb := fun b' H' => H' = H ∧ b' = b) hv S m (hb' _ ⟨rfl, rfl⟩)) (fun b' s' h => ?_) fun _ _ x => x
  obtain ⟨H', S', m', e1, e2⟩ := h
  subst e1 e2
  exact ⟨a, H', S', m', qb, hb⟩

set_option tactic.hygienic false in
theorem HT.plain {x : X} {e : PySem.Expr} {whole : Sem Value} (h : HX g A R V s₀ x whole) (he : isTrue e env whole = (do let v ← whole; standAt e.pos; holding [v] (truthy v))) :
    HT g A R V s₀ x (isTrue e env whole) := fun H s Q E S m q => by
  refine isTrue_plain (wpAny_mono (h H s _ E S m q) (fun v s' z => ?_) fun _ _ z => z) he
  obtain ⟨a, H', hv, S', m', q'⟩ := z
  exact s_truthT hv S' m' q'

set_option tactic.hygienic false in
theorem hx_lit {v : AV} {cc : Const} {k : Nat} {p : Pos} (hc : litOk v cc = true) : HX g A R V s₀ (.lit v) (eval (.Constant cc k p) env) := fun H s Q E S m q => by
  unfold litOk at hc
  split at hc
  · exact wpAny_Constant_none (TQ.pure .none S m q)
  · rw [beq_iff_eq.mp hc] at q; exact wpAny_Constant_bool (TQ.pure (.bool _) S m q)
  · rw [beq_iff_eq.mp hc] at q; exact wpAny_Constant_int (TQ.toks (.int _ _) S m q)
  · obtain ⟨h1, h2⟩ := Bool.and_eq_true_iff.mp hc
    rw [beq_iff_eq.mp h1] at q h2
    exact wpAny_Constant_str (TQ.toks (.str _ _ h2) S m q)
  · cases hc

set_option tactic.hygienic false in
theorem hx_var {sc : Scope} {nm : List Str} {i : Nat} {id : Str} {p : Pos} (fr : Frm R env sc nm V) (h1 : nm[i]? = some id) (h2 : kindOk sc id = true) (h3 : plainName id = true) :
    HX g A R V s₀ (.var i) (eval (.Name id p) env) := fun H s Q E S m q => by
  unfold plainName at h3
  simp only [Bool.and_eq_true, Bool.not_eq_true'] at h3
  dsimp only [x_lit, x_var, x_bin, x_neg, x_not, x_ao, x_ite, x_cmp, x_cmp2, x_sub, x_slice, x_glob, x_call, x_prim, x_bm, x_isi, x_list, x_tup, x_new, x_dict0, x_dict1, x_attr, x_meth, x_comp] at q
  rcases fr.kok id h2 with k | k | k
  · obtain ⟨mm, r1, r2⟩ := fr.ns
    obtain ⟨v, e, ov⟩ := r2 i id h1 k
    rw [e] at q
    generalize hw : mm id = w at ov
    cases ov with
    | none => exact q.elim
    | some hv => exact wpAny_Name (wpAny_loadName_local fr.kind k (S.res _ _ r1).2 hw (TQ.pure hv S m q)) h3.1
  · obtain ⟨a, x, v, e1, e2, e3, ov⟩ := fr.cell i id h1 (.inl k)
    rw [e3] at q
    cases ov with
    | none => exact q.elim
    | some hv => exact wpAny_Name (wpAny_loadName_cell fr.kind k e1 (S.res _ _ e2).2 (TQ.pure hv S m q)) h3.1
  · obtain ⟨a, x, v, e1, e2, e3, ov⟩ := fr.cell i id h1 (.inr k)
    rw [e3] at q
    cases ov with
    | none => exact q.elim
    | some hv => exact wpAny_Name (wpAny_loadName_free fr.kind k e1 (S.res _ _ e2).2 (TQ.pure hv S m q) h3.2) h3.1

theorem glob_K {sc : Scope} {nm : List Str} {n : String} {e : PySem.Expr} {v : Value} {H : AHeap} {s : Shared} {Q : Value → Shared → Prop} {E : Value → Shared → Prop} (C : g.c.Ok mg mb) (fr : Frm R env sc nm V) (S : St g.c R H s.heap)
    (hn : nameIs sc n e = true) (hk : nsIn g.c.K mainGlobals (Str.ofString n) = some (some v)) (q : Q v s) : wpAny (model g.c.prog g.c.w) A (eval e env) Q E s := by
  unfold nameIs at hn
  split at hn
  · rename_i id p
    simp only [Bool.and_eq_true, beq_iff_eq] at hn
    obtain ⟨⟨h1, h2⟩, h3⟩ := hn
    unfold plainName at h3
    simp only [Bool.and_eq_true, Bool.not_eq_true'] at h3
    subst h1
    refine Name_function_global fr.kind (fr.sco _ h2) (loadGlobal_global (mg := mg) ?_ (mg_of C.kin C.g hk) q) h3.1
    rw [fr.glob]; exact C.g.keeps S.stays
  · cases hn
theorem glob_B {sc : Scope} {nm : List Str} {n : String} {e : PySem.Expr} {v : Value} {H : AHeap} {s : Shared} {Q : Value → Shared → Prop} {E : Value → Shared → Prop} (C : g.c.Ok mg mb) (fr : Frm R env sc nm V) (S : St g.c R H s.heap)
    (hn : nameIs sc n e = true) (hk : nsIn g.c.K mainGlobals (Str.ofString n) = some none) (hne : (Str.ofString n == Str.ofString "__name__") = false) (hb : bootBuiltins (Str.ofString n) = some v) (q : Q v s) :
    wpAny (model g.c.prog g.c.w) A (eval e env) Q E s := by
  unfold nameIs at hn
  split at hn
  · rename_i id p
    simp only [Bool.and_eq_true, beq_iff_eq] at hn
    obtain ⟨⟨h1, h2⟩, h3⟩ := hn
    unfold plainName at h3
    simp only [Bool.and_eq_true, Bool.not_eq_true'] at h3
    subst h1
    have hne' : Str.ofString n ≠ "__name__" := fun z => by rw [z] at hne; simp at hne
    refine Name_function_global fr.kind (fr.sco _ h2) (loadGlobal_builtin (mg := mg) (mb := mb) ?_ (mg_none_of C.kin C.g hk) ?_ ((C.builtins _ hne').trans hb) q) h3.1
    · rw [fr.glob]; exact C.g.keeps S.stays
    · rw [fr.blt]; exact C.b.keeps S.stays
  · cases hn

theorem hx_glob {sc : Scope} {nm : List Str} {n : String} {e : PySem.Expr} (C : g.c.Ok mg mb) (PO : PgOk g.c) (fr : Frm R env sc nm V) (hn : nameIs sc n e = true) : HX g A R V s₀ (.glob n) (eval e env) := fun H s Q E S m q => by
  dsimp only [x_lit, x_var, x_bin, x_neg, x_not, x_ao, x_ite, x_cmp, x_cmp2, x_sub, x_slice, x_glob, x_call, x_prim, x_bm, x_isi, x_list, x_tup, x_new, x_dict0, x_dict1, x_attr, x_meth, x_comp] at q
  split at q
  · rename_i v hv
    obtain ⟨x, h1, h2⟩ := PO.const n v hv
    exact glob_K C fr S hn h1 (TQ.pure h2 S m q)
  · exact q.elim

set_option tactic.hygienic false in
theorem hx_bin {op : Operator} {a b : X} {l r : PySem.Expr} {p : Pos} (C : g.c.Ok mg mb) (ev : Ev g A R e₀ l₀) (ha : HX g A R V s₀ a (eval l env)) (hb : HX g A R V s₀ b (eval r env)) : HX g A R V s₀ (.bin op a b) (eval (.BinOp l op r p) env) :=
  fun H s Q E S m q => by
  dsimp only [x_lit, x_var, x_bin, x_neg, x_not, x_ao, x_ite, x_cmp, x_cmp2, x_sub, x_slice, x_glob, x_call, x_prim, x_bm, x_isi, x_list, x_tup, x_new, x_dict0, x_dict1, x_attr, x_meth, x_comp] at q
  refine wpAny_BinOp (wpAny_mono (ha H s _ E S m q) (fun u s₁ z => ?_) fun _ _ z => z)
  obtain ⟨au, H₁, hu, S₁, m₁, q₁⟩ := z
  refine wpAny_mono (hb H₁ s₁ _ E S₁ m₁ q₁) (fun v s₂ z => ?_) fun _ _ z => z
  obtain ⟨av, H₂, hv, S₂, m₂, q₂⟩ := z
  exact s_bin C ev hu hv S₂ m₂ q₂

set_option tactic.hygienic false in
theorem hx_neg {a : X} {l : PySem.Expr} {p : Pos} (ha : HX g A R V s₀ a (eval l env)) : HX g A R V s₀ (.neg a) (eval (.UnaryOp .USub l p) env) := fun H s Q E S m q => by
  dsimp only [x_lit, x_var, x_bin, x_neg, x_not, x_ao, x_ite, x_cmp, x_cmp2, x_sub, x_slice, x_glob, x_call, x_prim, x_bm, x_isi, x_list, x_tup, x_new, x_dict0, x_dict1, x_attr, x_meth, x_comp] at q
  refine wpAny_UnaryOp (wpAny_mono (ha H s _ E S m q) (fun u s₁ z => ?_) fun _ _ z => z)
  obtain ⟨au, H₁, hu, S₁, m₁, q₁⟩ := z
  split at q₁
  · cases hu; exact neg_int (TQ.toks (.int _ _) S₁ m₁ q₁)
  · exact q₁.elim

set_option tactic.hygienic false in
theorem hx_not {a : X} {l : PySem.Expr} {p : Pos} (ha : HX g A R V s₀ a (eval l env)) : HX g A R V s₀ (.not a) (eval (.UnaryOp .Not l p) env) := fun H s Q E S m q => by
  dsimp only [x_lit, x_var, x_bin, x_neg, x_not, x_ao, x_ite, x_cmp, x_cmp2, x_sub, x_slice, x_glob, x_call, x_prim, x_bm, x_isi, x_list, x_tup, x_new, x_dict0, x_dict1, x_attr, x_meth, x_comp] at q
  refine wpAny_UnaryOp (wpAny_mono (ha H s _ E S m q) (fun u s₁ z => ?_) fun _ _ z => z)
  obtain ⟨au, H₁, hu, S₁, m₁, q₁⟩ := z
  refine not_of (wpAny_mono (s_truth hu S₁ m₁ (Qb := fun b H => Q (.bool (!b)) H) q₁) (fun b s₂ z => ?_) fun _ _ z => z)
  obtain ⟨H₂, S₂, m₂, q₂⟩ := z
  exact TQ.pure (.bool _) S₂ m₂ q₂
set_option tactic.hygienic false in
theorem ht_not {a : X} {l : PySem.Expr} {p : Pos} {whole : Sem Value} (ha : HT g A R V s₀ a (isTrue l env (eval l env))) : HT g A R V s₀ (.not a) (isTrue (.UnaryOp .Not l p) env whole) := fun H s Q E S m q => by
  dsimp only [x_lit, x_var, x_bin, x_neg, x_not, x_ao, x_ite, x_cmp, x_cmp2, x_sub, x_slice, x_glob, x_call, x_prim, x_bm, x_isi, x_list, x_tup, x_new, x_dict0, x_dict1, x_attr, x_meth, x_comp] at q
  refine isTrue_not (wpAny_mono (ha H s (fun _ b H => Q (.bool (!b)) (!b) H) E S m q) (fun b s₁ z => ?_) fun _ _ z => z)
  obtain ⟨v, H₁, S₁, m₁, q₁, _⟩ := z
  exact ⟨.bool (!b), H₁, S₁, m₁, q₁, fun P z => z⟩

set_option tactic.hygienic false in
theorem hx_ite {c a b : X} {t x y : PySem.Expr} {p : Pos} (hc : HT g A R V s₀ c (isTrue t env (eval t env))) (ha : HX g A R V s₀ a (eval x env)) (hb : HX g A R V s₀ b (eval y env)) :
    HX g A R V s₀ (.ite c a b) (eval (.IfExp t x y p) env) := fun H s Q E S m q => by
  dsimp only [x_lit, x_var, x_bin, x_neg, x_not, x_ao, x_ite, x_cmp, x_cmp2, x_sub, x_slice, x_glob, x_call, x_prim, x_bm, x_isi, x_list, x_tup, x_new, x_dict0, x_dict1, x_attr, x_meth, x_comp] at q
  refine wpAny_IfExp (wpAny_mono (hc H s (fun _ t H => if t then wpX g a V Q E H else wpX g b V Q E H) E S m q) (fun b s₁ z => ?_) fun _ _ z => z)
  obtain ⟨v, H₁, S₁, m₁, q₁, _⟩ := z
  cases b with
  | true => exact ha H₁ s₁ Q E S₁ m₁ q₁
  | false => exact hb H₁ s₁ Q E S₁ m₁ q₁
set_option tactic.hygienic false in
theorem ht_ite {c a b : X} {t x y : PySem.Expr} {p : Pos} {whole : Sem Value} (hc : HT g A R V s₀ c (isTrue t env (eval t env))) (ha : HT g A R V s₀ a (isTrue x env (eval x env))) (hb : HT g A R V s₀ b (isTrue y env (eval y env))) :
    HT g A R V s₀ (.ite c a b) (isTrue (.IfExp t x y p) env whole) := fun H s Q E S m q => by
  dsimp only [x_lit, x_var, x_bin, x_neg, x_not, x_ao, x_ite, x_cmp, x_cmp2, x_sub, x_slice, x_glob, x_call, x_prim, x_bm, x_isi, x_list, x_tup, x_new, x_dict0, x_dict1, x_attr, x_meth, x_comp] at q
  rw [arm_isTrue_IfExp]
  refine wpAny_bind (wpAny_mono (hc H s (fun _ t H => if t then wpX g a V _ E H else wpX g b V _ E H) E S m q) (fun b s₁ z => ?_) fun _ _ z => z)
  obtain ⟨v, H₁, S₁, m₁, q₁, _⟩ := z
  cases b with
  | true => exact ha H₁ s₁ Q E S₁ m₁ q₁
  | false => exact hb H₁ s₁ Q E S₁ m₁ q₁

set_option tactic.hygienic false in
theorem hx_cmp {op : CmpOp} {a b : X} {l r : PySem.Expr} {p : Pos} (C : g.c.Ok mg mb) (ev : Ev g A R e₀ l₀) (hm : behindInMarks op r = false) (ha : HX g A R V s₀ a (eval l env)) (hb : HX g A R V s₀ b (eval r env)) :
    HX g A R V s₀ (.cmp op a b) (eval (.Compare l [op] [r] p) env) := fun H s Q E S m q => by
  dsimp only [x_lit, x_var, x_bin, x_neg, x_not, x_ao, x_ite, x_cmp, x_cmp2, x_sub, x_slice, x_glob, x_call, x_prim, x_bm, x_isi, x_list, x_tup, x_new, x_dict0, x_dict1, x_attr, x_meth, x_comp] at q
  refine wpAny_Compare1 (wpAny_mono (ha H s _ E S m q) (fun u s₁ z => ?_) fun _ _ z => z) hm
  obtain ⟨au, H₁, hu, S₁, m₁, q₁⟩ := z
  refine wpAny_mono (hb H₁ s₁ _ E S₁ m₁ q₁) (fun v s₂ z => ?_) fun _ _ z => z
  obtain ⟨av, H₂, hv, S₂, m₂, q₂⟩ := z
  exact s_cmp C ev hu hv S₂ m₂ q₂
set_option tactic.hygienic false in
theorem ht_cmp {op : CmpOp} {a b : X} {l r : PySem.Expr} {p : Pos} {whole : Sem Value} (C : g.c.Ok mg mb) (ev : Ev g A R e₀ l₀) (hm : behindInMarks op r = false) (ha : HX g A R V s₀ a (eval l env)) (hb : HX g A R V s₀ b (eval r env)) :
    HT g A R V s₀ (.cmp op a b) (isTrue (.Compare l [op] [r] p) env whole) := fun H s Q E S m q => by
  dsimp only [x_lit, x_var, x_bin, x_neg, x_not, x_ao, x_ite, x_cmp, x_cmp2, x_sub, x_slice, x_glob, x_call, x_prim, x_bm, x_isi, x_list, x_tup, x_new, x_dict0, x_dict1, x_attr, x_meth, x_comp] at q
  refine wpAny_isTrue_Compare1 (wpAny_mono (ha H s _ E S m q) (fun u s₁ z => ?_) fun _ _ z => z) hm
  obtain ⟨au, H₁, hu, S₁, m₁, q₁⟩ := z
  refine wpAny_mono (hb H₁ s₁ _ E S₁ m₁ q₁) (fun v s₂ z => ?_) fun _ _ z => z
  obtain ⟨av, H₂, hv, S₂, m₂, q₂⟩ := z
  refine wpAny_mono (s_cmp C ev hu hv S₂ m₂ q₂) (fun c s₃ z => ?_) fun _ _ z => z
  obtain ⟨ac, H₃, hc, S₃, m₃, q₃⟩ := z
  exact s_truthT hc S₃ m₃ q₃

set_option tactic.hygienic false in
theorem chain2 {M : Model} {E : Value → Shared → Prop} {s : Shared} {pos : Pos} {a : Value} {op₁ op₂ : CmpOp} {t₁ t₂ : Sem Value} {Q : Value → Shared → Prop}
    (h : wpAny M A t₁ (fun b s₁ => wpAny M A (compareOp op₁ a b) (fun c s₂ => wpAny M A (truthy c) (fun t s₃ => if t then wpAny M A t₂ (fun d s₄ => wpAny M A (compareOp op₂ b d) Q E s₄) E s₃ else Q c s₃) E s₂) E s₁) E s) :
    wpAny M A (compareChain pos a [op₁, op₂] [t₁, t₂]) Q E s := by
  unfold compareChain
  refine wpAny_bind (wpAny_holding (wpAny_mono h (fun b s₁ z => ?_) fun _ _ z => z))
  refine wpAny_bind (wpAny_standAt (wpAny_bind (wpAny_holding (wpAny_mono z (fun c s₂ z => ?_) fun _ _ z => z))))
  refine wpAny_bind (wpAny_release (wpAny_bind (wpAny_holding (wpAny_mono z (fun t s₃ z => ?_) fun _ _ z => z))))
  cases t with
  | false => exact wpAny_pure z
  | true =>
    simp only [if_true] at z ⊢
    unfold compareChain
    exact wpAny_bind (wpAny_holding (wpAny_mono z (fun d s₄ z => wpAny_bind (wpAny_standAt (wpAny_operating z))) fun _ _ z => z))
set_option tactic.hygienic false in
theorem test2 {M : Model} {E : Value → Shared → Prop} {s : Shared} {pos : Pos} {a : Value} {op₁ op₂ : CmpOp} {t₁ t₂ : Sem Value} {Q : Bool → Shared → Prop}
    (h : wpAny M A t₁ (fun b s₁ => wpAny M A (compareOp op₁ a b) (fun c s₂ => wpAny M A (truthy c) (fun t s₃ => if t then wpAny M A t₂ (fun d s₄ => wpAny M A (compareOp op₂ b d) (fun c' s₅ => wpAny M A (truthy c') Q E s₅) E s₄) E s₃ else Q false s₃) E s₂) E s₁) E s) :
    wpAny M A (testChain pos a [op₁, op₂] [t₁, t₂]) Q E s := by
  unfold testChain
  refine wpAny_bind (wpAny_holding (wpAny_mono h (fun b s₁ z => ?_) fun _ _ z => z))
  refine wpAny_bind (wpAny_standAt (wpAny_bind (wpAny_holding (wpAny_mono z (fun c s₂ z => ?_) fun _ _ z => z))))
  refine wpAny_bind (wpAny_release (wpAny_bind (wpAny_holding (wpAny_mono z (fun t s₃ z => ?_) fun _ _ z => z))))
  cases t with
  | false => exact wpAny_pure z
  | true =>
    simp only [if_true] at z ⊢
    unfold testChain
    exact wpAny_bind (wpAny_holding (wpAny_mono z (fun d s₄ z => wpAny_bind (wpAny_standAt (wpAny_bind (wpAny_operating (wpAny_mono z (fun c' s₅ z => wpAny_holding z) fun _ _ z => z))))) fun _ _ z => z))

set_option tactic.hygienic false in
theorem hx_cmp2 {op₁ op₂ : CmpOp} {a b d : X} {l r₁ r₂ : PySem.Expr} {p : Pos} (C : g.c.Ok mg mb) (ev : Ev g A R e₀ l₀) (hm : lastMarks [op₁, op₂] [r₁, r₂] = false)
    (ha : HX g A R V s₀ a (eval l env)) (hb : HX g A R V s₀ b (eval r₁ env)) (hd : HX g A R V s₀ d (eval r₂ env)) :
    HX g A R V s₀ (.cmp2 op₁ op₂ a b d) (eval (.Compare l [op₁, op₂] [r₁, r₂] p) env) := fun H s Q E S m q => by
  dsimp only [x_lit, x_var, x_bin, x_neg, x_not, x_ao, x_ite, x_cmp, x_cmp2, x_sub, x_slice, x_glob, x_call, x_prim, x_bm, x_isi, x_list, x_tup, x_new, x_dict0, x_dict1, x_attr, x_meth, x_comp] at q
  rw [arm_eval_Compare, markedEach_of_false _ _ _ hm]
  refine wpAny_bind (wpAny_mono (ha H s _ E S m q) (fun u s₁ z => ?_) fun _ _ z => z)
  obtain ⟨au, H₁, hu, S₁, m₁, q₁⟩ := z
  refine chain2 (wpAny_mono (hb H₁ s₁ _ E S₁ m₁ q₁) (fun v s₂ z => ?_) fun _ _ z => z)
  obtain ⟨av, H₂, hv, S₂, m₂, q₂⟩ := z
  refine wpAny_mono (s_cmp C ev hu hv S₂ m₂ q₂) (fun c s₃ z => ?_) fun _ _ z => z
  obtain ⟨ac, H₃, hc, S₃, m₃, q₃⟩ := z
  refine wpAny_mono (s_truth (Qb := fun t H => if t then wpX g d V (fun z H => wcmp op₂ av z Q H) E H else Q ac H) hc S₃ m₃ q₃) (fun t s₄ z => ?_) fun _ _ z => z
  obtain ⟨H₄, S₄, m₄, q₄⟩ := z
  cases t with
  | false => exact TQ.pure hc S₄ m₄ q₄
  | true =>
    refine wpAny_mono (hd H₄ s₄ _ E S₄ m₄ q₄) (fun w s₅ z => ?_) fun _ _ z => z
    obtain ⟨aw, H₅, hw, S₅, m₅, q₅⟩ := z
    exact s_cmp C ev hv hw S₅ m₅ q₅
set_option tactic.hygienic false in
theorem ht_cmp2 {op₁ op₂ : CmpOp} {a b d : X} {l r₁ r₂ : PySem.Expr} {p : Pos} {whole : Sem Value} (C : g.c.Ok mg mb) (ev : Ev g A R e₀ l₀) (hm : lastMarks [op₁, op₂] [r₁, r₂] = false)
    (ha : HX g A R V s₀ a (eval l env)) (hb : HX g A R V s₀ b (eval r₁ env)) (hd : HX g A R V s₀ d (eval r₂ env)) :
    HT g A R V s₀ (.cmp2 op₁ op₂ a b d) (isTrue (.Compare l [op₁, op₂] [r₁, r₂] p) env whole) := fun H s Q E S m q => by
  dsimp only [x_lit, x_var, x_bin, x_neg, x_not, x_ao, x_ite, x_cmp, x_cmp2, x_sub, x_slice, x_glob, x_call, x_prim, x_bm, x_isi, x_list, x_tup, x_new, x_dict0, x_dict1, x_attr, x_meth, x_comp] at q
  rw [arm_isTrue_Compare, markedEach_of_false _ _ _ hm]
  refine wpAny_bind (wpAny_mono (ha H s _ E S m q) (fun u s₁ z => ?_) fun _ _ z => z)
  obtain ⟨au, H₁, hu, S₁, m₁, q₁⟩ := z
  refine test2 (wpAny_mono (hb H₁ s₁ _ E S₁ m₁ q₁) (fun v s₂ z => ?_) fun _ _ z => z)
  obtain ⟨av, H₂, hv, S₂, m₂, q₂⟩ := z
  refine wpAny_mono (s_cmp C ev hu hv S₂ m₂ q₂) (fun c s₃ z => ?_) fun _ _ z => z
  obtain ⟨ac, H₃, hc, S₃, m₃, q₃⟩ := z
  refine wpAny_mono (s_truthT (Q := fun ac t H => if t then wpX g d V (fun z H => wcmp op₂ av z (fun v H => wtruth v H fun b => Q v b H) H) E H else wtruth ac H fun b => Q ac b H) hc S₃ m₃ q₃) (fun t s₄ z => ?_) fun _ _ z => z
  obtain ⟨ac', H₄, S₄, m₄, q₄, hb4⟩ := z
  cases t with
  | false =>
    simp only [Bool.false_eq_true, if_false] at q₄ ⊢
    exact ⟨ac', H₄, S₄, m₄, hb4 _ q₄, hb4⟩
  | true =>
    simp only [if_true] at q₄ ⊢
    refine wpAny_mono (hd H₄ s₄ _ E S₄ m₄ q₄) (fun w s₅ z => ?_) fun _ _ z => z
    obtain ⟨aw, H₅, hw, S₅, m₅, q₅⟩ := z
    refine wpAny_mono (s_cmp C ev hv hw S₅ m₅ q₅) (fun c' s₆ z => ?_) fun _ _ z => z
    obtain ⟨ac'', H₆, hc'', S₆, m₆, q₆⟩ := z
    exact s_truthT hc'' S₆ m₆ q₆

inductive Each (P : X → PySem.Expr → Prop) : List X → List PySem.Expr → Prop
  | nil : Each P [] []
  | cons {x e xs es} : P x e → Each P xs es → Each P (x :: xs) (e :: es)

set_option tactic.hygienic false in
theorem hx_ao {isAnd : Bool} {p : Pos} : ∀ {xs : List X} {es : List PySem.Expr}, Each (fun x e => HX g A R V s₀ x (eval e env)) xs es → HX g A R V s₀ (.ao isAnd xs) (boolOp p (if isAnd then .And else .Or) (evalEach es env))
  | _, _, .nil => fun H s Q E S m q => q.elim
  | [x], [e], .cons hx .nil => fun H s Q E S m q => by
    dsimp only [x_lit, x_var, x_bin, x_neg, x_not, x_ao, x_ite, x_cmp, x_cmp2, x_sub, x_slice, x_glob, x_call, x_prim, x_bm, x_isi, x_list, x_tup, x_new, x_dict0, x_dict1, x_attr, x_meth, x_comp, ao_one, ao_cons] at q
    show wpAny _ _ (eval e env) _ _ _
    exact hx H s Q E S m q
  | x :: y :: xs, e :: f :: es, .cons hx (.cons hy r) => fun H s Q E S m q => by
    have ih := hx_ao (isAnd := isAnd) (p := p) (.cons hy r)
    dsimp only [x_lit, x_var, x_bin, x_neg, x_not, x_ao, x_ite, x_cmp, x_cmp2, x_sub, x_slice, x_glob, x_call, x_prim, x_bm, x_isi, x_list, x_tup, x_new, x_dict0, x_dict1, x_attr, x_meth, x_comp] at q ih
    rw [ao_cons] at q
    show wpAny _ _ (do
      let v ← eval e env
      standAt p
      let t ← holding [v] (truthy v)
      match (if isAnd then PySem.BoolOp.And else PySem.BoolOp.Or), t with
      | .And, false | .Or, true => pure v
      | _, _ => boolOp p (if isAnd then .And else .Or) (evalEach (f :: es) env)) _ _ _
    refine wpAny_bind (wpAny_mono (hx H s _ E S m q) (fun v s₁ z => ?_) fun _ _ z => z)
    obtain ⟨av, H₁, hv, S₁, m₁, q₁⟩ := z
    refine wpAny_bind (wpAny_standAt (wpAny_bind (wpAny_holding (wpAny_mono (s_truth (Qb := fun b H => if b = isAnd then wpAO g isAnd (y :: xs) V Q E H else Q av H) hv S₁ m₁ q₁) (fun t s₂ z => ?_) fun _ _ z => z))))
    obtain ⟨H₂, S₂, m₂, q₂⟩ := z
    have ih' := ih H₂ s₂ Q E S₂ m₂
    dsimp only [x_lit, x_var, x_bin, x_neg, x_not, x_ao, x_ite, x_cmp, x_cmp2, x_sub, x_slice, x_glob, x_call, x_prim, x_bm, x_isi, x_list, x_tup, x_new, x_dict0, x_dict1, x_attr, x_meth, x_comp] at ih'
    cases isAnd <;> cases t <;> simp only [Bool.false_eq_true, if_false, if_true, reduceIte] at q₂ ih' ⊢
    · exact ih' q₂
    · exact wpAny_pure (TQ.pure hv S₂ m₂ q₂)
    · exact wpAny_pure (TQ.pure hv S₂ m₂ q₂)
    · exact ih' q₂

set_option tactic.hygienic false in
theorem ht_ao {isAnd : Bool} : ∀ {xs : List X} {es : List PySem.Expr}, Each (fun x e => HT g A R V s₀ x (isTrue e env (eval e env))) xs es → HT g A R V s₀ (.ao isAnd xs) (allTrue (if isAnd then .And else .Or) es env)
  | _, _, .nil => fun H s Q E S m q => q.elim
  | [x], [e], .cons hx .nil => fun H s Q E S m q => by
    dsimp only [x_lit, x_var, x_bin, x_neg, x_not, x_ao, x_ite, x_cmp, x_cmp2, x_sub, x_slice, x_glob, x_call, x_prim, x_bm, x_isi, x_list, x_tup, x_new, x_dict0, x_dict1, x_attr, x_meth, x_comp, ao_one, ao_cons] at q
    rw [arm_allTrue_cons]
    refine wpAny_bind (wpAny_mono (hx H s Q E S m q) (fun t s₁ z => ?_) fun _ _ z => z)
    cases isAnd <;> cases t <;> exact wpAny_pure z
  | x :: y :: xs, e :: f :: es, .cons hx (.cons hy r) => fun H s Q E S m q => by
    have ih := ht_ao (isAnd := isAnd) (.cons hy r)
    dsimp only [x_lit, x_var, x_bin, x_neg, x_not, x_ao, x_ite, x_cmp, x_cmp2, x_sub, x_slice, x_glob, x_call, x_prim, x_bm, x_isi, x_list, x_tup, x_new, x_dict0, x_dict1, x_attr, x_meth, x_comp] at q
    rw [ao_cons] at q
    rw [arm_allTrue_cons]
    refine wpAny_bind (wpAny_mono (hx H s (fun v b H => if b = isAnd then wpAO g isAnd (y :: xs) V (fun v H => wtruth v H fun b => Q v b H) E H else wtruth v H fun b => Q v b H) E S m q) (fun t s₁ z => ?_) fun _ _ z => z)
    obtain ⟨v, H₁, S₁, m₁, q₁, hb⟩ := z
    have ih' := ih H₁ s₁ Q E S₁ m₁
    dsimp only [x_lit, x_var, x_bin, x_neg, x_not, x_ao, x_ite, x_cmp, x_cmp2, x_sub, x_slice, x_glob, x_call, x_prim, x_bm, x_isi, x_list, x_tup, x_new, x_dict0, x_dict1, x_attr, x_meth, x_comp] at ih'
    cases isAnd <;> cases t <;> simp only [Bool.false_eq_true, if_false, if_true, reduceIte] at q₁ ih' ⊢
    · exact ih' q₁
    · exact wpAny_pure ⟨v, H₁, S₁, m₁, hb (fun b => Q v b H₁) q₁, hb⟩
    · exact wpAny_pure ⟨v, H₁, S₁, m₁, hb (fun b => Q v b H₁) q₁, hb⟩
    · exact ih' q₁
end
end Mine

end
section
open PySem PySem.W PyProof.Rows PySem.Spec PySem.SeqAt PySem.Calls
namespace Mine

noncomputable def noStar : PySem.Expr → Bool
  | .Starred .. => false
  | _ => true
theorem mtX_noStar {P : Pg} {top : Bool} {sc : Scope} {nm : List Str} {x : X} {e : PySem.Expr} (h : mtX P top sc nm x e = true) : noStar e = true := by
  cases e <;> first | rfl | (exfalso; cases x <;> first | (cases h; done) | (rename_i a b t c d; replace h : mComp top t b sc nm _ _ _ _ = true := h; unfold mComp at h; simp at h; done))
set_option tactic.hygienic false in
theorem starEach_plain {e : PySem.Expr} {r : List PySem.Expr} {env : Env} (h : noStar e = true) : starEach (e :: r) env = (false, eval e env) :: starEach r env := by
  cases e <;> first | rfl | cases h
theorem backTo_cons {pos : Pos} {t : Sem Value} {r : List (Bool × Sem Value)} : backTo pos ((false, t) :: r) = (false, t) :: backTo pos r := rfl

section
variable {g : Gx} {A : Around} {R : RR} {V : VV} {s₀ : Shared} {env : Env} {mg mb : Str → Option Value} {e₀ : Env} {l₀ : List Env}

abbrev EachX (g : Gx) (A : Around) (R : RR) (V : VV) (s₀ : Shared) (env : Env) : List X → List PySem.Expr → Prop := Each (fun x e => HX g A R V s₀ x (eval e env) ∧ noStar e = true)

set_option tactic.hygienic false in
theorem hxs {pos : Pos} : ∀ {xs : List X} {es : List PySem.Expr}, EachX g A R V s₀ env xs es → HXs g A R V s₀ xs (spliced (backTo pos (starEach es env)))
  | _, _, .nil => fun H s Q E S m q => by
    simp only [xs_nil, xs_cons] at q
    exact spliced_nil ⟨[], H, .nil, S, m, q⟩
  | _, _, .cons hx r => fun H s Q E S m q => by
    dsimp only [xs_nil, xs_cons] at q
    rw [starEach_plain hx.2, backTo_cons]
    refine spliced_cons (wpAny_mono (hx.1 H s _ E S m q) (fun v s₁ z => ?_) fun _ _ z => z)
    obtain ⟨av, H₁, hv, S₁, m₁, q₁⟩ := z
    refine wpAny_mono (hxs r H₁ s₁ _ E S₁ m₁ q₁) (fun vs s₂ z => ?_) fun _ _ z => z
    obtain ⟨as, H₂, hvs, S₂, m₂, q₂⟩ := z
    exact ⟨av :: as, H₂, .cons hv hvs, S₂, m₂, q₂⟩

set_option tactic.hygienic false in
theorem each_plain {pos : Pos} : ∀ {xs : List X} {es : List PySem.Expr}, EachX g A R V s₀ env xs es → (backTo pos (starEach es env)).any (·.1) = false
  | _, _, .nil => rfl
  | _, _, .cons hx r => by
    rw [starEach_plain hx.2, backTo_cons, List.any_cons, each_plain r]; rfl

set_option tactic.hygienic false in
theorem args_of {pos : Pos} {f : Value} {xs : List X} {es : List PySem.Expr} {H : AHeap} {s : Shared} {Q' : List AV → AHeap → Prop} {E : String → AHeap → Prop} {Q : Args → Shared → Prop} (hx : EachX g A R V s₀ env xs es) (S : St g.c R H s.heap) (m : Sm s₀ s)
    (q : wpXs g xs V Q' E H) (k : ∀ as vs H' s', VRs as vs → St g.c R H' s'.heap → Sm s₀ s' → Q' as H' → Q ⟨vs, []⟩ s') :
    wpAny (model g.c.prog g.c.w) A (evalArgs f true (backTo pos (starEach es env)) []) Q (TE g R s₀ E) s := by
  have z := hxs (pos := pos) hx H s Q' E S m q
  cases hx with
  | nil =>
    simp only [xs_nil, xs_cons] at q
    exact evalArgs_nil3 (k [] [] H s .nil S m q)
  | cons hx r =>
    rw [starEach_plain hx.2, backTo_cons] at z ⊢
    refine evalArgs_plain (wpAny_mono z (fun vs s' z => ?_) fun _ _ z => z)
    obtain ⟨as, H', h1, h2, h3, h4⟩ := z
    exact k as vs H' s' h1 h2 h3 h4

theorem cw_ref {pos : Pos} {f : Addr} {first : List Value} {xs : List X} {es : List PySem.Expr} {H : AHeap} {s : Shared} {Q' : List AV → AHeap → Prop} {E : String → AHeap → Prop} {Q : Value → Shared → Prop} (C : g.c.Ok mg mb) (hk : keepIn g.c.K (.ref f) = true)
    (hx : EachX g A R V s₀ env xs es) (S : St g.c R H s.heap) (m : Sm s₀ s) (q : wpXs g xs V Q' E H)
    (k : ∀ as vs H' s', VRs as vs → St g.c R H' s'.heap → Sm s₀ s' → Q' as H' → wpAny (model g.c.prog g.c.w) A (call (.ref f) (first ++ vs)) Q (TE g R s₀ E) s') :
    wpAny (model g.c.prog g.c.w) A (callWith pos (.ref f) first (backTo pos (starEach es env)) []) Q (TE g R s₀ E) s :=
  callWith_of (P := fun h => g.c.K.In h) (by rw [each_plain hx]; rfl) (keeps_K hk) (args_of hx S m q fun as vs H' s' h1 h2 h3 h4 => ⟨C.kin.keeps h2.stays, k as vs H' s' h1 h2 h3 h4⟩)
set_option tactic.hygienic false in
theorem cw_prim {pos : Pos} {f : Value} {first : List Value} {xs : List X} {es : List PySem.Expr} {H : AHeap} {s : Shared} {Q' : List AV → AHeap → Prop} {E : String → AHeap → Prop} {Q : Value → Shared → Prop} (hf : (∃ i, f = .builtin i) ∨ ∃ i, f = .type i)
    (hx : EachX g A R V s₀ env xs es) (S : St g.c R H s.heap) (m : Sm s₀ s) (q : wpXs g xs V Q' E H)
    (k : ∀ as vs H' s', VRs as vs → St g.c R H' s'.heap → Sm s₀ s' → Q' as H' → wpAny (model g.c.prog g.c.w) A (call f (first ++ vs)) Q (TE g R s₀ E) s') :
    wpAny (model g.c.prog g.c.w) A (callWith pos f first (backTo pos (starEach es env)) []) Q (TE g R s₀ E) s := by
  rcases hf with ⟨i, rfl⟩ | ⟨i, rfl⟩
  · exact Calls.callWith_builtin (each_plain hx) (args_of hx S m q k)
  · exact PyProof.Rows.callWith_type (each_plain hx) (args_of hx S m q k)

set_option tactic.hygienic false in
theorem nameIs_name {sc : Scope} {n : String} {e : PySem.Expr} (h : nameIs sc n e = true) : ∃ id p, e = .Name id p := by
  unfold nameIs at h
  split at h
  · exact ⟨_, _, rfl⟩
  · cases h

set_option tactic.hygienic false in
theorem callOK_at {f : String} {as : List AV} {vs : List Value} {H : AHeap} {s : Shared} {Q : AV → AHeap → Prop} {E : String → AHeap → Prop} (ev : Ev g A R e₀ l₀) (hv : VRs as vs) (S : St g.c R H s.heap) (m : Sm s₀ s)
    (q : CallOK g.c g.n g.md f as Q E H) : wpAny (model g.c.prog g.c.w) A (call (.ref (g.c.fa f)) vs) (TQ g R s₀ Q) (TE g R s₀ E) s := by
  refine wpAny_call (q A (e₀ :: l₀) R s vs _ ⟨ev.aok.frames, by have := ev.aok.depth; omega, by have := ev.aok.units; omega, ev.aok.hand⟩ ev.stk S hv ?_ ?_)
  · exact fun av v s' H' h1 h2 h3 h4 => ⟨av, H', h1, h2, m.trans h3, h4⟩
  · exact fun e cl s' H' h1 h2 h3 => ⟨e, cl, H', rfl, h1, m.trans h2, h3⟩

set_option tactic.hygienic false in
theorem hx_call {sc : Scope} {nm : List Str} {f : String} {fe : PySem.Expr} {args : List PySem.Expr} {xs : List X} {pos : Pos} (C : g.c.Ok mg mb) (PO : PgOk g.c) (ev : Ev g A R e₀ l₀) (fr : Frm R env sc nm V) (hn : nameIs sc f fe = true)
    (hg : g.c.P.gfns.contains f = true) (hx : EachX g A R V s₀ env xs args) : HX g A R V s₀ (.call f xs) (eval (.Call fe args [] pos) env) := fun H s Q E S m q => by
  dsimp only [x_lit, x_var, x_bin, x_neg, x_not, x_ao, x_ite, x_cmp, x_cmp2, x_sub, x_slice, x_glob, x_call, x_prim, x_bm, x_isi, x_list, x_tup, x_new, x_dict0, x_dict1, x_attr, x_meth, x_comp] at q
  obtain ⟨h1, h2⟩ := PO.fn f hg
  obtain ⟨id, p, rfl⟩ := nameIs_name hn
  refine wpAny_Call_NameR (glob_K C fr S hn h1 ?_)
  refine cw_ref C h2 hx S m q fun as vs H' s' k1 k2 k3 k4 => ?_
  exact callOK_at ev k1 k2 k3 k4

set_option tactic.hygienic false in
theorem hx_prim {sc : Scope} {nm : List Str} {f : Pr} {fe : PySem.Expr} {args : List PySem.Expr} {xs : List X} {pos : Pos} (C : g.c.Ok mg mb) (PO : PgOk g.c) (ev : Ev g A R e₀ l₀) (fr : Frm R env sc nm V) (hn : nameIs sc f.str fe = true)
    (hg : g.c.P.prims.contains f.str = true) (hx : EachX g A R V s₀ env xs args) : HX g A R V s₀ (.prim f xs) (eval (.Call fe args [] pos) env) := fun H s Q E S m q => by
  dsimp only [x_lit, x_var, x_bin, x_neg, x_not, x_ao, x_ite, x_cmp, x_cmp2, x_sub, x_slice, x_glob, x_call, x_prim, x_bm, x_isi, x_list, x_tup, x_new, x_dict0, x_dict1, x_attr, x_meth, x_comp] at q
  obtain ⟨h1, h2, h3⟩ := PO.prim f.str hg
  rw [primValS_str] at h3
  obtain ⟨id, p, rfl⟩ := nameIs_name hn
  refine wpAny_Call_NameR (glob_B C fr S hn h1 h2 h3 ?_)
  exact cw_prim (primVal_is f) hx S m q fun as vs H' s' k1 k2 k3 k4 => s_prim C ev k1 k2 k3 k4

theorem hx_isT {sc : Scope} {nm : List Str} {ty : String} {fe t x : PySem.Expr} {a : X} {pos : Pos} (C : g.c.Ok mg mb) (PO : PgOk g.c) (fr : Frm R env sc nm V) (hn : nameIs sc "isinstance" fe = true) (hg : g.c.P.prims.contains "isinstance" = true)
    (ht : g.c.P.prims.contains ty = true) (hn' : nameIs sc ty t = true) (hty : ty = "int" ∨ ty = "bool" ∨ ty = "str" ∨ ty = "list") (hx : HX g A R V s₀ a (eval x env)) (hs : noStar x = true) :
    HX g A R V s₀ (.isinst a ty) (eval (.Call fe [x, t] [] pos) env) := fun H s Q E S m q => by
  dsimp only [x_lit, x_var, x_bin, x_neg, x_not, x_ao, x_ite, x_cmp, x_cmp2, x_sub, x_slice, x_glob, x_call, x_prim, x_bm, x_isi, x_list, x_tup, x_new, x_dict0, x_dict1, x_attr, x_meth, x_comp] at q
  obtain ⟨h1, h2, h3⟩ := PO.prim _ hg
  obtain ⟨k1, k2, k3⟩ := PO.prim _ ht
  obtain ⟨id, p, rfl⟩ := nameIs_name hn
  obtain ⟨id', p', rfl⟩ := nameIs_name hn'
  refine wpAny_Call_NameR (glob_B C fr S hn h1 h2 h3 ?_)
  refine Calls.callWith_builtin (by rw [starEach_plain hs, starEach_plain rfl]; rfl) ?_
  rw [starEach_plain hs, backTo_cons, starEach_plain rfl, backTo_cons]
  refine evalArgs_plain (spliced_cons (wpAny_mono (hx H s _ E S m q) (fun v s₁ z => ?_) fun _ _ z => z))
  obtain ⟨av, H₁, hv, S₁, m₁, q₁⟩ := z
  refine spliced_cons (glob_B C fr S₁ hn' k1 k2 k3 (spliced_nil ?_))
  have hp : primValS ty = .type ty := by rcases hty with rfl | rfl | rfl | rfl <;> rfl
  rw [hp]
  split at q₁
  · rename_i b hb
    unfold isinstV at hb
    rw [if_pos hty] at hb
    obtain ⟨k, e1, e2⟩ := Option.map_eq_some_iff.mp hb
    exact s_isT hv S₁ m₁ e1 hty e2 q₁
  · exact q₁.elim

set_option tactic.hygienic false in
theorem hx_sub {a i : X} {v sl : PySem.Expr} {pos : Pos} (C : g.c.Ok mg mb) (hns : noSlice sl = true) (ha : HX g A R V s₀ a (eval v env)) (hi : HX g A R V s₀ i (eval sl env)) : HX g A R V s₀ (.sub a i) (eval (.Subscript v sl pos) env) :=
  fun H s Q E S m q => by
  dsimp only [x_lit, x_var, x_bin, x_neg, x_not, x_ao, x_ite, x_cmp, x_cmp2, x_sub, x_slice, x_glob, x_call, x_prim, x_bm, x_isi, x_list, x_tup, x_new, x_dict0, x_dict1, x_attr, x_meth, x_comp] at q
  refine Subscript_ (wpAny_mono (ha H s _ E S m q) (fun u s₁ z => ?_) fun _ _ z => z)
  obtain ⟨au, H₁, hu, S₁, m₁, q₁⟩ := z
  refine wpAny_mono (hi H₁ s₁ _ E S₁ m₁ q₁) (fun w s₂ z => ?_) fun _ _ z => z
  obtain ⟨aw, H₂, hw, S₂, m₂, q₂⟩ := z
  exact s_sub C hu hw S₂ m₂ q₂ (by intro o j; cases sl <;> first | rfl | cases hns)

noncomputable def HO (g : Gx) (A : Around) (R : RR) (V : VV) (s₀ : Shared) (env : Env) : Option X → Option PySem.Expr → Prop
  | none, none => True
  | some x, some e => HX g A R V s₀ x (eval e env)
  | _, _ => False
set_option tactic.hygienic false in
theorem ho_at {o : Option X} {oe : Option PySem.Expr} {H : AHeap} {s : Shared} {Q : Option AV → AHeap → Prop} {E : String → AHeap → Prop} (h : HO g A R V s₀ env o oe) (S : St g.c R H s.heap) (m : Sm s₀ s) (q : wpO g o V Q E H) :
    wpAny (model g.c.prog g.c.w) A (valueOrNone (evalOpt oe env)) (fun v s' => ∃ a H', ((a = none ∧ v = .none) ∨ ∃ x, a = some x ∧ VR x v) ∧ St g.c R H' s'.heap ∧ Sm s₀ s' ∧ Q a H') (TE g R s₀ E) s := by
  cases o with
  | none => cases oe with
    | none => exact wpAny_pure ⟨none, H, .inl ⟨rfl, rfl⟩, S, m, q⟩
    | some => exact h.elim
  | some x => cases oe with
    | none => exact h.elim
    | some e =>
      rw [xo_some] at q
      refine wpAny_mono (h H s _ E S m q) (fun v s' z => ?_) fun _ _ z => z
      obtain ⟨a, H', hv, S', m', q'⟩ := z
      exact ⟨some a, H', .inr ⟨a, rfl, hv⟩, S', m', q'⟩

set_option tactic.hygienic false in
theorem hx_slice {a : X} {lo hi st : Option X} {v : PySem.Expr} {l u t : Option PySem.Expr} {p pos : Pos} (ha : HX g A R V s₀ a (eval v env)) (hl : HO g A R V s₀ env lo l) (hu : HO g A R V s₀ env hi u) (ht : HO g A R V s₀ env st t) :
    HX g A R V s₀ (.slice a lo hi st) (eval (.Subscript v (.Slice l u t p) pos) env) := fun H s Q E S m q => by
  dsimp only [x_lit, x_var, x_bin, x_neg, x_not, x_ao, x_ite, x_cmp, x_cmp2, x_sub, x_slice, x_glob, x_call, x_prim, x_bm, x_isi, x_list, x_tup, x_new, x_dict0, x_dict1, x_attr, x_meth, x_comp] at q
  refine Subscript_ (wpAny_mono (ha H s _ E S m q) (fun o s₁ z => ?_) fun _ _ z => z)
  obtain ⟨ao, H₁, ho, S₁, m₁, q₁⟩ := z
  rw [arm_eval_Slice]
  refine wpAny_bind (wpAny_mono (ho_at hl S₁ m₁ q₁) (fun vl s₂ z => ?_) fun _ _ z => z)
  obtain ⟨al, H₂, hvl, S₂, m₂, q₂⟩ := z
  refine wpAny_bind (wpAny_holding (wpAny_mono (ho_at hu S₂ m₂ q₂) (fun vu s₃ z => ?_) fun _ _ z => z))
  obtain ⟨au, H₃, hvu, S₃, m₃, q₃⟩ := z
  refine wpAny_bind (wpAny_holding (wpAny_mono (ho_at ht S₃ m₃ q₃) (fun vt s₄ z => ?_) fun _ _ z => z))
  obtain ⟨at', H₄, hvt, S₄, m₄, q₄⟩ := z
  unfold newFields
  refine wpAny_newObj_type ?_ (by show (3:Nat) ≤ sizeLine + 2; exact Nat.le_of_ble_eq_true (by rfl))
  exact s_slice ho hvl hvu hvt S₄ m₄ q₄

set_option tactic.hygienic false in
theorem handed_of {a : AV} {v : Value} (h : VR a v) : handedIn v = true := by cases h <;> rfl

set_option tactic.hygienic false in
theorem ofString_inj {a b : String} (h : Str.ofString a = Str.ofString b) : a = b := by
  rw [Str.ofString_eq_toList, Str.ofString_eq_toList] at h
  have h1 := congrArg (fun x : Str => x.cps.toList) h
  dsimp only [List.toList_toArray] at h1
  have h2 := (List.map_inj_right (f := Char.toNat) fun x y e => Char.ext (UInt32.toNat_inj.mp e)).mp h1
  exact String.ext h2

set_option tactic.hygienic false in
theorem attrs_find {n : String} : ∀ {es : List (String × AV)} {ents : List DictEntry}, attrsAre es ents → OVR (lookA es n) ((ents.find? (·.key.isStr (Str.ofString n))).map (·.val)) ∧ (ents.any (·.refKey)) = false
  | [], [], _ => ⟨.none, rfl⟩
  | (n', a) :: r, e :: q, h => by
    obtain ⟨⟨t, hk⟩, hv, hr⟩ := h
    obtain ⟨i1, i2⟩ := attrs_find (n := n) hr
    refine ⟨?_, ?_⟩
    · unfold lookA at i1 ⊢
      simp only [List.find?_cons, hk, Value.isStr]
      by_cases z : n' = n
      · subst z; simp; exact .some hv
      · have : (Str.ofString n' == Str.ofString n) = false := by
          apply beq_eq_false_iff_ne.mpr
          intro w
          exact z (ofString_inj w)
        simp only [this, z]; exact i1
    · rw [List.any_cons, i2]
      simp [DictEntry.refKey, hk]
  | [], _ :: _, h => h.elim
  | _ :: _, [], h => h.elim

set_option tactic.hygienic false in
theorem attr_base {v : PySem.Expr} {at' : Str} (hb : baseOk v = true) : attributeBase v at' env (eval v env) = eval v env := by
  unfold attributeBase
  split
  · cases hb
  · rfl

theorem hx_attr {a : X} {n : String} {v : PySem.Expr} {pos : Pos} (C : g.c.Ok mg mb) (PO : PgOk g.c) (hb : baseOk v = true) (ha : HX g A R V s₀ a (eval v env)) : HX g A R V s₀ (.attr a n) (eval (.Attribute v (Str.ofString n) pos) env) :=
  fun H s Q E S m q => by
  dsimp only [x_lit, x_var, x_bin, x_neg, x_not, x_ao, x_ite, x_cmp, x_cmp2, x_sub, x_slice, x_glob, x_call, x_prim, x_bm, x_isi, x_list, x_tup, x_new, x_dict0, x_dict1, x_attr, x_meth, x_comp] at q
  rw [arm_eval_Attribute, attr_base hb]
  refine wpAny_bind (wpAny_mono (ha H s _ E S m q) (fun o s₁ z => ?_) fun _ _ z => z)
  obtain ⟨ao, H₁, ho, S₁, m₁, q₁⟩ := z
  refine wpAny_bind (wpAny_standAt (wpAny_bind (wpAny_holding ?_)))
  split at q₁
  · rename_i p
    cases ho
    split at q₁
    · rename_i cl es e
      obtain ⟨hat, q₁⟩ := q₁
      obtain ⟨c1, c2, c3, _⟩ := PO.attr cl n hat
      obtain ⟨d, ents, k, x1, x2, x3, x4, _⟩ := S₁.setAttr e
      obtain ⟨f1, f2⟩ := attrs_find (n := n) x3
      have I : InstAt s₁.heap p (instObj (g.c.ca cl) d) (g.c.ca cl) (some (dictOf ents k)) := ⟨x1, rfl, rfl, x2⟩
      split at q₁
      · rename_i w hw
        rw [hw] at f1
        generalize hf : (ents.find? (·.key.isStr (Str.ofString n))) = fe at f1
        cases fe with
        | none => cases f1
        | some en =>
          cases f1 with
          | some hv =>
            refine get_value (v := en.val) (C.kin.keeps S₁.stays) I (plainGet_of c1).1 (findObj_own c2 c3 rfl ?_) ?_ ?_
            · rw [lookIn_dict]; unfold getL; rw [hf]
            · exact handed_of hv
            · exact wpAny_bind (wpAny_letTemporaryGo (wpAny_pure (TQ.toks hv S₁ m₁ q₁)))
      · exact q₁.elim
    · rename_i B e
      obtain ⟨rfl, hat, q₁⟩ := q₁
      obtain ⟨c1, c2, c3, _⟩ := PO.attr "Book" "day" hat
      obtain ⟨f, sa, pa, d, ents, k, x1, x2, x3⟩ := S₁.bookAttr e
      obtain ⟨f1, f2⟩ := attrs_find (n := "day") x3
      have I : InstAt s₁.heap p (instObj (g.c.ca "Book") d) (g.c.ca "Book") (some (dictOf ents k)) := ⟨x1, rfl, rfl, x2⟩
      rw [show lookA [("day", AV.int B.day), ("free", .ref f), ("aside", .ref sa), ("pacts", .ref pa)] "day" = some (.int B.day) from rfl] at f1
      generalize hf : (ents.find? (·.key.isStr (Str.ofString "day"))) = fe at f1
      cases fe with
      | none => cases f1
      | some en =>
        cases f1 with
        | some hv =>
          refine get_value (v := en.val) (C.kin.keeps S₁.stays) I (plainGet_of c1).1 (findObj_own c2 c3 rfl ?_) ?_ ?_
          · rw [lookIn_dict]; unfold getL; rw [hf]
          · exact handed_of hv
          · exact wpAny_bind (wpAny_letTemporaryGo (wpAny_pure (TQ.toks hv S₁ m₁ q₁)))
    · exact q₁.elim
  · exact q₁.elim
end
end Mine

end
section
open PySem PySem.W PyProof.Rows PySem.Spec PySem.SeqAt PySem.Calls
namespace Mine

section
variable {g : Gx} {A : Around} {R : RR} {V : VV} {s₀ : Shared} {env : Env} {mg mb : Str → Option Value} {e₀ : Env} {l₀ : List Env}

set_option tactic.hygienic false in
theorem hxsL {pos : Pos} : ∀ {xs : List X} {es : List PySem.Expr}, EachX g A R V s₀ env xs es → ∀ (H : AHeap) (s : Shared) (Q : List AV → AHeap → Prop) (E : String → AHeap → Prop), St g.c R H s.heap → Sm s₀ s → wpXs g xs V Q E H →
    wpAny (model g.c.prog g.c.w) A (spliced (backTo pos (starEach es env))) (fun vs s' => vs.length = es.length ∧ TQs g R s₀ Q vs s') (TE g R s₀ E) s
  | _, _, .nil => fun H s Q E S m q => by
    dsimp only [xs_nil, xs_cons] at q
    exact spliced_nil ⟨rfl, [], H, .nil, S, m, q⟩
  | _, _, .cons hx r => fun H s Q E S m q => by
    dsimp only [xs_nil, xs_cons] at q
    rw [starEach_plain hx.2, backTo_cons]
    refine spliced_cons (wpAny_mono (hx.1 H s _ E S m q) (fun v s₁ z => ?_) fun _ _ z => z)
    obtain ⟨av, H₁, hv, S₁, m₁, q₁⟩ := z
    refine wpAny_mono (hxsL r H₁ s₁ _ E S₁ m₁ q₁) (fun vs s₂ z => ?_) fun _ _ z => z
    obtain ⟨hl, as, H₂, hvs, S₂, m₂, q₂⟩ := z
    exact ⟨by simp [hl], av :: as, H₂, .cons hv hvs, S₂, m₂, q₂⟩

set_option tactic.hygienic false in
theorem hx_list {xs : List X} {es : List PySem.Expr} {pos : Pos} (hx : EachX g A R V s₀ env xs es) (hl : es.length < 1000) : HX g A R V s₀ (.list xs) (eval (.List es pos) env) := fun H s Q E S m q => by
  dsimp only [x_lit, x_var, x_bin, x_neg, x_not, x_ao, x_ite, x_cmp, x_cmp2, x_sub, x_slice, x_glob, x_call, x_prim, x_bm, x_isi, x_list, x_tup, x_new, x_dict0, x_dict1, x_attr, x_meth, x_comp] at q
  refine wpAny_List (wpAny_mono (hxsL hx H s _ E S m q) (fun vs s₁ z => ?_) fun _ _ z => z)
  obtain ⟨hn, as, H₁, hv, S₁, m₁, q₁⟩ := z
  refine ⟨by rw [hn]; unfold sizeLine; omega, ?_⟩
  obtain ⟨e, S'⟩ := S₁.newObj (o := .list as) (Nat.le_refl _) (fun _ _ z => Heap.get?_push_of_some _ z) (by rw [Heap.size_push]; omega) (by intro _ _ z; cases z) (fun D => ⟨vs, 0, Heap.get?_push_size _ rfl, hv⟩)
  exact ⟨_, _, .ref _, S', m₁.heap _, q₁ _ e⟩

set_option tactic.hygienic false in
theorem hx_tuple {xs : List X} {es : List PySem.Expr} {k : Nat} {pos : Pos} (hx : EachX g A R V s₀ env xs es) (hl : es.length < 1000) : HX g A R V s₀ (.tuple xs) (eval (.Tuple es k pos) env) := fun H s Q E S m q => by
  dsimp only [x_lit, x_var, x_bin, x_neg, x_not, x_ao, x_ite, x_cmp, x_cmp2, x_sub, x_slice, x_glob, x_call, x_prim, x_bm, x_isi, x_list, x_tup, x_new, x_dict0, x_dict1, x_attr, x_meth, x_comp] at q
  refine wpAny_Tuple (wpAny_mono (hxsL hx H s _ E S m q) (fun vs s₁ z => ?_) fun _ _ z => z)
  obtain ⟨hn, as, H₁, hv, S₁, m₁, q₁⟩ := z
  refine ⟨by rw [hn]; unfold sizeLine; omega, ?_⟩
  obtain ⟨e, S'⟩ := S₁.newObj (o := .tuple as) (Nat.le_refl _) (fun _ _ z => Heap.get?_push_of_some _ z) (by rw [Heap.size_push]; omega) (by intro _ _ z; cases z) (fun D => ⟨vs, 0, Heap.get?_push_size _ rfl, hv⟩)
  exact ⟨_, _, .ref _, S', m₁.heap _, q₁ _ e⟩

set_option tactic.hygienic false in
theorem hx_dict0 {pos : Pos} : HX g A R V s₀ (.dict [] []) (eval (.Dict [] [] pos) env) := fun H s Q E S m q => by
  dsimp only [x_lit, x_var, x_bin, x_neg, x_not, x_ao, x_ite, x_cmp, x_cmp2, x_sub, x_slice, x_glob, x_call, x_prim, x_bm, x_isi, x_list, x_tup, x_new, x_dict0, x_dict1, x_attr, x_meth, x_comp] at q
  refine wpAny_Dict_empty ?_
  obtain ⟨e, S'⟩ := S.newObj (o := .dict 0 []) (h' := s.heap.push { cls := .type "dict", data := .dict #[] }) (Nat.le_refl _) (fun _ _ z => Heap.get?_push_of_some _ z) (by rw [Heap.size_push]; omega) (by intro _ _ z; cases z) (fun D => ⟨[], ⟨_, #[], Heap.get?_push_size _ rfl, ⟨rfl, rfl, rfl⟩, rfl, fun _ h => by simp at h, .nil, List.nodup_nil⟩, .nil⟩)
  · exact ⟨_, _, .ref _, S', m.heap _, q _ e⟩

set_option tactic.hygienic false in
theorem each_all {pos : Pos} : ∀ {xs : List X} {es : List PySem.Expr}, EachX g A R V s₀ env xs es → (backTo pos (starEach es env)).all (fun x => !x.1) = true
  | _, _, .nil => rfl
  | _, _, .cons hx r => by
    rw [starEach_plain hx.2, backTo_cons, List.all_cons, each_all r]; rfl

set_option tactic.hygienic false in
theorem meth_call {M : Model} {E : Value → Shared → Prop} {s : Shared} {o : PySem.Expr} {name : Str} {apos pos : Pos} {args : List PySem.Expr} {Q : Value → Shared → Prop} (hb : baseOk o = true) (hall : (backTo pos (starEach args env)).all (fun x => !x.1) = true)
    (hlen : args.length < 29) (hline : (apos.endLine == pos.line) = true)
    (h : wpAny M A (eval o env) (fun ov s₁ => ∀ pl, wpAny M A (getMethod ov name pl) (fun fx s₂ => wpAny M A (callWith pos fx.1 fx.2 (backTo pos (starEach args env)) []) Q E s₂) E s₁) E s) :
    wpAny M A (eval (.Call (.Attribute o name apos) args [] pos) env) Q E s := by
  rw [arm_eval_Call, attr_base hb]
  refine wpAny_bind (wpAny_mono h (fun ov s₁ h₁ => ?_) fun _ _ e => e)
  refine wpAny_bind (wpAny_standAt ?_)
  have hform : methodCallForm (args.length + ([] : List Keyword).length) (backTo pos (starEach args env)) (backToKw pos (keywordEach [] env)) = true := by
    unfold methodCallForm
    rw [hall]
    simp only [Bool.true_and]
    show (true && decide (args.length + 0 + 0 < 30)) = true
    simp; omega
  have hpos : methodCallPos true o env apos pos = pure pos := by unfold methodCallPos; simp [hline]
  unfold methodCall
  rw [hform]
  refine wpAny_bind (wpAny_holding (wpAny_mono (h₁ _) (fun fx s₂ h₂ => ?_) fun _ _ e => e))
  exact wpAny_bind (wpAny_of_eq hpos h₂)

theorem hx_meth {a : X} {mt : String} {xs : List X} {o : PySem.Expr} {args : List PySem.Expr} {apos pos : Pos} (C : g.c.Ok mg mb) (PO : PgOk g.c) (ev : Ev g A R e₀ l₀) (hb : baseOk o = true) (hline : (apos.endLine == pos.line) = true) (hlen : args.length < 29)
    (ha : HX g A R V s₀ a (eval o env)) (hx : EachX g A R V s₀ env xs args) : HX g A R V s₀ (.meth a mt xs) (eval (.Call (.Attribute o (Str.ofString mt) apos) args [] pos) env) := fun H s Q E S m q => by
  dsimp only [x_lit, x_var, x_bin, x_neg, x_not, x_ao, x_ite, x_cmp, x_cmp2, x_sub, x_slice, x_glob, x_call, x_prim, x_bm, x_isi, x_list, x_tup, x_new, x_dict0, x_dict1, x_attr, x_meth, x_comp] at q
  refine meth_call hb (each_all hx) hlen hline (wpAny_mono (ha H s _ E S m q) (fun ov s₁ z => ?_) fun _ _ z => z)
  obtain ⟨ao, H₁, ho, S₁, m₁, q₁⟩ := z
  intro pl
  split at q₁
  · rename_i p
    cases ho
    split at q₁
    · rename_i cl es e
      obtain ⟨hmm, hno, q₁⟩ := q₁
      obtain ⟨c1, c2, c3, c4⟩ := PO.meth cl mt hmm
      obtain ⟨d, ents, k, x1, x2, x3, x4, _⟩ := S₁.setAttr e
      obtain ⟨f1, f2⟩ := attrs_find (n := mt) x3
      rw [hno] at f1
      have hf : (ents.find? (·.key.isStr (Str.ofString mt))) = none := by
        generalize hz : (ents.find? (·.key.isStr (Str.ofString mt))) = fe at f1
        cases fe with
        | none => rfl
        | some => cases f1
      have I : InstAt s₁.heap p (instObj (g.c.ca cl) d) (g.c.ca cl) (some (dictOf ents k)) := ⟨x1, rfl, rfl, x2⟩
      refine method_fn (C.kin.keeps S₁.stays) I (plainGet_of c1).1 (plainGet_of c1).2 c2 (beq_iff_eq.mp c3) ?_ ?_
      · show (lookIn (Str.ofString mt) (dictOf ents k)).map _ = _
        rw [lookIn_dict]; unfold getL; rw [hf, f2]; rfl
      · exact cw_ref C c4 hx S₁ m₁ q₁ fun as vs H' s' k1 k2 k3 k4 => callOK_at ev (.cons (.ref p) k1) k2 k3 k4
    · rename_i B e
      obtain ⟨hmm, hno, q₁⟩ := q₁
      obtain ⟨c1, c2, c3, c4⟩ := PO.meth "Book" mt hmm
      obtain ⟨f, sa, pa, d, ents, k, x1, x2, x3⟩ := S₁.bookAttr e
      obtain ⟨f1, f2⟩ := attrs_find (n := mt) x3
      have hno : lookA [("day", AV.int B.day), ("free", .ref f), ("aside", .ref sa), ("pacts", .ref pa)] mt = none := by
        simp only [bookAttrs, List.contains_cons, List.contains_nil, Bool.or_false, Bool.or_eq_false_iff, beq_eq_false_iff_ne] at hno
        obtain ⟨n1, n2, n3, n4⟩ := hno
        simp [lookA, n1.symm, n2.symm, n3.symm, n4.symm]
      rw [hno] at f1
      have hf : (ents.find? (·.key.isStr (Str.ofString mt))) = none := by
        generalize hz : (ents.find? (·.key.isStr (Str.ofString mt))) = fe at f1
        cases fe with
        | none => rfl
        | some => cases f1
      have I : InstAt s₁.heap p (instObj (g.c.ca "Book") d) (g.c.ca "Book") (some (dictOf ents k)) := ⟨x1, rfl, rfl, x2⟩
      refine method_fn (C.kin.keeps S₁.stays) I (plainGet_of c1).1 (plainGet_of c1).2 c2 (beq_iff_eq.mp c3) ?_ ?_
      · show (lookIn (Str.ofString mt) (dictOf ents k)).map _ = _
        rw [lookIn_dict]; unfold getL; rw [hf, f2]; rfl
      · exact cw_ref C c4 hx S₁ m₁ q₁ fun as vs H' s' k1 k2 k3 k4 => callOK_at ev (.cons (.ref p) k1) k2 k3 k4
    · exact q₁.elim
  · exact q₁.elim

theorem DRs.without {es : List (Str × AV)} {kvs : List (Str × Value)} (h : DRs es kvs) (k : Str) : DRs (es.filter fun e => e.1 ≠ k) (PySem.without kvs k) := by
  unfold PySem.without
  induction h with
  | nil => exact .nil
  | cons h1 h2 _ ih =>
    rename_i k' a v as vs _
    by_cases z : k' = k
    · simpa [z] using ih
    · simpa [z] using DRs.cons h1 h2 ih
noncomputable def BM.id : BM → String
  | .append => "list.append"
theorem s_bm {o : AV} {u : Value} {bm : BM} {as : List AV} {vs : List Value} {H : AHeap} {s : Shared} {Q : AV → AHeap → Prop} {E : Value → Shared → Prop} (C : g.c.Ok mg mb) (un : A.units + 1 + 64 < cLine) (ho : VR o u) (hv : VRs as vs) (S : St g.c R H s.heap) (m : Sm s₀ s) (q : wbm o bm as Q H) :
    wpAny (model g.c.prog g.c.w) A (call (.builtin bm.id) (u :: vs)) (TQ g R s₀ Q) E s := by
  cases bm with
  | append =>
  cases ho with
  | ref p =>
    cases hv with
    | nil => exact q.elim
    | cons h1 hr =>
    cases hr with
    | cons => exact q.elim
    | nil =>
      rw [m_app] at q
      split at q
      · rename_i e; exact s_append h1 S m e q.1 q.2
      · exact q.elim
  | _ => exact q.elim
theorem s_getm {o : AV} {u : Value} {bm : BM} {pl : Sem Bool} {H : AHeap} {s : Shared} {Q : Value × List Value → Shared → Prop} {E : Value → Shared → Prop} (ho : VR o u) (S : St g.c R H s.heap) (hon : bmOn bm o H) (q : Q (.builtin bm.id, [u]) s) :
    wpAny (model g.c.prog g.c.w) A (getMethod u (Str.ofString bm.str) pl) Q E s := by
  cases ho with
  | ref p =>
    simp only [bmOn] at hon
    split at hon
    · rename_i e
      obtain ⟨ws, n, k1, k2, k3⟩ := isList_of S e
      cases hon
      exact getMethod_builtin ⟨_, k1, rfl⟩ PySem.F.plainAttrs_list PySem.F.slot_list_append PySem.F.type_list_append (fun a h => by cases h; exact ⟨_, k1, rfl⟩) q
    · exact hon.elim
  | _ => exact hon.elim

set_option tactic.hygienic false in
theorem hx_bm {a : X} {bm : BM} {xs : List X} {o : PySem.Expr} {args : List PySem.Expr} {apos pos : Pos} (C : g.c.Ok mg mb) (ev : Ev g A R e₀ l₀) (hb : baseOk o = true) (hline : (apos.endLine == pos.line) = true) (hlen : args.length < 29)
    (ha : HX g A R V s₀ a (eval o env)) (hx : EachX g A R V s₀ env xs args) : HX g A R V s₀ (.bm a bm xs) (eval (.Call (.Attribute o (Str.ofString bm.str) apos) args [] pos) env) := fun H s Q E S m q => by
  dsimp only [x_lit, x_var, x_bin, x_neg, x_not, x_ao, x_ite, x_cmp, x_cmp2, x_sub, x_slice, x_glob, x_call, x_prim, x_bm, x_isi, x_list, x_tup, x_new, x_dict0, x_dict1, x_attr, x_meth, x_comp] at q
  refine meth_call hb (each_all hx) hlen hline (wpAny_mono (ha H s _ E S m q) (fun ov s₁ z => ?_) fun _ _ z => z)
  obtain ⟨ao, H₁, ho, S₁, m₁, hon, q₁⟩ := z
  intro pl
  refine s_getm ho S₁ hon ?_
  exact cw_prim (.inl ⟨_, rfl⟩) hx S₁ m₁ q₁ fun as vs H' s' k1 k2 k3 k4 => s_bm C (by have := ev.aok.units; omega) ho k1 k2 k3 k4

set_option tactic.hygienic false in
theorem hx_new {sc : Scope} {nm : List Str} {cl : String} {fe : PySem.Expr} {args : List PySem.Expr} {xs : List X} {pos : Pos} (C : g.c.Ok mg mb) (PO : PgOk g.c) (ev : Ev g A R e₀ l₀) (fr : Frm R env sc nm V) (hn : nameIs sc cl fe = true)
    (hg : g.c.P.classes.contains cl = true) (hx : EachX g A R V s₀ env xs args) : HX g A R V s₀ (.new cl xs) (eval (.Call fe args [] pos) env) := fun H s Q E S m q => by
  dsimp only [x_lit, x_var, x_bin, x_neg, x_not, x_ao, x_ite, x_cmp, x_cmp2, x_sub, x_slice, x_glob, x_call, x_prim, x_bm, x_isi, x_list, x_tup, x_new, x_dict0, x_dict1, x_attr, x_meth, x_comp] at q
  obtain ⟨h1, h2, h3, h4, h5⟩ := PO.cls cl hg
  obtain ⟨id, p, rfl⟩ := nameIs_name hn
  refine wpAny_Call_NameR (glob_K C fr S hn h1 ?_)
  refine cw_ref C h2 hx S m q fun as vs H' s' k1 k2 k3 k4 => ?_
  obtain ⟨hh, gg, dd, t, os⟩ := s'
  have X := C.kin.keeps k2.stays
  obtain ⟨e, S'⟩ := k2.newInst (cl := cl)
  refine wpAny_call (make_core (makes_of X h3) (looks_findIn X h4) (fun self => bind_fn X self (beq_iff_eq.mp h5)) (.inl rfl) ?_)
  refine k4 _ e _ (e₀ :: l₀) R _ _ _ ⟨?_, ?_, ?_, ?_⟩ ev.stk S' (.cons (.ref _) k1) ?_ ?_
  · exact ev.aok.frames
  · have := ev.aok.depth
    have hw : (Code.builtin "type.__call__" ⟨.ref (g.c.ca cl) :: vs, []⟩).weight = 1 := rfl
    show A.depth + (Code.builtin "type.__call__" ⟨.ref (g.c.ca cl) :: vs, []⟩).weight + 110 + 0 + 8 * g.n < recursionLimit
    omega
  · have := ev.aok.units
    have hw : (Code.builtin "type.__call__" ⟨.ref (g.c.ca cl) :: vs, []⟩).cUnits = 1 := rfl
    show A.units + (Code.builtin "type.__call__" ⟨.ref (g.c.ca cl) :: vs, []⟩).cUnits + 100 + 10 * 0 + 60 * g.n < cLine
    omega
  · exact ev.aok.hand
  · rintro av v s' H' z1 z2 z3 ⟨rfl, z4⟩
    cases z1
    exact ⟨rfl, _, _, .ref _, z2, k3.trans ((Sm.mk' _ _ _).trans z3), z4⟩
  · exact fun e cl s' H' z1 z2 z3 => ⟨e, cl, H', rfl, z1, k3.trans ((Sm.mk' _ _ _).trans z2), z3⟩
end
end Mine

end
section
open PySem PySem.W PyProof.Rows PySem.Spec PySem.SeqAt PySem.Calls
namespace Mine

set_option tactic.hygienic false in
theorem type_ve : typeOf (.type "ValueError") = pure (.type "type") := by kernel_rfl

set_option tactic.hygienic false in
theorem isi_nestedT {M : Model} {A : Around} {E : Value → Shared → Prop} {K : Frag} {s : Shared} {v : Value} {C : Addr} {T : String} {dep : Int} {tk : Tok} {Q : Fin → Shared → Prop} (X : K.In s.heap) (ht : Looks M s.heap (typeOf v) (.ref C))
    (hty : typeOf (.type T) = pure (.type "type")) (e : subIn K (.ref C) (.type T) = some true) (h : Q (.done (.ret (.bool true))) s) :
    wpAny M A (Builtin.«isinstance.nested» ⟨[v, .type T, .int dep tk], []⟩) Q E s := by
  obtain ⟨hh, g, d, tt, os⟩ := s
  unfold Builtin.«isinstance.nested»
  refine wpAny_bind (ht.at ?_)
  rw [if_neg (by simp)]
  have L3 : Looks M hh (isInstance v (.type T)) true := ht.andThen (looks_subIn X e)
  rw [hty]
  refine wpAny_bind (wpAny_pure ?_)
  rw [if_pos (by decide)]
  k_delta "plainIsInstance"
  unfold isType
  refine wpAny_bind (wpAny_bind (wpAny_pure ?_))
  dsimp only [Bool.not_true, Bool.false_eq_true, if_false]
  refine wpAny_bind (L3.at ?_)
  simp only [if_true]
  exact wpAny_pure (wpAny_pure h)
theorem isi_callT {prog : Program} {w : World} {A : Around} {E : Value → Shared → Prop} {K : Frag} {s : Shared} {v : Value} {C : Addr} {T : String} {Q : Value → Shared → Prop} (X : K.In s.heap) (ht : ∀ M, Looks M s.heap (typeOf v) (.ref C))
    (hty : typeOf (.type T) = pure (.type "type")) (e : subIn K (.ref C) (.type T) = some true) (hx : v ≠ .builtin "__main__.__loader__#opaque") (h : Q (.bool true) s) :
    wpAny (model prog w) A (call (.builtin "isinstance") [v, .type T]) Q E s :=
  call_isinstance (S := fun _ R s => (K.In s.heap ∧ ∀ M, Looks M s.heap (typeOf v) (.ref C)) ∧ R (.ok (.ret (.bool true))) s) (fun _ _ _ _ _ hs => isinstance_outer (isi_nestedT hs.1.1 (hs.1.2 _) hty e hs.2) hx) ⟨⟨X, ht⟩, h⟩

section
variable {g : Gx} {A : Around} {R : RR} {V : VV} {s₀ : Shared} {env : Env} {mg mb : Str → Option Value} {e₀ : Env} {l₀ : List Env}

set_option tactic.hygienic false in
theorem exc_type {M : Model} {H : AHeap} {h : Heap} {p : Addr} {cl : String} (S : St g.c R H h) (e : H p = some (.exc cl)) : Looks M h (typeOf (.ref p)) (.ref (g.c.ca cl)) := by
  obtain ⟨⟨D, o, o1, o2, vs, o3⟩, _⟩ := S.orep e
  rw [← o2]
  exact (Looks.ld o1).andThen .now
theorem hx_isinst {sc : Scope} {nm : List Str} {ty : String} {fe t x : PySem.Expr} {a : X} {pos : Pos} (C : g.c.Ok mg mb) (PO : PgOk g.c) (fr : Frm R env sc nm V) (hn : nameIs sc "isinstance" fe = true) (hg : g.c.P.prims.contains "isinstance" = true)
    (ht : (g.c.P.prims.contains ty || (g.c.P.excs.lookup ty).isSome) = true) (hn' : nameIs sc ty t = true) (hx : HX g A R V s₀ a (eval x env)) (hs : noStar x = true) :
    HX g A R V s₀ (.isinst a ty) (eval (.Call fe [x, t] [] pos) env) := by
  cases hx' : (g.c.P.excs.lookup ty).isSome with
  | false =>
    rw [hx', Bool.or_false] at ht
    by_cases hty : ty = "int" ∨ ty = "bool" ∨ ty = "str" ∨ ty = "list"
    · exact hx_isT C PO fr hn hg ht hn' hty hx hs
    intro H s Q E S m q
    dsimp only [x_lit, x_var, x_bin, x_neg, x_not, x_ao, x_ite, x_cmp, x_cmp2, x_sub, x_slice, x_glob, x_call, x_prim, x_bm, x_isi, x_list, x_tup, x_new, x_dict0, x_dict1, x_attr, x_meth, x_comp] at q
    obtain ⟨h1, h2, h3⟩ := PO.prim _ hg
    obtain ⟨k1, k2, k3⟩ := PO.prim _ ht
    obtain ⟨id, p, rfl⟩ := nameIs_name hn
    obtain ⟨id', p', rfl⟩ := nameIs_name hn'
    refine wpAny_Call_NameR (glob_B C fr S hn h1 h2 h3 ?_)
    refine Calls.callWith_builtin (by rw [starEach_plain hs, starEach_plain rfl]; rfl) ?_
    rw [starEach_plain hs, backTo_cons, starEach_plain rfl, backTo_cons]
    refine evalArgs_plain (spliced_cons (wpAny_mono (hx H s _ E S m q) (fun v s₁ z => ?_) fun _ _ z => z))
    obtain ⟨av, H₁, hv, S₁, m₁, q₁⟩ := z
    refine spliced_cons (glob_B C fr S₁ hn' k1 k2 k3 (spliced_nil ?_))
    split at q₁
    · rename_i b hb
      unfold isinstV at hb
      rw [if_neg hty] at hb
      split at hb
      · rename_i p
        cases hv
        split at hb
        · rename_i cl e
          split at hb
          · rename_i hc
            cases hb
            obtain ⟨e1, e3⟩ := PO.exc cl ty hc ht
            subst e1
            exact isi_callT (C.kin.keeps S₁.stays) (fun M => exc_type S₁ e) type_ve e3 (by simp) (TQ.pure (.bool _) S₁ m₁ q₁)
          · cases hb
        · cases hb
      · cases hb
    · exact q₁.elim
  | true =>
    intro H s Q E S m q
    dsimp only [x_lit, x_var, x_bin, x_neg, x_not, x_ao, x_ite, x_cmp, x_cmp2, x_sub, x_slice, x_glob, x_call, x_prim, x_bm, x_isi, x_list, x_tup, x_new, x_dict0, x_dict1, x_attr, x_meth, x_comp] at q
    obtain ⟨h1, h2, h3⟩ := PO.prim _ hg
    obtain ⟨k1, k2, k3, k4, k5, k6, k7, k8⟩ := PO.excR _ hx'
    obtain ⟨id, p, rfl⟩ := nameIs_name hn
    obtain ⟨id', p', rfl⟩ := nameIs_name hn'
    refine wpAny_Call_NameR (glob_B C fr S hn h1 h2 h3 ?_)
    refine Calls.callWith_builtin (by rw [starEach_plain hs, starEach_plain rfl]; rfl) ?_
    rw [starEach_plain hs, backTo_cons, starEach_plain rfl, backTo_cons]
    refine evalArgs_plain (spliced_cons (wpAny_mono (hx H s _ E S m q) (fun v s₁ z => ?_) fun _ _ z => z))
    obtain ⟨av, H₁, hv, S₁, m₁, q₁⟩ := z
    refine spliced_cons (glob_K C fr S₁ hn' k1 (spliced_nil ?_))
    split at q₁
    · rename_i b hb
      unfold isinstV at hb
      split at hb
      · rename_i hty
        rcases hty with rfl | rfl | rfl | rfl <;> exact absurd k8 (by decide)
      · split at hb
        · rename_i p
          cases hv
          split at hb
          · rename_i cl e
            split at hb
            · rename_i hc
              cases hb
              have hcl : (g.c.P.excs.lookup cl).isSome = true := by
                cases z : g.c.P.excs.lookup cl with
                | none => rw [z] at hc; cases hc
                | some => rfl
              have hsub := PO.excC cl ty hcl hx'
              unfold excSub at hsub
              rw [hc] at hsub
              refine isi_call (C.kin.keeps S₁.stays) (fun M => exc_type S₁ e) ?_ (by simp) (TQ.pure (.bool _) S₁ m₁ q₁)
              unfold isIn
              rw [k5, k6, k7, hsub]
              simp
            · cases hb
          · cases hb
        · cases hb
    · exact q₁.elim
end
end Mine

end
section
open PySem PySem.W PyProof.Rows PySem.Spec PySem.SeqAt PySem.Calls
namespace Mine

section
variable {c : Cx} {R : RR} {H : AHeap} {h h' : Heap}

set_option tactic.hygienic false in
theorem St1.noted (S : St1 c R H h) {ls : List Addr}
    (hls : ∀ a ∈ ls, (∃ m, R a = some (.ns m)) ∨ (R a = none ∧ H a = none ∧ c.base.get? a = none ∧ ∃ o vs, h.get? a = some o ∧ o.data = .fields vs))
    (k : ∀ b o, h.get? b = some o → b ∉ ls → h'.get? b = some o) (sl : ∀ b o, h.get? b = some o → (∀ vs, o.data ≠ .fields vs) → ∃ t, h'.get? b = some { o with slots := t })
    (hsz : c.base.objs.size ≤ h'.objs.size) : St1 c R H h' := by
  obtain ⟨s1, s2, s3, D, s4⟩ := S
  have hb : ∀ b o, c.base.get? b = some o → b ∉ ls := fun b o e hm => by
    rcases hls b hm with ⟨m, q⟩ | ⟨_, _, q, _⟩
    · have := leN (s3 b _ q).1; have := lts e; omega
    · rw [q] at e; cases e
  have hH : ∀ a o, H a = some o → a ∉ ls := fun a o e hm => by
    rcases hls a hm with ⟨m, q⟩ | ⟨_, q, _⟩
    · have := (s4.above a o e).2; rw [q] at this; cases this
    · rw [q] at e; cases e
  refine ⟨fun b o e => k b o (s1 b o e) (hb b o e), hsz, fun b r e => ⟨(s3 b r e).1, ?_⟩, D, ⟨fun a o e => ?_, s4.above, s4.dict, s4.inj⟩⟩
  · by_cases q : b ∈ ls
    · rcases hls b q with ⟨m, z⟩ | ⟨z, _⟩
      · rw [e] at z; cases z
        obtain ⟨o, es, ep, ho, hd, rr⟩ := (s3 b _ e).2
        obtain ⟨t, ht⟩ := sl b o ho (fun vs w => by rw [hd] at w; cases w)
        exact ⟨_, es, ep, ht, hd, rr⟩
      · rw [e] at z; cases z
    · exact (s3 b r e).2.agree fun ob z => k b ob z q
  · refine (s4.rep a o e).agree (fun ob z => k a ob z (hH a o e)) fun cl es eo => ⟨rfl, fun ob z => ?_⟩
    subst eo
    refine k _ ob z fun hm => ?_
    obtain ⟨_, y2, y3⟩ := s4.dict a cl es e
    rcases hls _ hm with ⟨m, q⟩ | ⟨_, _, _, o', vs, q1, q2⟩
    · rw [q] at y2; cases y2
    · obtain ⟨_, ents, n, w, _⟩ := s4.rep a _ e
      rw [w] at q1; cases q1; cases q2

set_option tactic.hygienic false in
theorem St1.frames (S : St1 c R H h) {l : List Env} (hs : Stk R l) {B : Heap} (hB : ∀ e ∈ l, B.get? e.locals = none) : h.FunFrames B l := by
  induction l with
  | nil => trivial
  | cons e l ih =>
    have F := hs e (.head _)
    obtain ⟨m, hm⟩ := F.ns
    obtain ⟨o, es, ep, ho, hd, _⟩ := (S.res _ _ hm).2
    exact ⟨by rw [F.kind]; simp, ⟨e.locals, o, F.frame, hB e (.head _), ho, fun vs w => by rw [hd] at w; cases w⟩, ih (fun x hx => hs x (.tail _ hx)) fun x hx => hB x (.tail _ hx)⟩

noncomputable def FlOk (env : Env) (fl : Value) : Prop := fl = .ellipsis ∨ fl = .none ∨ fl = rawInt env.locals

set_option tactic.hygienic false in
theorem exc_noted {e : Addr} {cl : String} {env : Env} {outer : List Env} {ls : List Addr} {a0 fl : Value} (X : St1 c R H h) (re : R e = none) (he : H e = none) (be : c.base.get? e = none) (hs : Stk R (env :: outer))
    (hls : ∀ a ∈ ls, (∃ m, R a = some (.ns m)) ∨ (R a = none ∧ H a = none ∧ c.base.get? a = none ∧ ∃ o vs, h.get? a = some o ∧ o.data = .fields vs))
    (N : Heap.NotedW (hideAll h ls) (env :: outer) e (.ref (c.ca cl)) a0 fl h h') (hfl : fl ≠ .ellipsis) (kn : (c.P.excs.lookup cl).isSome = true) : ExcSt1 c R H e cl fl h' := by
  obtain ⟨n1, n2, n3, n4⟩ := N
  have F := hs env (.head _)
  obtain ⟨m, hm⟩ := F.ns
  obtain ⟨o, es, ep, ho, hd, _⟩ := (X.res _ _ hm).2
  obtain ⟨t, ht⟩ := n4 _ o ho (fun vs w => by rw [hd] at w; cases w)
  have hsz : c.base.objs.size ≤ h'.objs.size := by
    have h1 := leN (X.res _ _ hm).1; have h2 := lts ht; omega
  have S' := X.noted hls (fun b o e q => n1 b o (hideAll_get _ e q)) n4 hsz
  obtain ⟨oe, vs, T, oT, ts, h1, ⟨h2, h3⟩, h4, h5, h6, h7, h8, h9, h10⟩ := n3
  have out : ∀ b o, h.get? b = some o → b ∉ ls → b ≠ T := fun b o e q z => by
    have := hideAll_get ls e q
    rw [z, h6] at this; cases this
  refine ⟨S', re, he, be, .traced h1 h2 h4 h3 h5 h7 ?_ ?_ ?_ h8 h9 h10 hfl, kn⟩
  · cases q : R T with
    | none => rfl
    | some r =>
      exfalso
      obtain ⟨ob, hob⟩ := (X.res _ _ q).2.there
      by_cases z : T ∈ ls
      · rcases hls T z with ⟨m', q'⟩ | ⟨q', _⟩
        · obtain ⟨o', es', ep', ho', hd', _⟩ := (S'.res _ _ q').2
          rw [h8] at ho'; cases ho'; rw [h9] at hd'; cases hd'
        · rw [q] at q'; cases q'
      · exact out T ob hob z rfl
  · cases q : H T with
    | none => rfl
    | some r =>
      exfalso
      obtain ⟨D, s4⟩ := X.rep
      obtain ⟨ob, hob⟩ := (s4.rep _ _ q).there
      by_cases z : T ∈ ls
      · rcases hls T z with ⟨m', q'⟩ | ⟨_, q', _⟩
        · have := (s4.above _ _ q).2; rw [q'] at this; cases this
        · rw [q] at q'; cases q'
      · exact out T ob hob z rfl
  · cases q : c.base.get? T with
    | none => rfl
    | some ob =>
      exfalso
      by_cases z : T ∈ ls
      · rcases hls T z with ⟨m', q'⟩ | ⟨_, _, q', _⟩
        · have := leN (X.res _ _ q').1; have := lts q; omega
        · rw [q] at q'; cases q'
      · exact out T ob (X.stays _ _ q) z rfl

theorem exc_note1 {M : Model} {A : Around} {E : Value → Shared → Prop} {s : Shared} {e : Addr} {cl : String} {fl : Value} {env : Env} {outer : List Env} {Q : Unit → Shared → Prop} (hfr : A.frames = some (env :: outer)) (hs : Stk R (env :: outer))
    (X : ExcSt1 c R H e cl fl s.heap) (hfl : FlOk env fl) (q : ∀ h', ExcSt1 c R H e cl (rawInt env.locals) h' → Q () { s with heap := h' }) : wpAny M A (noteFrame (.ref e) env) Q E s := by
  obtain ⟨st, re, he, be, ob, kn⟩ := X
  have F := hs env (.head _)
  cases ob with
  | fresh h1 =>
    have hls : ∀ a ∈ e :: (env :: outer).map (·.locals), (∃ m, R a = some (.ns m)) ∨ (R a = none ∧ H a = none ∧ c.base.get? a = none ∧ ∃ o vs, s.heap.get? a = some o ∧ o.data = .fields vs) := by
      intro a ha
      rcases List.mem_cons.mp ha with rfl | ha
      · exact .inr ⟨re, he, be, _, _, h1, rfl⟩
      · obtain ⟨x, hx, rfl⟩ := List.mem_map.mp ha
        exact .inl (hs x hx).ns
    unfold noteFrame
    simp only [F.frame]
    refine wpAny_bind (wpAny_field h1 rfl (x := .none) rfl ?_)
    rw [if_neg (by decide)]
    refine wpAny_entryW (base := hideAll s.heap (e :: (env :: outer).map (·.locals))) (a0 := _) hfr (st.frames hs fun x hx => hideAll_none _ (List.mem_cons_of_mem _ (List.mem_map_of_mem hx))) F.frame h1 (fun b o z => of_hideAll _ z) (hideAll_none _ (List.mem_cons_self ..)) rfl (by simp) rfl fun h' N => q h' ?_
    exact exc_noted st re he be hs hls N (by simp [rawInt]) kn
  | traced h1 h2 h3 h4 h5 h6 h7 h8 h9 h10 h11 h12 h13 =>
    rename_i oe vs T oT ts a0
    rcases hfl with rfl | rfl | rfl
    · exact absurd rfl h13
    · have hls : ∀ a ∈ e :: T :: (env :: outer).map (·.locals), (∃ m, R a = some (.ns m)) ∨ (R a = none ∧ H a = none ∧ c.base.get? a = none ∧ ∃ o vs, s.heap.get? a = some o ∧ o.data = .fields vs) := by
        intro a ha
        rcases List.mem_cons.mp ha with rfl | ha
        · exact .inr ⟨re, he, be, _, _, h1, h3⟩
        · rcases List.mem_cons.mp ha with rfl | ha
          · exact .inr ⟨h7, h8, h9, _, _, h10, h11⟩
          · obtain ⟨x, hx, rfl⟩ := List.mem_map.mp ha
            exact .inl (hs x hx).ns
      refine wpAny_noteFrame_onW (base := hideAll s.heap (e :: T :: (env :: outer).map (·.locals))) (cls := .ref (c.ca cl)) (a0 := a0) hfr (st.frames hs fun x hx => hideAll_none _ (List.mem_cons_of_mem _ (List.mem_cons_of_mem _ (List.mem_map_of_mem hx)))) F.frame
        ⟨oe, vs, T, oT, ts, h1, ⟨h2, h4⟩, h3, h5, hideAll_none _ (List.mem_cons_of_mem _ (List.mem_cons_self ..)), h6, h10, h11, h12⟩ (fun b o z => of_hideAll _ z) (hideAll_none _ (List.mem_cons_self ..)) fun h' N => q h' ?_
      exact exc_noted st re he be hs hls N (by simp [rawInt]) kn
    · refine wpAny_noteFrame_againW (base := hideAll s.heap [T]) (cls := .ref (c.ca cl)) (a0 := a0) F.frame ⟨oe, vs, T, oT, ts, h1, ⟨h2, h4⟩, h3, h5, hideAll_none _ (List.mem_cons_self ..), h6, h10, h11, h12⟩ ?_
      have := q s.heap ⟨st, re, he, be, .traced h1 h2 h3 h4 h5 h6 h7 h8 h9 h10 h11 h12 h13, kn⟩
      exact this

theorem exc_flight1 {M : Model} {A : Around} {E : Value → Shared → Prop} {s : Shared} {e : Addr} {cl : String} {fl : Value} {f : Option Addr} {Q : Unit → Shared → Prop}
    (X : ExcSt1 c R H e cl fl s.heap) (hfl : fl ≠ .ellipsis) (q : ∀ h', ExcSt1 c R H e cl (f.elim .none fun f => rawInt f) h' → Q () { s with heap := h' }) : wpAny M A (setFlight (.ref e) f) Q E s := by
  obtain ⟨st, re, he, be, ob, kn⟩ := X
  cases ob with
  | fresh h1 => exact absurd rfl hfl
  | traced h1 h2 h3 h4 h5 h6 h7 h8 h9 h10 h11 h12 h13 =>
    rename_i oe vs T oT ts a0
    have hsz3 : 3 < ts.size := (Array.getElem?_eq_some_iff.mp h12).1
    have other : ∀ b, b ≠ T → (s.heap.update T (Obj.mapFields (·.setIfInBounds 3 (f.elim Value.none fun f => rawInt f)))).get? b = s.heap.get? b :=
      fun b hb => Heap.get?_update_other _ _ (Ne.symm hb)
    unfold setFlight
    refine wpAny_bind (wpAny_field h1 h3 h5 ?_)
    rw [if_pos (show (Value.ref T != Value.none) = true from by simp)]
    refine wpAny_setField h10 h11 hsz3 (q _ ⟨?_, re, he, be, ?_, kn⟩)
    · refine st.noted (ls := [T]) (fun a ha => .inr ?_) (fun b o hb hn => (other b (by simpa using hn)).trans hb) (fun b o hb hn => ⟨o.slots, (other b (fun z => ?_)).trans hb⟩) ?_
      · simp only [List.mem_singleton] at ha
        subst ha
        exact ⟨h7, h8, h9, _, _, h10, h11⟩
      · rw [z, h10] at hb; cases hb; exact hn _ h11
      · rw [Heap.size_update]; exact st.size
    · exact .traced ((other e (Ne.symm h6)).trans h1) h2 h3 h4 h5 h6 h7 h8 h9 (Heap.get?_update_self _ h10 (Obj.isFreed_of_fields (Obj.data_mapFields h11 _))) (Obj.data_mapFields h11 _) (by simp [hsz3]) (by cases f <;> simp [rawInt])

set_option tactic.hygienic false in
theorem exc_leave1 {M : Model} {A : Around} {E : Value → Shared → Prop} {s : Shared} {e : Addr} {cl : String} {fl : Value} {env : Env} {outer : List Env} {Q : Unit → Shared → Prop} (hfr : A.frames = some (env :: outer)) (hs : Stk R (env :: outer))
    (X : ExcSt1 c R H e cl fl s.heap) (hfl : FlOk env fl) (q : ∀ h', ExcSt1 c R H e cl .none h' → Q () { s with heap := h' }) : wpAny M A (leaving env (.ref e)) Q E s := by
  unfold leaving
  exact wpAny_bind (exc_note1 hfr hs X hfl fun h₁ X₁ => exc_flight1 (s := { s with heap := h₁ }) X₁ (by simp [rawInt]) fun h₂ X₂ => q h₂ X₂)
end

section
variable {c : Cx} {R : RR} {H : AHeap} {h h' : Heap}
theorem exc_note {M : Model} {A : Around} {E : Value → Shared → Prop} {s : Shared} {e : Addr} {cl : String} {fl : Value} {env : Env} {outer : List Env} {Q : Unit → Shared → Prop} (hfr : A.frames = some (env :: outer)) (hs : Stk R (env :: outer))
    (X : ExcSt c R H e cl fl s.heap) (hfl : FlOk env fl) (q : ∀ h', ExcSt c R H e cl (rawInt env.locals) h' → Q () { s with heap := h' }) : wpAny M A (noteFrame (.ref e) env) Q E s :=
  let ⟨H₁, X, r⟩ := X; exc_note1 hfr hs X hfl fun h' X' => q h' ⟨H₁, X', r⟩
theorem exc_flight {M : Model} {A : Around} {E : Value → Shared → Prop} {s : Shared} {e : Addr} {cl : String} {fl : Value} {f : Option Addr} {Q : Unit → Shared → Prop}
    (X : ExcSt c R H e cl fl s.heap) (hfl : fl ≠ .ellipsis) (q : ∀ h', ExcSt c R H e cl (f.elim .none fun f => rawInt f) h' → Q () { s with heap := h' }) : wpAny M A (setFlight (.ref e) f) Q E s :=
  let ⟨H₁, X, r⟩ := X; exc_flight1 X hfl fun h' X' => q h' ⟨H₁, X', r⟩
theorem exc_leave {M : Model} {A : Around} {E : Value → Shared → Prop} {s : Shared} {e : Addr} {cl : String} {fl : Value} {env : Env} {outer : List Env} {Q : Unit → Shared → Prop} (hfr : A.frames = some (env :: outer)) (hs : Stk R (env :: outer))
    (X : ExcSt c R H e cl fl s.heap) (hfl : FlOk env fl) (q : ∀ h', ExcSt c R H e cl .none h' → Q () { s with heap := h' }) : wpAny M A (leaving env (.ref e)) Q E s :=
  let ⟨H₁, X, r⟩ := X; exc_leave1 hfr hs X hfl fun h' X' => q h' ⟨H₁, X', r⟩
theorem ExcSt.st {e : Addr} {cl : String} {fl : Value} (X : ExcSt c R H e cl fl h) : St c R H h := let ⟨H₁, X, r⟩ := X; ⟨H₁, X.st, r⟩
theorem ExcSt.he {e : Addr} {cl : String} {fl : Value} (X : ExcSt c R H e cl fl h) : H e = none := let ⟨_, X, r⟩ := X; r.none X.he
theorem ExcSt.kn {e : Addr} {cl : String} {fl : Value} (X : ExcSt c R H e cl fl h) : (c.P.excs.lookup cl).isSome = true := let ⟨_, X, _⟩ := X; X.kn
end
end Mine

end
section
open PySem PySem.W PyProof.Rows PySem.Spec PySem.SeqAt PySem.Calls
namespace Mine

noncomputable def rdrop (R : RR) (a : Addr) : RR := fun b => if b = a then none else R b
set_option tactic.hygienic false in
theorem rdrop_le {R : RR} {a : Addr} : ∀ b r, rdrop R a b = some r → R b = some r := fun b r e => by
  unfold rdrop at e; split at e
  · cases e
  · exact e
set_option tactic.hygienic false in
theorem rdrop_other {R : RR} {a b : Addr} (h : b ≠ a) : rdrop R a b = R b := by simp [rdrop, h]
set_option tactic.hygienic false in
theorem rdrop_same {R : RR} {a : Addr} : rdrop R a a = none := by simp [rdrop]

noncomputable def ItObj (H : AHeap) (v : AV) (k : Nat) (o : Obj) : Prop :=
  match v with
  | .ref a => (match H a with
    | some (.list _) => o.cls = .type "list_iterator" ∧ o.data = .fields #[.ref a, .int k 0]
    | some (.tuple _) => o.cls = .type "tuple_iterator" ∧ o.data = .fields #[.ref a, .int k 0]
    | some (.range lo hi) => o = { cls := .type "range_iterator", dict := none, data := .fields #[rawInt (lo + k), rawInt (((hi - lo).toNat : Int) - k), rawInt 1], slots := #[] }
    | some (.dict ep es) => o.cls = .type "dict_keyiterator" ∧ o.data = .fields #[.ref a, .int k 0, .int es.length 0, .int ep 0]
    | _ => False)
  | .str s => ∃ t, (o.cls = .type "str_ascii_iterator" ∨ o.cls = .type "str_iterator") ∧ o.data = .fields #[.str s t, .int k 0]
  | _ => False
set_option tactic.hygienic false in
theorem ItObj.same {H H' : AHeap} {v : AV} {k : Nat} {o : Obj} (h : ItObj H v k o) (e : sameIt H H' v) : ItObj H' v k o := by
  cases v with
  | ref a => dsimp only [sameIt] at e; simp only [ItObj] at h ⊢; rw [e]; exact h
  | str s => exact h
  | _ => exact h

set_option tactic.hygienic false in
theorem rg_size {a b : Int} : Builtin.Range.rangeSize a b 1 = ((b - a).toNat : Int) := by
  unfold Builtin.Range.rangeSize
  simp only [Int.ediv_one, show (1 : Int) > 0 from by decide, if_true]
  split <;> omega
set_option tactic.hygienic false in
theorem rg_small {a b : Int} (h : RgOk a b) : Builtin.Range.small a b 1 = true := by
  unfold Builtin.Range.small Builtin.Range.rangeFitsLong
  rw [rg_size]
  obtain ⟨h1, h2, h3, h4⟩ := h
  simp only [show (1 : Int) > 0 from by decide, if_true, Bool.and_eq_true, Bool.or_eq_true, decide_eq_true_eq, beq_iff_eq]
  refine ⟨⟨⟨⟨⟨?_, ?_⟩, ⟨?_, ?_⟩⟩, ⟨?_, ?_⟩⟩, ⟨?_, ?_⟩⟩, .inr ⟨?_, ?_⟩⟩ <;> omega

section
variable {c : Cx} {R : RR} {H : AHeap} {A : Around} {E : Value → Shared → Prop} {s : Shared}

set_option tactic.hygienic false in
theorem it_push {o : Obj} {Q : Value → Shared → Prop} (hnf : o.isFreed = false) (S : St c R H s.heap) (q : ∀ s' a, R a = none → H a = none → St c (rup R a (.obj o)) H s'.heap → Sm s s' → Q (.ref a) s') : Q (.ref s.heap.objs.size) { s with heap := s.heap.push o } := by
  obtain ⟨h1, h2, h3⟩ := S.newRes (x := s.heap.objs.size) (r := .obj o) (h' := s.heap.push o) (Nat.le_refl _) (fun _ _ z => Heap.get?_push_of_some _ z) (by rw [Heap.size_push]; omega) (Heap.get?_push_size _ hnf)
  exact q _ _ h1 h2 h3 ⟨_, _, rfl⟩

theorem it_new {mg mb : Str → Option Value} {v : AV} {u : Value} {xs : List AV} {Q : Value → Shared → Prop} (C : c.Ok mg mb) (hv : VR v u) (S : St c R H s.heap) (hx : itemsOf H v = some xs)
    (q : ∀ s' a o, R a = none → H a = none → ItObj H v 0 o → St c (rup R a (.obj o)) H s'.heap → Sm s s' → Q (.ref a) s') : wpAny (model c.prog c.w) A (pyIter u) Q E s := by
  cases hv with
  | ref a =>
    simp only [itemsOf] at hx
    split at hx
    · rename_i ys e
      obtain ⟨vs, n, k1, k2, k3⟩ := isList_of (g := ⟨c, 0, true⟩) S e
      exact wpAny_pyIter_list k3 (it_push rfl S fun s' b h1 h2 h3 h4 => q s' b _ h1 h2 (by simp [ItObj, e]) h3 h4)
    · rename_i ys e
      obtain ⟨vs, n, k1, k2, k3⟩ := isTup_of (g := ⟨c, 0, true⟩) S e
      exact wpAny_pyIter_tuple ⟨_, k1, rfl, _, rfl⟩ (it_push rfl S fun s' b h1 h2 h3 h4 => q s' b _ h1 h2 (by simp [ItObj, e]) h3 h4)
    · rename_i lo hi e
      obtain ⟨⟨D, rg, t, u, w, hr⟩, _⟩ := S.orep e
      exact wpAny_pyIter_range hr (rg_small rg) (it_push rfl S fun s' b h1 h2 h3 h4 => q s' b _ h1 h2 (by simp [ItObj, e, rg_size]) h3 h4)
    · rename_i ep es e
      obtain ⟨kvs, hd, hr⟩ := isDict_of (g := ⟨c, 0, true⟩) S e
      have hl := hr.length
      refine wpAny_pyIter_dict (hds_of (g := ⟨c, 0, true⟩) C S e) hd (it_push rfl S fun s' b h1 h2 h3 h4 => q s' b _ h1 h2 ?_ h3 h4)
      simp [ItObj, e, hl]
    · cases hx
  | str x t =>
    cases ha : x.cps.all (· < 128)
    · exact wpAny_pyIter_wide ha (it_push rfl S fun s' b h1 h2 h3 h4 => q s' b _ h1 h2 ⟨t, .inr rfl, rfl⟩ h3 h4)
    · exact wpAny_pyIter_ascii ha (it_push rfl S fun s' b h1 h2 h3 h4 => q s' b _ h1 h2 ⟨t, .inl rfl, rfl⟩ h3 h4)
  | none => cases hx
  | bool b => cases hx
  | int i t => cases hx

theorem str_one {x : Str} {i ch : Nat} (h : PyData.strOk x = true) (e : x.cps[i]? = some ch) : PyData.strOk ⟨#[ch]⟩ = true :=
  strOk_of (l := [ch]) (by intro c hc; simp at hc; subst hc; exact strOk_mem h (Array.mem_of_getElem? e))

set_option tactic.hygienic false in
theorem DRs.get {es : List (Str × AV)} {kvs : List (Str × Value)} (h : DRs es kvs) : ∀ {k : Nat} {n : Str} {a : AV}, es[k]? = some (n, a) → PyData.strOk n = true ∧ ∃ v, kvs[k]? = some (n, v) := by
  induction h with
  | nil => intro k n a e; simp at e
  | cons h1 h2 _ ih =>
    intro k n a e
    cases k with
    | zero => simp at e; obtain ⟨rfl, rfl⟩ := e; exact ⟨h1, _, rfl⟩
    | succ k => simp at e ⊢; exact ih e

theorem it_item {v : AV} {xs : List AV} {x : AV} {k : Nat} {a : Addr} {o : Obj} {Q : Option Value → Shared → Prop} (hx : itemsOf H v = some xs) (hk : xs[k]? = some x) (hi : ItObj H v k o) (hr : R a = some (.obj o)) (S : St c R H s.heap)
    (hsv : ∀ y, v = .str y → PyData.strOk y = true)
    (q : ∀ s' u o', VR x u → ItObj H v (k + 1) o' → St c (rup R a (.obj o')) H s'.heap → Sm s s' → Q (some u) s') : wpAny (model c.prog c.w) A (pyNext (.ref a)) Q E s := by
  have ho : s.heap.get? a = some o := (S.res _ _ hr).2
  cases v with
  | ref p =>
    simp only [itemsOf] at hx
    split at hx
    · rename_i ys e
      cases hx
      obtain ⟨vs, n, k1, k2, k3⟩ := isList_of (g := ⟨c, 0, true⟩) S e
      obtain ⟨w, hw, hvr⟩ := k2.get hk
      simp only [ItObj, e] at hi
      refine wpAny_pyNext_list_item ⟨o, ho, hi.1, hi.2⟩ k3 (by simpa using hw) fun h' ⟨o', p1, p2, p3⟩ hs => ?_
      exact q _ w o' hvr (by simp only [ItObj, e]; exact ⟨p2, p3⟩) (S.setRes hr hs p1) ⟨_, _, rfl⟩
    · rename_i ys e
      cases hx
      obtain ⟨vs, n, k1, k2, k3⟩ := isTup_of (g := ⟨c, 0, true⟩) S e
      obtain ⟨w, hw, hvr⟩ := k2.get hk
      simp only [ItObj, e] at hi
      refine wpAny_pyNext_tuple_item (items := vs.toArray) ⟨o, ho, hi.1, hi.2⟩ ⟨_, k1, rfl, _, rfl⟩ (by simpa using hw) fun h' ⟨o', p1, p2, p3⟩ hs => ?_
      exact q _ w o' hvr (by simp only [ItObj, e]; exact ⟨p2, p3⟩) (S.setRes hr hs p1) ⟨_, _, rfl⟩
    · rename_i lo hi' e
      cases hx
      simp only [ItObj, e] at hi
      subst hi
      have hlt : k < (hi' - lo).toNat := by
        have := (List.getElem?_eq_some_iff.mp hk).1
        simpa using this
      have hxe : x = .int (lo + k) := by
        rw [List.getElem?_map, List.getElem?_range hlt] at hk
        simpa using hk.symm
      subst hxe
      refine wpAny_pyNext_range_item (x := lo + k) (left := ((hi' - lo).toNat : Int) - k) (step := 1) ho (by omega) fun h' p1 hs => ?_
      refine q _ _ _ (.int _ _) ?_ (S.setRes (r' := .obj _) hr hs p1) ⟨_, _, rfl⟩
      simp only [ItObj, e]
      have e1 : lo + (k : Int) + 1 = lo + ((k + 1 : Nat) : Int) := by omega
      have e2 : ((hi' - lo).toNat : Int) - k - 1 = ((hi' - lo).toNat : Int) - ((k + 1 : Nat) : Int) := by omega
      rw [e1, e2]
    · rename_i ep es e
      cases hx
      obtain ⟨kvs, hd, hr'⟩ := isDict_of (g := ⟨c, 0, true⟩) S e
      have hl := hr'.length
      simp only [ItObj, e] at hi
      rw [List.getElem?_map, Option.map_eq_some_iff] at hk
      obtain ⟨⟨kk, av⟩, hk1, hk2⟩ := hk
      obtain ⟨hso, vv, hkv⟩ := hr'.get hk1
      subst hk2
      refine wpAny_pyNext_dict_item (k := kk) (v := vv) ⟨o, ho, hi.1, by rw [hl]; exact hi.2⟩ hd hkv fun key h' hkey ⟨o', p1, p2, p3⟩ hs => ?_
      obtain ⟨t, rfl⟩ := strKind_key hkey
      exact q _ _ o' (.str _ _ hso) (by simp only [ItObj, e]; exact ⟨p2, by rw [← hl]; exact p3⟩) (S.setRes hr hs p1) ⟨_, _, rfl⟩
    · cases hx
  | str y =>
    cases hx
    rw [List.getElem?_map, Option.map_eq_some_iff] at hk
    obtain ⟨ch, hk1, rfl⟩ := hk
    have hch : y.cps[k]? = some ch := by rw [← Array.getElem?_toList]; exact hk1
    obtain ⟨t, hc, hd⟩ := hi
    have hok := str_one (hsv y rfl) hch
    rcases hc with hc | hc
    · refine wpAny_pyNext_ascii_item ⟨o, ho, hc, hd⟩ hch fun h' ⟨o', p1, p2, p3⟩ hs => ?_
      exact q _ _ o' (.str _ _ hok) ⟨t, .inl p2, p3⟩ (S.setRes hr hs p1) ⟨_, _, rfl⟩
    · refine wpAny_pyNext_wide_item ⟨o, ho, hc, hd⟩ hch fun h' ⟨o', p1, p2, p3⟩ hs => ?_
      exact q _ _ o' (.str _ _ hok) ⟨t, .inr p2, p3⟩ (S.setRes hr hs p1) ⟨_, _, rfl⟩
  | none => cases hx
  | bool b => cases hx
  | int i => cases hx

set_option tactic.hygienic false in
theorem St1.dropAny {h h' : Heap} {a : Addr} {r₀ : Res} (S : St1 c R H h) (hr : R a = some r₀) (k : Heap.ExtBut a h h') (hsz : c.base.objs.size ≤ h'.objs.size) : St1 c (rdrop R a) H h' := by
  obtain ⟨s1, s2, s3, D, s4⟩ := S
  have nn : ∀ b, R b = none → rdrop R a b = none := fun b e => by
    cases q : rdrop R a b with
    | none => rfl
    | some r => rw [rdrop_le b r q] at e; cases e
  refine ⟨fun b o' e => k b o' (fun z => ?_) (s1 b o' e), hsz, fun b r e => ⟨(s3 b r (rdrop_le b r e)).1, (s3 b r (rdrop_le b r e)).2.agree fun ob z => k b ob (fun w => ?_) z⟩, D, ⟨fun b ao e => ?_, fun b ao e => ⟨(s4.above b ao e).1, nn _ (s4.above b ao e).2⟩, fun b cl es e => ?_, s4.inj⟩⟩
  · have := leN (s3 a _ hr).1; have := lts e; rw [z] at this; omega
  · rw [w, rdrop_same] at e; cases e
  · refine (s4.rep b ao e).agree (fun ob z => k b ob (fun w => ?_) z) fun cl es eo => ⟨rfl, fun ob z => k _ ob (fun w => ?_) z⟩
    · have := (s4.above b ao e).2; rw [w, hr] at this; cases this
    · subst eo; have := (s4.dict b cl es e).2.1; rw [w, hr] at this; cases this
  · obtain ⟨y1, y2, y3⟩ := s4.dict b cl es e
    exact ⟨y1, nn _ y2, y3⟩

theorem St.dropAny {h h' : Heap} {a : Addr} {r₀ : Res} (S : St c R H h) (hr : R a = some r₀) (k : Heap.ExtBut a h h') (hsz : c.base.objs.size ≤ h'.objs.size) : St c (rdrop R a) H h' := let ⟨H₁, s, r⟩ := S; ⟨H₁, s.dropAny hr k hsz, r⟩

theorem it_end {v : AV} {xs : List AV} {k : Nat} {a L : Addr} {m : Str → Option Value} {o : Obj} {Q : Option Value → Shared → Prop} (hh : A.handled = none) (hx : itemsOf H v = some xs) (hk : xs[k]? = none) (hi : ItObj H v k o) (hr : R a = some (.obj o)) (hL : R L = some (.ns m)) (S : St c R H s.heap)
    (q : ∀ s', St c (rdrop R a) H s'.heap → Sm s s' → Q none s') : wpAny (model c.prog c.w) A (pyNext (.ref a)) Q E s := by
  have ho : s.heap.get? a = some o := (S.res _ _ hr).2
  have fin : ∀ h', Heap.ExtBut a s.heap h' → Q none { s with heap := h' } := fun h' k => by
    refine q _ (S.dropAny hr k ?_) ⟨_, _, rfl⟩
    obtain ⟨oL, es, ep, w, _⟩ := (S.res _ _ hL).2
    have h1 := leN (S.res _ _ hL).1
    have h2 := lts (k L oL (fun z => by rw [z, hr] at hL; cases hL) w)
    exact Nat.le_of_lt (Nat.lt_of_le_of_lt h1 h2)
  cases v with
  | ref p =>
    simp only [itemsOf] at hx
    split at hx
    · rename_i ys e
      cases hx
      obtain ⟨vs, n, k1, k2, k3⟩ := isList_of (g := ⟨c, 0, true⟩) S e
      simp only [ItObj, e] at hi
      refine wpAny_pyNext_list_end hh ⟨o, ho, hi.1, hi.2⟩ k3 ?_ fin
      have := k2.length
      simp at hk ⊢; omega
    · rename_i ys e
      cases hx
      obtain ⟨vs, n, k1, k2, k3⟩ := isTup_of (g := ⟨c, 0, true⟩) S e
      simp only [ItObj, e] at hi
      refine wpAny_pyNext_tuple_end (items := vs.toArray) hh ⟨o, ho, hi.1, hi.2⟩ ⟨_, k1, rfl, _, rfl⟩ ?_ fin
      have := k2.length
      simp at hk ⊢; omega
    · rename_i lo hi' e
      cases hx
      simp only [ItObj, e] at hi
      subst hi
      have hlt : (hi' - lo).toNat ≤ k := by simpa using hk
      exact wpAny_pyNext_range_end (x := lo + k) (left := ((hi' - lo).toNat : Int) - k) (step := 1) hh ho (by omega) fin
    · rename_i ep es e
      cases hx
      obtain ⟨kvs, hd, hr'⟩ := isDict_of (g := ⟨c, 0, true⟩) S e
      have hl := hr'.length
      simp only [ItObj, e] at hi
      refine wpAny_pyNext_dict_end hh ⟨o, ho, hi.1, by rw [hl]; exact hi.2⟩ hd ?_ fin
      simp at hk ⊢; omega
    · cases hx
  | str y =>
    cases hx
    have hch : y.cps[k]? = none := by rw [← Array.getElem?_toList]; simpa using hk
    obtain ⟨t, hc, hd⟩ := hi
    rcases hc with hc | hc
    · exact wpAny_pyNext_ascii_end hh ⟨o, ho, hc, hd⟩ hch fin
    · exact wpAny_pyNext_wide_end hh ⟨o, ho, hc, hd⟩ hch fin
  | none => cases hx
  | bool b => cases hx
  | int i => cases hx
end
end Mine

end
section
open PySem PySem.W PyProof.Rows PySem.Spec PySem.SeqAt PySem.Calls
namespace Mine

noncomputable def RStep (env : Env) (R R' : RR) : Prop := ∀ b, R' b = R b ∨ (b = env.locals ∧ ∃ m m', R b = some (.ns m) ∧ R' b = some (.ns m')) ∨ ((∃ n, env.cells.lookup n = some b) ∧ ∃ x x', R b = some (.cell x) ∧ R' b = some (.cell x'))
theorem RStep.refl {env : Env} {R : RR} : RStep env R R := fun _ => .inl rfl
set_option tactic.hygienic false in
theorem RStep.trans {env : Env} {R R' R'' : RR} (x : RStep env R R') (y : RStep env R' R'') : RStep env R R'' := fun b => by
  rcases x b with h | ⟨h1, m, m', h2, h3⟩ | ⟨h1, m, m', h2, h3⟩
  · rcases y b with k | ⟨k1, m, m', k2, k3⟩ | ⟨k1, m, m', k2, k3⟩
    · exact .inl (k.trans h)
    · exact .inr (.inl ⟨k1, m, m', by rw [← h]; exact k2, k3⟩)
    · exact .inr (.inr ⟨k1, m, m', by rw [← h]; exact k2, k3⟩)
  · rcases y b with k | ⟨k1, n, n', k2, k3⟩ | ⟨k1, n, n', k2, k3⟩
    · exact .inr (.inl ⟨h1, m, m', h2, by rw [k]; exact h3⟩)
    · exact .inr (.inl ⟨h1, m, n', h2, k3⟩)
    · rw [h3] at k2; cases k2
  · rcases y b with k | ⟨k1, n, n', k2, k3⟩ | ⟨k1, n, n', k2, k3⟩
    · exact .inr (.inr ⟨h1, m, m', h2, by rw [k]; exact h3⟩)
    · rw [h3] at k2; cases k2
    · exact .inr (.inr ⟨h1, m, n', h2, k3⟩)
set_option tactic.hygienic false in
theorem RStep.ns {env : Env} {R R' : RR} (x : RStep env R R') {a : Addr} {m} (h : R a = some (.ns m)) : ∃ m', R' a = some (.ns m') := by
  rcases x a with k | ⟨_, _, m', _, k⟩ | ⟨_, _, _, k, _⟩
  · exact ⟨m, k.trans h⟩
  · exact ⟨m', k⟩
  · rw [h] at k; cases k
set_option tactic.hygienic false in
theorem RStep.obj {env : Env} {R R' : RR} (x : RStep env R R') {a : Addr} {o} (h : R a = some (.obj o)) : R' a = some (.obj o) := by
  rcases x a with k | ⟨_, _, m', k, _⟩ | ⟨_, _, _, k, _⟩
  · exact k.trans h
  · rw [h] at k; cases k
  · rw [h] at k; cases k
theorem RStep.stk {env : Env} {R R' : RR} (x : RStep env R R') {l : List Env} (h : Stk R l) : Stk R' l := fun e he =>
  let F := h e he
  ⟨F.kind, F.frame, F.gen, F.co, F.blt, F.glob, let ⟨_, hm⟩ := F.ns; x.ns hm⟩
theorem Ev.step {g : Gx} {A : Around} {R R' : RR} {env e : Env} {l : List Env} (x : RStep env R R') (h : Ev g A R e l) : Ev g A R' e l := ⟨h.aok, x.stk h.stk⟩

set_option tactic.hygienic false in
theorem Frm.congr {R R' : RR} {env : Env} {sc : Scope} {nm : List Str} {V : VV} (fr : Frm R env sc nm V) (h : ∀ b, (∃ m, R b = some (.ns m)) ∨ (∃ x, R b = some (.cell x)) → R' b = R b) : Frm R' env sc nm V := by
  obtain ⟨k1, k2, k3, k4, k5, k6, k7, kc, kl, k8, ⟨m, n1, n2⟩, k9⟩ := fr
  refine ⟨k1, k2, k3, k4, k5, k6, k7, kc, kl, k8, ⟨m, (h _ (.inl ⟨m, n1⟩)).trans n1, n2⟩, fun i n hn hk => ?_⟩
  obtain ⟨a, x, v, c1, c2, c3⟩ := k9 i n hn hk
  exact ⟨a, x, v, c1, (h _ (.inr ⟨x, c2⟩)).trans c2, c3⟩

section
variable {c : Cx} {R : RR} {H : AHeap} {V : VV} {env : Env} {sc : Scope} {nm : List Str}

set_option tactic.hygienic false in
theorem Frm.local' (fr : Frm R env sc nm V) (nd : nm.Nodup) {i : Nat} {id : Str} {x : Option AV} {w : Option Value} {m : Str → Option Value} (hi : nm[i]? = some id) (hl : env.kindOf id = some .local) (hm : R env.locals = some (.ns m)) (hv : OVW x w) :
    Frm (rup R env.locals (.ns fun y => if y = id then w else m y)) env sc nm (V.set i x) := by
  obtain ⟨k1, k2, k3, k4, k5, k6, k7, kc, kl, k8, ⟨m', n1, n2⟩, k9⟩ := fr
  rw [hm] at n1; cases n1
  have hnd : ∀ {j : Nat} {n : Str}, nm[j]? = some n → (n = id ↔ j = i) := fun {j n} hj => by
    constructor
    · rintro rfl
      have h1 := List.getElem?_eq_some_iff.mp hj
      have h2 := List.getElem?_eq_some_iff.mp hi
      exact (List.getElem_inj nd).mp (h1.2.trans h2.2.symm)
    · rintro rfl; rw [hi] at hj; cases hj; rfl
  refine ⟨k1, k2, k3, k4, k5, k6, k7, kc, by rw [List.length_set]; exact kl, k8, ⟨_, rup_same, fun j n hj hk => ?_⟩, fun j n hj hk => ?_⟩
  · obtain ⟨v, v1, v2⟩ := n2 j n hj hk
    by_cases q : n = id
    · have := (hnd hj).mp q
      subst q this
      have hlt := (List.getElem?_eq_some_iff.mp v1).1
      exact ⟨x, by simp [hlt], by simpa using hv⟩
    · have hne : j ≠ i := fun z => q ((hnd hj).mpr z)
      exact ⟨v, by rw [List.getElem?_set_ne (Ne.symm hne)]; exact v1, by simp only [q, if_false]; exact v2⟩
  · obtain ⟨a, y, v, c1, c2, c3, c4⟩ := k9 j n hj hk
    have hna : a ≠ env.locals := fun z => by rw [z, hm] at c2; cases c2
    have hne : j ≠ i := fun z => by
      have := (hnd hj).mpr z
      subst this
      rw [hl] at hk; rcases hk with hk | hk <;> cases hk
    exact ⟨a, y, v, c1, by rw [rup_other hna]; exact c2, by rw [List.getElem?_set_ne (Ne.symm hne)]; exact c3, c4⟩

set_option tactic.hygienic false in
theorem Frm.cell' (fr : Frm R env sc nm V) (nd : nm.Nodup) {i : Nat} {id : Str} {a : Addr} {x : Option AV} {w y : Option Value} (hi : nm[i]? = some id) (hl : env.kindOf id = some .cell) (ha : env.cells.lookup id = some a) (hr : R a = some (.cell y)) (hv : OVW x w) :
    Frm (rup R a (.cell w)) env sc nm (V.set i x) := by
  obtain ⟨k1, k2, k3, k4, k5, k6, k7, kc, kl, k8, ⟨m', n1, n2⟩, k9⟩ := fr
  have hnd : ∀ {j : Nat} {n : Str}, nm[j]? = some n → (n = id ↔ j = i) := fun {j n} hj => by
    constructor
    · rintro rfl
      have h1 := List.getElem?_eq_some_iff.mp hj
      have h2 := List.getElem?_eq_some_iff.mp hi
      exact (List.getElem_inj nd).mp (h1.2.trans h2.2.symm)
    · rintro rfl; rw [hi] at hj; cases hj; rfl
  have hna : env.locals ≠ a := fun z => by rw [z, hr] at n1; cases n1
  refine ⟨k1, k2, k3, k4, k5, k6, k7, kc, by rw [List.length_set]; exact kl, k8, ⟨m', by rw [rup_other hna]; exact n1, fun j n hj hk => ?_⟩, fun j n hj hk => ?_⟩
  · obtain ⟨v, v1, v2⟩ := n2 j n hj hk
    have hne : j ≠ i := fun z => by
      have := (hnd hj).mpr z
      subst this
      rw [hl] at hk; cases hk
    exact ⟨v, by rw [List.getElem?_set_ne (Ne.symm hne)]; exact v1, v2⟩
  · obtain ⟨b, z, v, c1, c2, c3, c4⟩ := k9 j n hj hk
    by_cases q : n = id
    · have := (hnd hj).mp q
      subst q this
      rw [ha] at c1; cases c1
      have hlt := (List.getElem?_eq_some_iff.mp c3).1
      exact ⟨a, w, x, ha, rup_same, by simp [hlt], hv⟩
    · have hne : j ≠ i := fun z => q ((hnd hj).mpr z)
      have hab : b ≠ a := fun z => q (k8 n id a (by rw [← z]; exact c1) ha)
      exact ⟨b, z, v, c1, by rw [rup_other hab]; exact c2, by rw [List.getElem?_set_ne (Ne.symm hne)]; exact c3, c4⟩

set_option tactic.hygienic false in
theorem st_name {M : Model} {A : Around} {E : Value → Shared → Prop} {s : Shared} {i : Nat} {id : Str} {x : AV} {u : Value} {Q : Unit → Shared → Prop} (fr : Frm R env sc nm V) (nd : nm.Nodup) (hi : nm[i]? = some id) (hk : locKind sc id = true) (hv : VR x u)
    (S : St c R H s.heap) (q : ∀ s' R', RStep env R R' → Frm R' env sc nm (V.set i (some x)) → St c R' H s'.heap → Sm s s' → Q () s') : wpAny M A (storeName env id u) Q E s := by
  obtain ⟨m, hm, _⟩ := fr.ns
  rcases fr.lok id hk with hl | hl
  · refine wpAny_storeName_local hl (S.res _ _ hm).2 (fun h' hn hs => ?_) (by rw [fr.kind]; rfl)
    refine q _ _ (fun b => ?_) (fr.local' nd hi hl hm (.some hv)) (S.setRes (r' := .ns _) hm hs hn) ⟨_, _, rfl⟩
    by_cases z : b = env.locals
    · subst z; exact .inr (.inl ⟨rfl, _, _, hm, rup_same⟩)
    · exact .inl (rup_other z)
  · obtain ⟨a, y, v, c1, c2, c3, c4⟩ := fr.cell i id hi (.inl hl)
    refine wpAny_storeName_cell fr.kind hl c1 (S.res _ _ c2).2 fun h' hn hs => ?_
    refine q _ _ (fun b => ?_) (fr.cell' nd hi hl c1 c2 (.some hv)) (S.setRes (r' := .cell _) c2 hs hn) ⟨_, _, rfl⟩
    by_cases z : b = a
    · subst z; exact .inr (.inr ⟨⟨_, c1⟩, _, _, c2, rup_same⟩)
    · exact .inl (rup_other z)

set_option tactic.hygienic false in
theorem ExcSt1.weaken {R' : RR} {e : Addr} {cl : String} {fl : Value} {h : Heap} (X : ExcSt1 c R' H e cl fl h) (k : ∀ b r, R b = some r → R' b = some r) : ExcSt1 c R H e cl fl h := by
  obtain ⟨st, re, he, be, ob, kn⟩ := X
  have nn : ∀ a, R' a = none → R a = none := fun a e => by
    cases q : R a with
    | none => rfl
    | some r => rw [k a r q] at e; cases e
  refine ⟨st.weaken k, nn _ re, he, be, ?_, kn⟩
  cases ob with
  | fresh h1 => exact .fresh h1
  | traced h1 h2 h3 h4 h5 h6 h7 h8 h9 h10 h11 h12 h13 => exact .traced h1 h2 h3 h4 h5 h6 (nn _ h7) h8 h9 h10 h11 h12 h13

set_option tactic.hygienic false in
theorem ExcAt.obj {e : Addr} {cls fl : Value} {h : Heap} (X : ExcAt c R H h e cls fl) : ∃ o vs, h.get? e = some o ∧ o.cls = cls ∧ o.data = .fields vs := by
  cases X with
  | fresh h1 => exact ⟨_, _, h1, rfl, rfl⟩
  | traced h1 h2 h3 => exact ⟨_, _, h1, h2, h3⟩

set_option tactic.hygienic false in
theorem ExcSt1.caught {e : Addr} {cl : String} {fl : Value} {h : Heap} (X : ExcSt1 c R H e cl fl h) : St1 c R (up H e (.exc cl)) h := by
  obtain ⟨⟨s1, s2, s3, D, s4⟩, re, he, be, ob, kn⟩ := X
  obtain ⟨o, vs, o1, o2, o3⟩ := ob.obj
  refine ⟨s1, s2, s3, D, ⟨fun a ao z => ?_, fun a ao z => ?_, fun a cl' es z => ?_, fun a b cl' es cl'' es' z z' => ?_⟩⟩
  · by_cases q : a = e
    · subst q; rw [up_same] at z; cases z; exact ⟨o, o1, o2, vs, o3⟩
    · rw [up_other q] at z; exact s4.rep a ao z
  · by_cases q : a = e
    · subst q; rw [up_same] at z; cases z; exact ⟨⟨fun _ => be, fun w => by cases w⟩, re⟩
    · rw [up_other q] at z; exact s4.above a ao z
  · by_cases q : a = e
    · subst q; rw [up_same] at z; cases z
    · rw [up_other q] at z
      obtain ⟨y1, y2, y3⟩ := s4.dict a cl' es z
      refine ⟨y1, y2, ?_⟩
      rw [up_other (fun w => ?_)]; · exact y3
      obtain ⟨_, ents, n, w', _⟩ := s4.rep a _ z
      rw [w, o1] at w'; cases w'; cases o3
  · by_cases q : a = e
    · subst q; rw [up_same] at z; cases z
    · by_cases q' : b = e
      · subst q'; rw [up_same] at z'; cases z'
      · rw [up_other q] at z; rw [up_other q'] at z'; exact s4.inj a b cl' es cl'' es' z z'
theorem ExcSt.weaken {R' : RR} {e : Addr} {cl : String} {fl : Value} {h : Heap} (X : ExcSt c R' H e cl fl h) (k : ∀ b r, R b = some r → R' b = some r) : ExcSt c R H e cl fl h := let ⟨H₁, X, r⟩ := X; ⟨H₁, X.weaken k, r⟩
theorem ExcSt.obj {e : Addr} {cl : String} {fl : Value} {h : Heap} (X : ExcSt c R H e cl fl h) : ∃ o vs, h.get? e = some o ∧ o.cls = .ref (c.ca cl) ∧ o.data = .fields vs := let ⟨_, X, _⟩ := X; X.ob.obj
theorem ExcSt.caught {e : Addr} {cl : String} {fl : Value} {h : Heap} (X : ExcSt c R H e cl fl h) : St c R (up H e (.exc cl)) h := let ⟨_, X, r⟩ := X; ⟨_, X.caught, r.put rfl (.inl X.he)⟩
end

inductive TFn (c : Cx) (env : Env) (sc : Scope) (nm : List Str) (R : RR) (s₀ : Shared) (QN : VV → AHeap → Prop) (s' : Shared) : Prop
  | mk (R' : RR) (V' : VV) (H' : AHeap) (r : RStep env R R') (f : Frm R' env sc nm V') (S : St c R' H' s'.heap) (m : Sm s₀ s') (q : QN V' H') : TFn c env sc nm R s₀ QN s'
inductive TFr (c : Cx) (env : Env) (R : RR) (s₀ : Shared) (QR : AV → AHeap → Prop) (v : Value) (s' : Shared) : Prop
  | mk (R' : RR) (av : AV) (H' : AHeap) (r : RStep env R R') (hv : VR av v) (S : St c R' H' s'.heap) (m : Sm s₀ s') (q : QR av H') : TFr c env R s₀ QR v s'
inductive TXi (c : Cx) (env : Env) (sc : Scope) (nm : List Str) (R : RR) (s₀ : Shared) (E : String → VV → AHeap → Prop) (e : Value) (s' : Shared) : Prop
  | mk (a : Addr) (cl : String) (R' : RR) (V' : VV) (H' : AHeap) (fl : Value) (h : e = .ref a) (r : RStep env R R') (f : Frm R' env sc nm V') (k : FlOk env fl) (X : ExcSt c R' H' a cl fl s'.heap) (m : Sm s₀ s') (q : E cl V' H') : TXi c env sc nm R s₀ E e s'
noncomputable def TF (g : Gx) (env : Env) (sc : Scope) (nm : List Str) (R : RR) (s₀ : Shared) (QN : VV → AHeap → Prop) (QR : AV → AHeap → Prop) (f : Flow) (s' : Shared) : Prop :=
  match f with
  | .next => TFn g.c env sc nm R s₀ QN s'
  | .ret v => TFr g.c env R s₀ QR v s'
  | _ => False
noncomputable def TX (g : Gx) (env : Env) (sc : Scope) (nm : List Str) (R : RR) (s₀ : Shared) (E : String → VV → AHeap → Prop) (e : Value) (s' : Shared) : Prop :=
  TXi g.c env sc nm R s₀ E e s'

noncomputable def SOk (g : Gx) (sc : Scope) (nm : List Str) (w : Gx → (VV → AHeap → Prop) → (AV → AHeap → Prop) → (String → VV → AHeap → Prop) → VV → AHeap → Prop) (t : Env → Sem Flow) : Prop :=
  ∀ (md : Bool) (A : Around) (env : Env) (l₀ : List Env) (R : RR) (V : VV) (s₀ s : Shared) (H : AHeap) (QN : VV → AHeap → Prop) (QR : AV → AHeap → Prop) (E : String → VV → AHeap → Prop),
    Ev { g with md := md } A R env l₀ → Frm R env sc nm V → St g.c R H s.heap → Sm s₀ s → w { g with md := md } QN QR E V H →
    wpAny (model g.c.prog g.c.w) A (t env) (TF g env sc nm R s₀ QN QR) (TX g env sc nm R s₀ E) s
end Mine

end
section
open PySem PySem.W PyProof.Rows PySem.Spec PySem.SeqAt PySem.Calls
namespace Mine

section
variable {c : Cx} {R : RR} {H : AHeap} {A : Around} {E : Value → Shared → Prop} {s : Shared}

set_option tactic.hygienic false in
theorem rup_rup {R : RR} {a : Addr} {r r' : Res} : rup (rup R a r) a r' = rup R a r' := by
  funext b
  by_cases q : b = a
  · subst q; rw [rup_same, rup_same]
  · rw [rup_other q, rup_other q, rup_other q]
set_option tactic.hygienic false in
theorem rdrop_rup {R : RR} {a : Addr} {r : Res} (h : R a = none) : rdrop (rup R a r) a = R := by
  funext b
  by_cases q : b = a
  · subst q; rw [rdrop_same, h]
  · rw [rdrop_other q, rup_other q]

set_option tactic.hygienic false in
theorem draw_it {p a : Addr} {xs : List AV} (hx : itemsOf H (.ref p) = some xs) : ∀ (n k : Nat) (s : Shared) (o : Obj) (Q : List Value → Shared → Prop), k + n ≤ xs.length → ItObj H (.ref p) k o → St c (rup R a (.obj o)) H s.heap →
    (∀ s' o' vs, ItObj H (.ref p) (k + n) o' → VRs ((xs.drop k).take n) vs → St c (rup R a (.obj o')) H s'.heap → Sm s s' → Q vs s') → wpAny (model c.prog c.w) A (draw (.ref a) n) Q E s
  | 0, k, s, o, Q, _, hi, S, q => wpAny_pure (q s o [] hi (by rw [List.take_zero]; exact .nil) S ⟨_, _, rfl⟩)
  | n + 1, k, s, o, Q, hk, hi, S, q => by
    have hlt : k < xs.length := by omega
    show wpAny _ _ (pyNext (.ref a) >>= _) Q E s
    refine wpAny_bind (it_item (x := xs[k]) hx (by simp [hlt]) hi rup_same S (fun y z => by cases z) fun s₁ u o₁ hu ho₁ S₁ m₁ => ?_)
    rw [rup_rup] at S₁
    refine wpAny_bind (wpAny_holding (draw_it hx n (k + 1) s₁ o₁ _ (by omega) ho₁ S₁ fun s₂ o₂ vs ho₂ hv S₂ m₂ => wpAny_pure ?_))
    refine q s₂ o₂ (u :: vs) (by rw [show k + (n + 1) = k + 1 + n by omega]; exact ho₂) ?_ S₂ (m₁.trans m₂)
    rw [List.drop_eq_getElem_cons hlt, List.take_succ_cons]
    exact .cons hu hv

set_option tactic.hygienic false in
theorem unpack_it {mg mb : Str → Option Value} {p L : Addr} {mL : Str → Option Value} {xs : List AV} {Q : List Value → Shared → Prop} (C : c.Ok mg mb) (hh : A.handled = none) (hL : R L = some (.ns mL)) (S : St c R H s.heap) (hx : H p = some (.tuple xs) ∨ H p = some (.list xs))
    (q : ∀ s' vs, VRs xs vs → St c R H s'.heap → Sm s s' → Q vs s') : wpAny (model c.prog c.w) A (unpackItems (.ref p) xs.length none) Q E s := by
  have hit : itemsOf H (.ref p) = some xs := by rcases hx with e | e <;> simp [itemsOf, e]
  unfold unpackItems
  refine wpAny_bind ?_
  have hno : wpAny (model c.prog c.w) A (notIterableAtAll (.ref p)) (fun b s' => b = false ∧ s' = s) E s := by
    unfold notIterableAtAll
    rcases hx with e | e
    · obtain ⟨vs, n, k1, k2, k3⟩ := isTup_of (g := ⟨c, 0, true⟩) S e
      refine wpAny_bind (wpAny_specialOf ⟨_, k1, rfl⟩ PySem.F.slot_tuple_iter.lookup (wpAny_pure ⟨rfl, rfl⟩))
    · obtain ⟨vs, n, k1, k2, k3⟩ := isList_of (g := ⟨c, 0, true⟩) S e
      refine wpAny_bind (wpAny_specialOf ⟨_, k1, rfl⟩ PySem.slot_list_iter.lookup (wpAny_pure ⟨rfl, rfl⟩))
  refine wpAny_mono hno (fun b s' z => ?_) fun _ _ z => z
  obtain ⟨rfl, rfl⟩ := z
  dsimp only [Bool.false_eq_true, if_false]
  refine wpAny_bind (wpAny_holding (it_new C (.ref p) S hit fun s₁ a o ha hHa ho S₁ m₁ => ?_))
  refine wpAny_bind (wpAny_holding (draw_it hit xs.length 0 s₁ o _ (by omega) ho S₁ fun s₂ o₂ vs ho₂ hv S₂ m₂ => ?_))
  rw [List.drop_zero, List.take_length] at hv
  rw [if_neg (by rw [← hv.length]; exact Nat.lt_irrefl _)]
  have hLa : L ≠ a := fun z => by rw [z, ha] at hL; cases hL
  refine wpAny_bind (wpAny_holding (it_end hh hit (by simp) ho₂ rup_same (by rw [rup_other hLa]; exact hL) S₂ fun s₃ S₃ m₃ => ?_))
  rw [rdrop_rup ha] at S₃
  dsimp only [Option.isSome_none, Bool.false_eq_true, if_false]
  exact wpAny_pure (q s₃ vs hv S₃ ((m₁.trans m₂).trans m₃))

theorem owned_it {v : AV} {k : Nat} {a : Addr} {o : Obj} {tg : PySem.Expr} {u : Value} {Q : Unit → Shared → Prop} (hi : ItObj H v k o) (ho : s.heap.get? a = some o) (q : Q () s) : wpAny (model c.prog c.w) A (letOwnedTupleGo tg (.ref a) u) Q E s := by
  have key : ∀ n vs, o.cls = .type n → o.data = .fields vs → ["enumerate", "zip", "dict_itemiterator", "dict_reverseitemiterator", "odict_iterator", "itertools.zip_longest", "itertools.pairwise"].contains n = false →
      wpAny (model c.prog c.w) A (letOwnedTupleGo tg (.ref a) u) Q E s := by
    intro n vs h1 h2 h3
    unfold letOwnedTupleGo
    split
    all_goals first | exact wpAny_pure q | skip
    all_goals (
      split
      · rename_i e
        cases e
        refine wpAny_bind (wpAny_load ho ?_)
        rw [h1, h2]
        dsimp only
        rw [h3, Bool.false_and, if_neg Bool.false_ne_true]
        exact wpAny_pure q
      · exact wpAny_pure q)
  cases v with
  | ref p =>
    simp only [ItObj] at hi
    split at hi
    · exact key _ _ hi.1 hi.2 (by decide)
    · exact key _ _ hi.1 hi.2 (by decide)
    · subst hi; exact key _ _ rfl rfl (by decide)
    · exact key _ _ hi.1 hi.2 (by decide)
    · exact hi.elim
  | str y =>
    obtain ⟨t, hc, hd⟩ := hi
    rcases hc with hc | hc
    · exact key _ _ hc hd (by decide)
    · exact key _ _ hc hd (by decide)
  | none => exact hi.elim
  | bool b => exact hi.elim
  | int i => exact hi.elim
end

set_option tactic.hygienic false in
theorem assignEach_names {env : Env} {es : List PySem.Expr} : ∀ {ts : List Str}, namesOfE es = some ts → (assignEach es env).length = ts.length ∧ (assignEach es env).findIdx? (·.1) = none := by
  induction es with
  | nil => intro ts h; cases h; exact ⟨rfl, rfl⟩
  | cons e r ih =>
    intro ts h
    obtain ⟨id, p, rfl⟩ : ∃ id p, e = .Name id p := by cases e <;> first | exact ⟨_, _, rfl⟩ | cases h
    obtain ⟨ts', h1, rfl⟩ := Option.map_eq_some_iff.mp h
    obtain ⟨i1, i2⟩ := ih h1
    exact ⟨congrArg Nat.succ i1, by show List.findIdx? _ ((false, _) :: assignEach r env) = none; rw [List.findIdx?_cons, i2]; rfl⟩
end Mine

end
section
open PySem PySem.W PyProof.Rows PySem.Spec PySem.SeqAt PySem.Calls
namespace Mine

noncomputable def closL (env : Env) : List (Str × NameKind) → List (Str × Addr) → List (Str × Addr)
  | [], acc => acc
  | (n, k) :: r, acc => if k == .free then closL env r ((n, (env.cells.lookup n).getD 0) :: acc) else closL env r acc

set_option tactic.hygienic false in
theorem clos_eq {env : Env} (f : Str × NameKind → List (Str × Addr) → Sem (ForInStep (List (Str × Addr)))) (hf : ∀ n k cs, f (n, k) cs = if k == .free then (do let a ← cellOf env n; pure (.yield ((n, a) :: cs))) else pure (.yield cs)) :
    ∀ (names : List (Str × NameKind)) (acc : List (Str × Addr)), (∀ p ∈ names, p.2 = .free → ∃ a, env.cells.lookup p.1 = some a) → forIn names acc f = (pure (closL env names acc) : Sem _)
  | [], acc, _ => by rw [List.forIn_nil]; rfl
  | (n, k) :: r, acc, h => by
    rw [List.forIn_cons, hf]
    have ih := clos_eq f hf r
    unfold closL
    cases hk : k == NameKind.free with
    | true =>
      obtain ⟨a, ha⟩ := h (n, k) (.head _) (by simpa using hk)
      simp only [if_true, cellOf, ha, Option.getD_some]
      exact ih _ fun p hp => h p (.tail _ hp)
    | false =>
      simp only [Bool.false_eq_true, if_false]
      exact ih _ fun p hp => h p (.tail _ hp)

set_option tactic.hygienic false in
theorem closureFor_of {env : Env} {sc : Scope} (h : ∀ p ∈ sc.names, p.2 = .free → ∃ a, env.cells.lookup p.1 = some a) : closureFor sc env = pure (closL env sc.names []) := by
  unfold closureFor
  dsimp only
  rw [clos_eq (env := env) _ (fun n k cs => by cases hk : k == NameKind.free <;> simp only [hk]) sc.names [] h]
  rfl

theorem closL_mem {env : Env} : ∀ {names : List (Str × NameKind)} {acc : List (Str × Addr)} {n : Str} {a : Addr}, (n, a) ∈ closL env names acc → (n, a) ∈ acc ∨ ((n, NameKind.free) ∈ names ∧ a = (env.cells.lookup n).getD 0)
  | [], acc, n, a, h => .inl h
  | (n', k) :: r, acc, n, a, h => by
    unfold closL at h
    split at h
    · rename_i hk
      rcases closL_mem h with h | ⟨h1, h2⟩
      · rcases List.mem_cons.mp h with h | h
        · cases h
          exact .inr ⟨by rw [← (by simpa using hk : k = .free)]; exact .head _, rfl⟩
        · exact .inl h
      · exact .inr ⟨.tail _ h1, h2⟩
    · rcases closL_mem h with h | ⟨h1, h2⟩
      · exact .inl h
      · exact .inr ⟨.tail _ h1, h2⟩
set_option tactic.hygienic false in
theorem closL_acc {env : Env} : ∀ {names : List (Str × NameKind)} {acc : List (Str × Addr)} {p : Str × Addr}, p ∈ acc → p ∈ closL env names acc
  | [], _, _, h => h
  | (n', k) :: r, acc, p, h => by
    unfold closL
    split
    · exact closL_acc (.tail _ h)
    · exact closL_acc h
set_option tactic.hygienic false in
theorem closL_has {env : Env} : ∀ {names : List (Str × NameKind)} {acc : List (Str × Addr)} {n : Str}, (n, NameKind.free) ∈ names → (n, (env.cells.lookup n).getD 0) ∈ closL env names acc
  | (n', k) :: r, acc, n, h => by
    unfold closL
    rcases List.mem_cons.mp h with h | h
    · cases h; simp only [beq_self_eq_true, if_true]; exact closL_acc (.head _)
    · split <;> exact closL_has h

set_option tactic.hygienic false in
theorem relabel_lookup {env : Env} : ∀ {names : List (Str × NameKind)} {x : Str},
    (names.map fun (n, k) => if (k == NameKind.free && env.scope.kind == .function && env.kindOf n == some .cell) then (n, NameKind.cell) else (n, k)).lookup x =
      (names.lookup x).map fun k => if (k == NameKind.free && env.scope.kind == .function && env.kindOf x == some .cell) then NameKind.cell else k
  | [], _ => rfl
  | (n, k) :: r, x => by
    have ih := @relabel_lookup env r x
    show List.lookup x ((if (k == NameKind.free && env.scope.kind == .function && env.kindOf n == some .cell) = true then (n, NameKind.cell) else (n, k)) :: _) = _
    cases hx : x == n with
    | true =>
      have : x = n := by simpa using hx
      subst this
      split <;> simp_all [List.lookup_cons]
    | false =>
      split <;> simp only [List.lookup_cons, hx] <;> exact ih

theorem lookup_memK {l : List (Str × NameKind)} {n : Str} {k : NameKind} (h : l.lookup n = some k) : (n, k) ∈ l := mem_of_lookup h

theorem hideN_get {nm ts : List Str} {i : Nat} {n : Str} (h : (hideN nm ts)[i]? = some n) (hn : n.length ≠ 0) : nm[i]? = some n ∧ n ∉ ts := by
  unfold hideN at h
  rw [List.getElem?_map, Option.map_eq_some_iff] at h
  obtain ⟨y, h1, h2⟩ := h
  split at h2
  · subst h2; exact absurd rfl hn
  · rename_i hc; subst h2; exact ⟨h1, by simpa using hc⟩

theorem Frm.inner {R R' : RR} {env : Env} {sc csc : Scope} {nm ts : List Str} {V : VV} {xv : List AV} {C : Addr} {m : Str → Option Value} (fr : Frm R env sc nm V) (hm : compScOk sc csc nm ts = true) (hC : R' C = some (.ns m)) (hk : ∀ b r, R b = some r → R' b = some r)
    (hl : xv.length = ts.length) (hts : ∀ (j : Nat) t, ts[j]? = some t → ∃ a u, xv[j]? = some a ∧ m t = some u ∧ VR a u) : Frm R' (compEnvC csc (closL env csc.names []) C env) csc (hideN nm ts ++ ts) (V ++ xv.map some) := by
  unfold compScOk at hm
  simp only [Bool.and_eq_true, Bool.not_eq_true', beq_iff_eq, List.all_eq_true, decide_eq_true_eq, bne_iff_ne, ne_eq, Bool.or_eq_true] at hm
  obtain ⟨⟨⟨⟨h1, h2⟩, h3⟩, h4⟩, h5⟩ := hm
  have hkd : ∀ n, (compEnvC csc (closL env csc.names []) C env).kindOf n = (csc.names.lookup n).map fun k => if (k == NameKind.free && env.scope.kind == .function && env.kindOf n == some .cell) then NameKind.cell else k := fun n => relabel_lookup
  have hfree : ∀ n, csc.names.lookup n = some .free → env.kindOf n = some .cell ∧ ∃ i, nm[i]? = some n := fun n hn => by
    have := h5 (n, .free) (lookup_memK hn)
    obtain ⟨⟨⟨_, _⟩, a⟩, _⟩ := this
    rcases a with a | ⟨⟨a, b⟩, _⟩
    · exact absurd rfl a
    · have hb : n ∈ nm := by simpa using b
      obtain ⟨i, hi, e⟩ := List.mem_iff_getElem.mp hb
      exact ⟨fr.cco n a, i, by rw [List.getElem?_eq_getElem hi, e]⟩
  have hnc : ∀ n, csc.names.lookup n ≠ some .cell := fun n hn => by
    have := h5 (n, .cell) (lookup_memK hn)
    exact this.1.1.1 rfl
  have hlocal : ∀ n, csc.names.lookup n = some .local → n ∈ ts ∨ n = Str.ofString ".0" := fun n hn => by
    have := h5 (n, .local) (lookup_memK hn)
    rcases this.1.1.2 with a | ⟨_, a⟩
    · exact absurd rfl a
    · simpa using a
  have hlen : ∀ n k, csc.names.lookup n = some k → n.length ≠ 0 := fun n k hn => (h5 (n, k) (lookup_memK hn)).2
  have hclook : ∀ n a, (closL env csc.names []).lookup n = some a → a = (env.cells.lookup n).getD 0 ∧ (n, NameKind.free) ∈ csc.names := fun n a h => by
    rcases closL_mem (mem_of_lookup h) with h | ⟨h1, h2⟩
    · cases h
    · exact ⟨h2, h1⟩
  have hcell : ∀ n, csc.names.lookup n = some .free → ∃ a, env.cells.lookup n = some a ∧ (closL env csc.names []).lookup n = some a := fun n hn => by
    obtain ⟨k1, i, hi⟩ := hfree n hn
    obtain ⟨a, x, v, c1, _⟩ := fr.cell i n hi (.inl k1)
    have hmem := closL_has (env := env) (acc := []) (lookup_memK hn)
    have hs : ((closL env csc.names []).lookup n).isSome = true := by
      cases q : (closL env csc.names []).lookup n with
      | some => rfl
      | none => have := List.lookup_eq_none_iff.mp q _ hmem; simp at this
    obtain ⟨b, hb⟩ := Option.isSome_iff_exists.mp hs
    obtain ⟨e1, _⟩ := hclook n b hb
    rw [c1] at e1
    exact ⟨a, c1, by rw [hb, e1]; rfl⟩
  refine ⟨h1, fr.glob, fr.blt, fun id h => ?_, fun id h => ?_, fun id h => ?_, fun id h => ?_, fun id h => absurd h (hnc id), ?_, fun n n' a e e' => ?_, ⟨m, hC, fun i n hi hk' => ?_⟩, fun i n hi hk' => ?_⟩
  · rw [hkd]; unfold isGlob at h; rw [beq_iff_eq.mp h]; rfl
  · rw [hkd]; unfold kindOk at h
    split at h
    · rename_i z; rw [z]; left; rfl
    · rename_i z; exact absurd z (hnc id)
    · rename_i z; rw [z]; simp only [Option.map_some]; split <;> simp
    · cases h
  · rw [hkd]; unfold locKind at h
    split at h
    · rename_i z; rw [z]; left; rfl
    · rename_i z; exact absurd z (hnc id)
    · cases h
  · rw [hkd, h]; rfl
  · simp only [List.length_append, List.length_map, hideN, fr.len, hl]
  · obtain ⟨e1, f1⟩ := hclook n a e
    obtain ⟨e2, f2⟩ := hclook n' a e'
    have g1 := h5 _ f1
    have g2 := h5 _ f2
    rcases g1.1.2 with z | ⟨_, g1⟩
    · exact absurd rfl z
    rcases g2.1.2 with z | ⟨_, g2⟩
    · exact absurd rfl z
    obtain ⟨a1, c1, _⟩ := hcell n g1
    obtain ⟨a2, c2, _⟩ := hcell n' g2
    rw [c1] at e1; rw [c2] at e2
    simp only [Option.getD_some] at e1 e2
    exact fr.inj n n' a (by rw [c1, e1]) (by rw [c2, e2])
  · have hloc : csc.names.lookup n = some .local := by
      rw [hkd] at hk'
      cases q : csc.names.lookup n with
      | none => rw [q] at hk'; cases hk'
      | some k =>
        rw [q] at hk'
        simp only [Option.map_some, Option.some.injEq] at hk'
        split at hk'
        · cases hk'
        · rw [hk']
    rcases Nat.lt_or_ge i (hideN nm ts).length with hlt | hge
    · rw [List.getElem?_append_left hlt] at hi
      obtain ⟨e1, e2⟩ := hideN_get hi (hlen n _ hloc)
      rcases hlocal n hloc with z | z
      · exact absurd z e2
      · exfalso
        rw [z] at e1
        have : nm.contains (Str.ofString ".0") = true := by simpa using List.mem_of_getElem? e1
        rw [this] at h4; cases h4
    · rw [List.getElem?_append_right hge] at hi
      obtain ⟨a, u, a1, a2, a3⟩ := hts _ n hi
      refine ⟨some a, ?_, by rw [a2]; exact .some a3⟩
      have hL : (hideN nm ts).length = V.length := by simp [hideN, fr.len]
      rw [hL] at hge a1
      rw [List.getElem?_append_right hge, List.getElem?_map, a1]; rfl
  · have hfr : csc.names.lookup n = some .free := by
      rw [hkd] at hk'
      cases q : csc.names.lookup n with
      | none => rw [q] at hk'; rcases hk' with hk' | hk' <;> cases hk'
      | some k =>
        rw [q] at hk'
        simp only [Option.map_some, Option.some.injEq] at hk'
        split at hk'
        · rename_i z; simp only [Bool.and_eq_true, beq_iff_eq] at z; rw [z.1.1]
        · rcases hk' with hk' | hk'
          · exact absurd (q.trans (by rw [hk'])) (hnc n)
          · rw [hk']
    rcases Nat.lt_or_ge i (hideN nm ts).length with hlt | hge
    · rw [List.getElem?_append_left hlt] at hi
      obtain ⟨e1, e2⟩ := hideN_get hi (hlen n _ hfr)
      obtain ⟨k1, _⟩ := hfree n hfr
      obtain ⟨a, x, v, c1, c2, c3, c4⟩ := fr.cell i n e1 (.inl k1)
      obtain ⟨a', d1, d2⟩ := hcell n hfr
      rw [c1] at d1; cases d1
      have hlt' : i < V.length := (List.getElem?_eq_some_iff.mp c3).1
      exact ⟨a, x, v, d2, hk _ _ c2, by rw [List.getElem?_append_left hlt']; exact c3, c4⟩
    · rw [List.getElem?_append_right hge] at hi
      have := (h2 n (List.mem_of_getElem? hi)).1.1
      rw [hfr] at this; cases this
end Mine

end
section
open PySem PySem.W PyProof.Rows PySem.Spec PySem.SeqAt PySem.Calls
namespace Mine
section
variable {c : Cx} {R : RR} {H : AHeap} {A : Around} {E : Value → Shared → Prop} {s : Shared}

set_option tactic.hygienic false in
theorem it_self {v : AV} {k : Nat} {a : Addr} {o : Obj} {Q : Value → Shared → Prop} (hi : ItObj H v k o) (ho : s.heap.get? a = some o) (q : Q (.ref a) s) : wpAny (model c.prog c.w) A (pyIter (.ref a)) Q E s := by
  cases v with
  | ref p =>
    simp only [ItObj] at hi
    split at hi
    · exact wpAny_pyIter_listiter ⟨o, ho, hi.1, hi.2⟩ q
    · exact wpAny_pyIter_tupleiter ⟨o, ho, hi.1, hi.2⟩ q
    · subst hi; exact wpAny_pyIter_rangeiter ho q
    · exact wpAny_pyIter_keyiter ⟨o, ho, hi.1, hi.2⟩ q
    · exact hi.elim
  | str y =>
    obtain ⟨t, hc, hd⟩ := hi
    rcases hc with hc | hc
    · exact wpAny_pyIter_striter_ascii ⟨o, ho, hc, hd⟩ q
    · exact wpAny_pyIter_striter_wide ⟨o, ho, hc, hd⟩ q
  | none => exact hi.elim
  | bool b => exact hi.elim
  | int i => exact hi.elim

set_option tactic.hygienic false in
theorem St1.give {h h' : Heap} {x : Addr} {r₀ : Res} {ao : AObj} (S : St1 c R H h) (hx : R x = some r₀) (hs : Heap.SameBut x h h') (hni : ∀ cl es, ao ≠ .inst cl es) (ho : ∀ D, ORep c h' D x ao) : H x = none ∧ St1 c (rdrop R x) (up H x ao) h' := by
  have bx : c.base.objs.size ≤ x := (S.res x _ hx).1
  obtain ⟨s1, s2, s3, D, s4⟩ := S.dropAny hx hs.extBut (by rw [hs.1]; exact S.size)
  obtain ⟨D₀, s40⟩ := S.rep
  have hHx : H x = none := by
    cases q : H x with
    | none => rfl
    | some o => have := (s40.above x o q).2; rw [hx] at this; cases this
  have hD : ∀ a cl es, H a = some (.inst cl es) → D a ≠ x := fun a cl es e z => by
    have hax : a ≠ x := fun w => by rw [w, hHx] at e; cases e
    obtain ⟨e1, ents, n, e2, _⟩ := s4.rep a _ e
    obtain ⟨p1, ents', n', p2, _⟩ := s40.rep a _ e
    rw [hs.2 a hax] at e1
    rw [p1] at e1
    have hd : D₀ a = D a := by injection e1 with e1; injection e1 with _ z; exact Option.some.inj z
    have := (s40.dict a cl es e).2.1
    rw [hd, z, hx] at this; cases this
  refine ⟨hHx, s1, s2, s3, D, ⟨fun a o e => ?_, fun a o e => ?_, fun a cl es e => ?_, fun a b cl es cl' es' e e' => ?_⟩⟩
  · by_cases q : a = x
    · subst q; rw [up_same] at e; cases e; exact ho D
    · rw [up_other q] at e; exact s4.rep a o e
  · by_cases q : a = x
    · subst q; exact ⟨abv bx, rdrop_same⟩
    · rw [up_other q] at e; exact s4.above a o e
  · by_cases q : a = x
    · subst q; rw [up_same] at e; cases e; exact absurd rfl (hni cl es)
    · rw [up_other q] at e
      obtain ⟨y1, y2, y3⟩ := s4.dict a cl es e
      exact ⟨y1, y2, by rw [up_other (hD a cl es e)]; exact y3⟩
  · by_cases q : a = x
    · subst q; rw [up_same] at e; cases e; exact absurd rfl (hni cl es)
    · by_cases q' : b = x
      · subst q'; rw [up_same] at e'; cases e'; exact absurd rfl (hni cl' es')
      · rw [up_other q] at e; rw [up_other q'] at e'; exact s4.inj a b cl es cl' es' e e'
end
set_option tactic.hygienic false in
theorem St.give {h h' : Heap} {x : Addr} {r₀ : Res} {ao : AObj} (S : St c R H h) (hx : R x = some r₀) (hs : Heap.SameBut x h h') (hni : ∀ cl es, ao ≠ .inst cl es) (ho : ∀ D, ORep c h' D x ao) (hb : ao.isB = false := by rfl) : H x = none ∧ St c (rdrop R x) (up H x ao) h' := by
  obtain ⟨H₁, s, r⟩ := S
  obtain ⟨e, s'⟩ := s.give hx hs hni ho
  exact ⟨r.none e, _, s', r.put hb (.inl e)⟩


noncomputable def XOk (g : Gx) (sc : Scope) (nm : List Str) (x : X) (e : PySem.Expr) : Prop :=
  ∀ (A : Around) (R : RR) (V : VV) (env : Env) (e₀ : Env) (l₀ : List Env) (s₀ : Shared), Ev g A R e₀ l₀ → Frm R env sc nm V → HX g A R V s₀ x (eval e env) ∧ HT g A R V s₀ x (isTrue e env (eval e env))

noncomputable def RC (R : RR) (a D C : Addr) (o l : Obj) (m : Str → Option Value) : RR := rup (rup (rup R a (.obj o)) D (.obj l)) C (.ns m)

set_option tactic.hygienic false in
theorem te_false {g : Gx} {R : RR} {s₀ : Shared} {e : Value} {s' : Shared} {P : Prop} (h : TE g R s₀ (fun _ _ => False) e s') : P := by
  obtain ⟨_, _, _, _, _, _, h⟩ := h; exact h.elim

set_option tactic.hygienic false in
theorem stk_of {R R' : RR} {l : List Env} (h : Stk R l) (k : ∀ b r, R b = some r → R' b = some r) : Stk R' l := fun e he => by
  have F := h e he
  obtain ⟨m, hm⟩ := F.ns
  exact ⟨F.kind, F.frame, F.gen, F.co, F.blt, F.glob, m, k _ _ hm⟩

inductive CTests (g : Gx) (sc : Scope) (nm : List Str) : Option X → List PySem.Expr → Prop
  | nil : CTests g sc nm none []
  | one {x e} : XOk g sc nm x e → CTests g sc nm (some x) [e]

section
variable {g : Gx} {A : Around} {R : RR} {V : VV} {s₀ : Shared} {env : Env} {mg mb : Str → Option Value} {e₀ : Env} {l₀ : List Env} {sc csc : Scope} {nm : List Str}

set_option tactic.hygienic false in
theorem tests_ok {c : Option X} {ifs : List PySem.Expr} {H : AHeap} {s : Shared} {Q : Bool → AHeap → Prop} {E : String → AHeap → Prop} (h : CTests g sc nm c ifs) (ev : Ev g A R e₀ l₀) (fr : Frm R env sc nm V) (S : St g.c R H s.heap) (m : Sm s₀ s)
    (q : wpC g c V Q E H) : wpAny (model g.c.prog g.c.w) A (forIn ifs true fun c r => if r = true then do let ok ← isTrue c env (eval c env); pure (ForInStep.yield ok) else pure (ForInStep.yield r)) (TB g R s₀ Q) (TE g R s₀ E) s := by
  cases h with
  | nil => exact wpAny_tests_nil ⟨H, S, m, q⟩
  | one hx =>
    rw [xc_some] at q
    refine wpAny_tests_one (wpAny_mono ((hx A R V env e₀ l₀ s₀ ev fr).2 H s (fun _ b H => Q b H) E S m q) (fun b s' z => ?_) fun _ _ z => z)
    obtain ⟨v, H', S', m', q', _⟩ := z
    exact ⟨H', S', m', q'⟩

theorem names_cons {e : PySem.Expr} {r : List PySem.Expr} {ts : List Str} (h : namesOfE (e :: r) = some ts) : ∃ id p ts', e = .Name id p ∧ ts = id :: ts' ∧ namesOfE r = some ts' := by
  unfold namesOfE at h
  split at h
  · rename_i z; cases z
  · rename_i z; cases z
    obtain ⟨ts', h1, rfl⟩ := Option.map_eq_some_iff.mp h
    exact ⟨_, _, ts', rfl, rfl, h1⟩
  · cases h
theorem asg_names {c : Cx} {R : RR} {H : AHeap} {A : Around} {E : Value → Shared → Prop} {env : Env} {Q : Unit → Shared → Prop} (hp : (env.scope.kind == .class || (env.scope.kind == .module && env.locals != env.globals)) = false)
    {es : List PySem.Expr} : ∀ {ts : List Str} {ys : List AV} {vs : List Value} {m : Str → Option Value} {s : Shared}, namesOfE es = some ts → ts.Nodup → (∀ t ∈ ts, env.kindOf t = some .local) → VRs ys vs → ys.length = ts.length → St c (rup R env.locals (.ns m)) H s.heap →
    (∀ s' m', (∀ t, t ∉ ts → m' t = m t) → (∀ (j : Nat) t, ts[j]? = some t → ∃ a v, ys[j]? = some a ∧ m' t = some v ∧ VR a v) → St c (rup R env.locals (.ns m')) H s'.heap → Sm s s' → Q () s') → wpAny (model c.prog c.w) A (assignInOrder ((assignEach es env).map (·.2)) vs) Q E s := by
  induction es with
  | nil =>
    intro ts ys vs m s h _ _ hv hl S q
    cases h
    cases hv with
    | nil => exact wpAny_pure (q s m (fun _ _ => rfl) (fun j t h => by simp at h) S ⟨_, _, rfl⟩)
    | cons => cases hl
  | cons e r ih =>
    intro ts ys vs m s h nd hk hv hl S q
    obtain ⟨id, p, ts', rfl, rfl, h1⟩ := names_cons h
    obtain ⟨nd1, nd2⟩ := List.nodup_cons.mp nd
    cases hv with
    | nil => cases hl
    | cons hv1 hvr =>
    rename_i y v ys' vs'
    show wpAny _ A (do holding vs' (assign (.Name id p) env v); assignInOrder ((assignEach r env).map (·.2)) vs') Q E s
    refine wpAny_bind (wpAny_holding (wpAny_assign_Name (wpAny_storeName_local (hk id (.head _)) (S.res _ _ rup_same).2 (fun h₃ hn₃ hs₃ => ?_) hp)))
    have S₃ := S.setRes (r' := .ns _) rup_same hs₃ hn₃
    rw [rup_rup] at S₃
    refine ih h1 nd2 (fun t ht => hk t (.tail _ ht)) hvr (Nat.succ.inj hl) S₃ fun s' m' k1 k2 S' ms => q s' m' (fun t ht => ?_) (fun j t hj => ?_) S' (Sm.trans ⟨_, _, rfl⟩ ms)
    · simp only [List.mem_cons, not_or] at ht
      rw [k1 t ht.2]; exact if_neg ht.1
    · cases j with
      | zero =>
        cases hj
        exact ⟨y, v, rfl, by rw [k1 id nd1]; exact if_pos rfl, hv1⟩
      | succ j => exact k2 j t hj

theorem asg_comp {c : Cx} {R : RR} {H : AHeap} {A : Around} {E : Value → Shared → Prop} {env : Env} {Q : Unit → Shared → Prop} {mg mb : Str → Option Value} {tg : PySem.Expr} {tup : Bool} {ts : List Str} {y : AV} {u : Value} {P : List AV → Prop} {m : Str → Option Value} {s : Shared} (C : c.Ok mg mb) (hh : A.handled = none)
    (hp : (env.scope.kind == .class || (env.scope.kind == .module && env.locals != env.globals)) = false) (htg : tgNames tg = some (tup, ts)) (nd : ts.Nodup) (hk : ∀ t ∈ ts, env.kindOf t = some .local) (hu : VR y u) (hw : if tup then wunpack ts.length y H P else P [y])
    (S : St c (rup R env.locals (.ns m)) H s.heap)
    (q : ∀ s' m' ys, P ys → ys.length = ts.length → (∀ (j : Nat) t, ts[j]? = some t → ∃ a v, ys[j]? = some a ∧ m' t = some v ∧ VR a v) → St c (rup R env.locals (.ns m')) H s'.heap → Sm s s' → Q () s') : wpAny (model c.prog c.w) A (assign tg env u) Q E s := by
  unfold tgNames at htg
  split at htg
  · cases htg
    refine wpAny_assign_Name (wpAny_storeName_local (hk _ (.head _)) (S.res _ _ rup_same).2 (fun h₃ hn₃ hs₃ => ?_) hp)
    have S₃ := S.setRes (r' := .ns _) rup_same hs₃ hn₃
    rw [rup_rup] at S₃
    refine q _ _ [y] hw rfl (fun j t hj => ?_) S₃ ⟨_, _, rfl⟩
    cases j with
    | zero => cases hj; exact ⟨y, u, rfl, if_pos rfl, hu⟩
    | succ j => simp at hj
  · rename_i es _ _
    obtain ⟨ts', h1, h2⟩ := Option.map_eq_some_iff.mp htg
    cases h2
    simp only [if_true] at hw
    have hx : ∃ p xs, y = .ref p ∧ (H p = some (.tuple xs) ∨ H p = some (.list xs)) ∧ xs.length = ts.length ∧ P xs := by
      cases y with
      | ref p =>
        dsimp only [wunpack] at hw
        split at hw
        · rename_i xs e; exact ⟨p, xs, rfl, .inl e, hw⟩
        · rename_i xs e; exact ⟨p, xs, rfl, .inr e, hw⟩
        · exact hw.elim
      | _ => exact hw.elim
    obtain ⟨p, xs, rfl, hx, hl, hP⟩ := hx
    cases hu
    obtain ⟨l1, l2⟩ := assignEach_names (env := env) h1
    rw [assign_Tuple]
    unfold unpack
    rw [l1, l2, ← hl]
    refine wpAny_bind (wpAny_standAt (wpAny_bind (wpAny_holding (unpack_it C hh rup_same S hx fun s₁ vs hv S₁ m₁ => ?_))))
    exact asg_names hp h1 nd hk hv hl S₁ fun s' m' _ k2 S' ms => q s' m' xs hP hl k2 S' (m₁.trans ms)
  · cases htg

set_option tactic.hygienic false in
theorem comp_rule {prog : Program} {w : World} {R : Result → Shared → Prop} {A : Around} {s : Shared} {elt target iter : PySem.Expr} {ifs : List PySem.Expr} {scope : Scope} {pos : Pos} {it acc : Value} {env : Env} (I : Nat → Shared → Prop)
    (turn : ∀ n s, I n s → wpAny (model prog w) A (pyNext it) (fun r s₁ => match r with
      | none => R (.ok .next) s₁
      | some v => wpAny (model prog w) A (letOwnedTupleGo target it v) (fun _ s₁' => wpAny (model prog w) A (assign target env v) (fun _ s₂ =>
          wpAny (model prog w) A (forIn ifs true fun c r => if r = true then do let ok ← isTrue c env (eval c env); pure (ForInStep.yield ok) else pure (ForInStep.yield r)) (fun ok s₃ =>
            if ok = true then wpAny (model prog w) A (eval elt env) (fun x s₄ =>
              wpAny (model prog w) A (call (.builtin "list.append") [acc, x]) (fun _ s₅ => ∃ m, m < n ∧ I m s₅) (notedBy (model prog w) A env fun e s' => R (.error e) s') s₄) (notedBy (model prog w) A env fun e s' => R (.error e) s') s₃
            else ∃ m, m < n ∧ I m s₃) (notedBy (model prog w) A env fun e s' => R (.error e) s') s₂) (notedBy (model prog w) A env fun e s' => R (.error e) s') s₁') (notedBy (model prog w) A env fun e s' => R (.error e) s') s₁) (notedBy (model prog w) A env fun e s' => R (.error e) s') s)
    (n : Nat) (h : I n s) : codeAny (model prog w) A (.compLoop (.ListComp elt [⟨target, iter, ifs, 0⟩] scope pos) 0 it acc env) R s := by
  refine codeAny_loop rfl I (fun n s hI => ?_) n h
  show wpAny _ A ((compTurn (.ListComp elt [⟨target, iter, ifs, 0⟩] scope pos) 0 it acc env).onRaise (fun x => do noteFrame x env; theTreesLotGoes x)) _ _ s
  refine wpAny_noted ?_
  rw [compTurn_list]
  refine wpAny_bind (wpAny_standAt (wpAny_bind (wpAny_mono (turn n s hI) (fun r s₁ h₁ => ?_) fun _ _ h' => h')))
  cases r with
  | none => exact wpAny_pure h₁
  | some v =>
    refine wpAny_bind (wpAny_mono h₁ (fun _ s₁' h₁' => ?_) fun _ _ h' => h')
    refine wpAny_bind (wpAny_mono h₁' (fun _ s₂ h₂ => wpAny_bind (wpAny_mono h₂ (fun ok s₃ h₃ => ?_) fun _ _ h' => h')) fun _ _ h' => h')
    cases ok with
    | false => exact wpAny_pure ⟨rfl, h₃⟩
    | true =>
      exact wpAny_bind (wpAny_bind (wpAny_mono h₃ (fun x s₄ h₄ => wpAny_bind (wpAny_mono h₄ (fun _ s₅ h₅ => wpAny_pure (wpAny_pure ⟨rfl, h₅⟩)) fun _ _ h' => h')) fun _ _ h' => h'))

inductive CompI (c : Cx) (R : RR) (s₀ : Shared) (a D C : Addr) (av : AV) (l : Nat) (I : Nat → List AV → AHeap → Prop) (n : Nat) (s : Shared) : Prop
  | mk (k : Nat) (o' : Obj) (m' : Str → Option Value) (vs : List Value) (cnt : Nat) (acc : List AV) (H' : AHeap) (hn : n = l - k) (hk : k ≤ l) (it : ItObj H' av k o') (hv : VRs acc vs) (ha : acc.length ≤ k) (S : St c (RC R a D C o' (listOf vs.toArray cnt) m') H' s.heap) (m : Sm s₀ s) (q : I k acc H') : CompI c R s₀ a D C av l I n s
set_option tactic.hygienic false in
theorem comp_loop {x : X} {c : Option X} {elt iter tg : PySem.Expr} {ifs : List PySem.Expr} {tup : Bool} {ts : List Str} {pos : Pos} {a D C : Addr} {xs : List AV} {av : AV} {H₀ : AHeap} {I : Nat → List AV → AHeap → Prop} {RR' : Result → Shared → Prop} {s₁ : Shared} {o : Obj} {m₁ : Str → Option Value}
    (Ck : g.c.Ok mg mb) (htg : tgNames tg = some (tup, ts)) (hh : A.handled = none) (ev : Ev g A R e₀ l₀) (fr : Frm R env sc nm V) (hm : compScOk sc csc nm ts = true) (hx : XOk g csc (hideN nm ts ++ ts) x elt) (hc : CTests g csc (hideN nm ts ++ ts) c ifs)
    (ha : R a = none) (hD : R D = none) (hC : R C = none) (hDa : D ≠ a) (hCa : C ≠ a) (hCD : C ≠ D) (hsv : ∀ y, av = .str y → PyData.strOk y = true)
    (hxs : itemsOf H₀ av = some xs) (hz : xs.length ≤ sizeLine)
    (step : ∀ k acc H', I k acc H' → sameIt H₀ H' av ∧ ∀ y, xs[k]? = some y → if tup then wunpack ts.length y H' (fun ys => wpC g c (V ++ ys.map some) (fun b H => if b then wpX g x (V ++ ys.map some) (fun y H => I (k + 1) (acc ++ (some y).toList) H) (fun _ _ => False) H else I (k + 1) (acc ++ (none : Option AV).toList) H) (fun _ _ => False) H') else wpC g c (V ++ [some y]) (fun b H => if b then wpX g x (V ++ [some y]) (fun y H => I (k + 1) (acc ++ (some y).toList) H) (fun _ _ => False) H else I (k + 1) (acc ++ (none : Option AV).toList) H) (fun _ _ => False) H')
    (h0 : I 0 [] H₀) (ho : ItObj H₀ av 0 o) (S : St g.c (RC R a D C o (listOf #[] 0) m₁) H₀ s₁.heap) (ms : Sm s₀ s₁)
    (fin : ∀ acc H' s' m', I xs.length acc H' → H' D = none → St g.c (rup R C (.ns m')) (up H' D (.list acc)) s'.heap → Sm s₀ s' → RR' (.ok .next) s') :
    codeAny (model g.c.prog g.c.w) A (.compLoop (.ListComp elt [⟨tg, iter, ifs, 0⟩] csc pos) 0 (.ref a) (.ref D) (compEnvC csc (closL env csc.names []) C env)) RR' s₁ := by
  have hloc : (∀ t ∈ ts, csc.names.lookup t = some .local) ∧ csc.kind = .function ∧ ts.Nodup := by
    unfold compScOk at hm
    simp only [Bool.and_eq_true, beq_iff_eq, List.all_eq_true, decide_eq_true_eq] at hm
    exact ⟨fun t ht => (hm.1.1.1.2 t ht).1.1, hm.1.1.1.1, hm.1.1.2⟩
  have hRa : ∀ o l m, RC R a D C o l m a = some (.obj o) := fun o l m => by unfold RC; rw [rup_other (Ne.symm hCa), rup_other (Ne.symm hDa), rup_same]
  have hRD : ∀ o l m, RC R a D C o l m D = some (.obj l) := fun o l m => by unfold RC; rw [rup_other (Ne.symm hCD), rup_same]
  have hRC : ∀ o l m, RC R a D C o l m C = some (.ns m) := fun o l m => rup_same
  have hle : ∀ o l m b r, R b = some r → RC R a D C o l m b = some r := fun o l m b r e => by
    have h1 : b ≠ a := fun z => by rw [z, ha] at e; cases e
    have h2 : b ≠ D := fun z => by rw [z, hD] at e; cases e
    have h3 : b ≠ C := fun z => by rw [z, hC] at e; cases e
    unfold RC; rw [rup_other h3, rup_other h2, rup_other h1]; exact e
  have sa : ∀ o l m o', rup (RC R a D C o l m) a (.obj o') = RC R a D C o' l m := fun o l m o' => by
    funext b
    by_cases q : b = a
    · subst q; rw [rup_same, hRa]
    · rw [rup_other q]; unfold RC
      by_cases q2 : b = C
      · subst q2; rw [rup_same, rup_same]
      · rw [rup_other q2, rup_other q2]
        by_cases q3 : b = D
        · subst q3; rw [rup_same, rup_same]
        · rw [rup_other q3, rup_other q3, rup_other q, rup_other q]
  have sD : ∀ o l m l', rup (RC R a D C o l m) D (.obj l') = RC R a D C o l' m := fun o l m l' => by
    funext b
    by_cases q : b = D
    · subst q; rw [rup_same, hRD]
    · rw [rup_other q]; unfold RC
      by_cases q2 : b = C
      · subst q2; rw [rup_same, rup_same]
      · rw [rup_other q2, rup_other q2, rup_other q, rup_other q]
  have sC : ∀ o l m m', rup (RC R a D C o l m) C (.ns m') = RC R a D C o l m' := fun o l m m' => by
    funext b
    by_cases q : b = C
    · subst q; rw [rup_same, hRC]
    · rw [rup_other q]; unfold RC; rw [rup_other q, rup_other q]
  refine comp_rule (CompI g.c R s₀ a D C av xs.length I) ?_ xs.length
    ⟨0, o, m₁, [], 0, [], H₀, rfl, Nat.zero_le _, ho, .nil, Nat.le_refl _, S, ms, h0⟩
  rintro n s ⟨k, o', m', vs, cnt, acc, H', rfl, hk, hio, hvs, hacc, S', ms', hI⟩
  obtain ⟨hsame, hstep⟩ := step k acc H' hI
  have hxs' : itemsOf H' av = some xs := by
    rw [← hxs]
    cases av with
    | ref p => simp only [sameIt] at hsame; simp only [itemsOf, hsame]
    | _ => rfl
  cases hky : xs[k]? with
  | none =>
    have hkl : k = xs.length := by have := List.getElem?_eq_none_iff.mp hky; omega
    refine it_end hh hxs' hky hio (hRa _ _ _) (hRC _ _ _) S' fun s₂ S₂ m₂ => ?_
    have hD₂ : rdrop (RC R a D C o' (listOf vs.toArray cnt) m') a D = some (.obj (listOf vs.toArray cnt)) := by rw [rdrop_other hDa]; exact hRD _ _ _
    obtain ⟨hd, S₃⟩ := S₂.give (ao := .list acc) hD₂ ⟨rfl, fun _ _ => rfl⟩ (by intro _ _ z; cases z) fun _ => ⟨vs, cnt, (S₂.res _ _ hD₂).2, hvs⟩
    subst hkl
    refine fin acc H' s₂ m' hI hd (S₃.weaken fun b r e => ?_) (ms'.trans m₂)
    by_cases q : b = C
    · subst q; rw [rup_same] at e; cases e; rw [rdrop_other hCD, rdrop_other hCa]; exact hRC _ _ _
    · rw [rup_other q] at e
      have h1 : b ≠ a := fun z => by rw [z, ha] at e; cases e
      have h2 : b ≠ D := fun z => by rw [z, hD] at e; cases e
      rw [rdrop_other h2, rdrop_other h1]; exact hle _ _ _ _ _ e
  | some y =>
    have hlt : k < xs.length := (List.getElem?_eq_some_iff.mp hky).1
    refine it_item hxs' hky hio (hRa _ _ _) S' hsv fun s₂ u o₂ hu ho₂ S₂ m₂ => ?_
    rw [sa] at S₂
    have hw := hstep y hky
    refine owned_it ho₂ ((S₂.res _ _ (hRa _ _ _)).2) ?_
    have hRR : RC R a D C o₂ (listOf vs.toArray cnt) m' = rup (RC R a D C o₂ (listOf vs.toArray cnt) m') (compEnvC csc (closL env csc.names []) C env).locals (.ns m') := (sC _ _ _ _).symm
    rw [hRR] at S₂
    refine asg_comp (P := fun ys => wpC g c (V ++ ys.map some) (fun b H => if b then wpX g x (V ++ ys.map some) (fun y H => I (k + 1) (acc ++ (some y).toList) H) (fun _ _ => False) H else I (k + 1) (acc ++ (none : Option AV).toList) H) (fun _ _ => False) H') Ck hh (by simp [compEnvC, relabel, hloc.2.1]) htg hloc.2.2 (fun t ht => lookup_relabel_local (hloc.1 t ht)) hu hw S₂ fun s₃ m₃ ys hw hyl hys S₃ ms3 => ?_
    rw [show rup (RC R a D C o₂ (listOf vs.toArray cnt) m') (compEnvC csc (closL env csc.names []) C env).locals (.ns m₃) = RC R a D C o₂ (listOf vs.toArray cnt) m₃ from sC _ _ _ _] at S₃
    have ev' : ∀ o l m, Ev g A (RC R a D C o l m) e₀ l₀ := fun o l m => ⟨ev.aok, stk_of ev.stk (hle o l m)⟩
    have fr' : ∀ o l, Frm (RC R a D C o l m₃) (compEnvC csc (closL env csc.names []) C env) csc (hideN nm ts ++ ts) (V ++ ys.map some) := fun o l =>
      fr.inner (xv := ys) hm (hRC _ _ _) (hle _ _ _) hyl hys
    refine wpAny_mono (tests_ok hc (ev' _ _ _) (fr' _ _) S₃ ((ms'.trans m₂).trans ms3) hw) (fun ok s₄ z => ?_) fun _ _ z => te_false z
    obtain ⟨H₄, S₄, m₄, q₄⟩ := z
    cases ok with
    | false =>
      simp only [Bool.false_eq_true, if_false, Option.toList_none, List.append_nil] at q₄ ⊢
      have hs4 := (step _ _ _ q₄).1
      exact ⟨xs.length - (k + 1), by omega, k + 1, o₂, _, vs, cnt, acc, H₄, rfl, hlt, ItObj.same ho₂ (by
        cases av with
        | ref p => simp only [sameIt] at hs4 hsame ⊢; rw [hs4, hsame]
        | _ => trivial), hvs, by omega, S₄, m₄, q₄⟩
    | true =>
      simp only [if_true] at q₄ ⊢
      refine wpAny_mono ((hx A _ _ _ e₀ l₀ s₀ (ev' _ _ _) (fr' _ _)).1 H₄ s₄ _ _ S₄ m₄ q₄) (fun w s₅ z => ?_) fun _ _ z => te_false z
      obtain ⟨bv, H₅, hw5, S₅, m₅, q₅⟩ := z
      have hs5 := (step _ _ _ q₅).1
      have hsz : vs.length ≤ sizeLine := by have := hvs.length; omega
      refine append_at (S₅.res _ _ (hRD _ _ _)).2 (fun h₆ hs₆ ho₆ => ?_) (by simpa using hsz)
      have S₆ := S₅.setRes (r' := .obj (listOf (vs ++ [w]).toArray (cnt + 1))) (hRD _ _ _) hs₆ (by show h₆.get? D = _; rw [ho₆]; simp [W.listOf])
      rw [sD] at S₆
      exact ⟨xs.length - (k + 1), by omega, k + 1, o₂, _, vs ++ [w], cnt + 1, acc ++ [bv], H₅, rfl, hlt, ItObj.same ho₂ (by
        cases av with
        | ref p => simp only [sameIt] at hs5 hsame ⊢; rw [hs5, hsame]
        | _ => trivial), hvs.append (.one hw5), by simp; omega, S₆, m₅.heap _, q₅⟩
set_option tactic.hygienic false in
theorem comp_clos {ts : List Str} (fr : Frm R env sc nm V) (hm : compScOk sc csc nm ts = true) : closureFor csc env = pure (closL env csc.names []) := by
  refine closureFor_of fun p hp hk => ?_
  unfold compScOk at hm
  simp only [Bool.and_eq_true, Bool.not_eq_true', beq_iff_eq, List.all_eq_true, decide_eq_true_eq, bne_iff_ne, ne_eq, Bool.or_eq_true] at hm
  rcases (hm.2 p hp).1.2 with z | ⟨⟨z1, z2⟩, _⟩
  · exact absurd hk z
  · have hb : p.1 ∈ nm := by simpa using z2
    obtain ⟨i, hi, e⟩ := List.mem_iff_getElem.mp hb
    obtain ⟨a, x, v, c1, _⟩ := fr.cell i p.1 (by rw [List.getElem?_eq_getElem hi, e]) (.inl (fr.cco _ z1))
    exact ⟨a, c1⟩
set_option tactic.hygienic false in
theorem comp_sc {ts : List Str} (hm : compScOk sc csc nm ts = true) : csc.kind = .function ∧ (∀ y ∈ csc.names, y.2 ≠ .cell) ∧ ∀ y ∈ csc.names, y.2 = .local → csc.names.lookup y.1 = some .local := by
  unfold compScOk at hm
  simp only [Bool.and_eq_true, Bool.not_eq_true', beq_iff_eq, List.all_eq_true, decide_eq_true_eq, bne_iff_ne, ne_eq, Bool.or_eq_true] at hm
  refine ⟨hm.1.1.1.1, fun y hy => (hm.2 y hy).1.1.1, fun y hy hk => ?_⟩
  rcases (hm.2 y hy).1.1.2 with z | z
  · exact absurd hk z
  · exact z.1

theorem comp_block {x : X} {c : Option X} {elt iter tg : PySem.Expr} {ifs : List PySem.Expr} {tup : Bool} {ts : List Str} {pos : Pos} {xs : List AV} {av : AV} {u : Value} {H₀ : AHeap} {I : Nat → List AV → AHeap → Prop} {RR' : Value → Addr → Result → Shared → Prop} {s₁ : Shared} {E : Value → Shared → Prop}
    (Ck : g.c.Ok mg mb) (htg : tgNames tg = some (tup, ts)) (hh : A.handled = none) (ev : Ev g A R e₀ l₀) (fr : Frm R env sc nm V) (hm : compScOk sc csc nm ts = true) (hx : XOk g csc (hideN nm ts ++ ts) x elt) (hc : CTests g csc (hideN nm ts ++ ts) c ifs)
    (hv : VR av u) (S : St g.c R H₀ s₁.heap) (ms : Sm s₀ s₁) (hxs : itemsOf H₀ av = some xs) (hz : xs.length ≤ sizeLine) (h0 : I 0 [] H₀)
    (step : ∀ k acc H', I k acc H' → sameIt H₀ H' av ∧ ∀ y, xs[k]? = some y → if tup then wunpack ts.length y H' (fun ys => wpC g c (V ++ ys.map some) (fun b H => if b then wpX g x (V ++ ys.map some) (fun y H => I (k + 1) (acc ++ (some y).toList) H) (fun _ _ => False) H else I (k + 1) (acc ++ (none : Option AV).toList) H) (fun _ _ => False) H') else wpC g c (V ++ [some y]) (fun b H => if b then wpX g x (V ++ [some y]) (fun y H => I (k + 1) (acc ++ (some y).toList) H) (fun _ _ => False) H else I (k + 1) (acc ++ (none : Option AV).toList) H) (fun _ _ => False) H')
    (fin : ∀ D Ca acc H' s' m', R Ca = none → I xs.length acc H' → H' D = none → St g.c (rup R Ca (.ns m')) (up H' D (.list acc)) s'.heap → Sm s₀ s' → RR' (.ref D) Ca (.ok .next) s') :
    wpAny (model g.c.prog g.c.w) A (pyIter u) (fun it s₂ => wpAny (model g.c.prog g.c.w) A (newList []) (fun acc s₃ => wpAny (model g.c.prog g.c.w) A (newFunctionEnv csc env.globals (closL env csc.names []) [] env.qual none .none (some env)) (fun cenv s₄ =>
      codeAny (model g.c.prog g.c.w) A (.compStart (.ListComp elt [⟨tg, iter, ifs, 0⟩] csc pos) 0 it acc { cenv with scope := relabel csc env }) (RR' acc cenv.locals) s₄) E s₃) E s₂) E s₁ := by
  obtain ⟨hkind, hcell, _⟩ := comp_sc hm
  have hsv : ∀ y, av = .str y → PyData.strOk y = true := by rintro y rfl; cases hv; assumption
  refine it_new Ck hv S hxs fun s₂ a o ha hHa ho S₂ m₂ => ?_
  refine wpAny_newObj_type (wpAny_newFunctionEnv hcell (by intro y hy; simp at hy) (fun h₁ hns₁ hsb₁ => ?_) hkind)
  dsimp only at hns₁ hsb₁ ⊢
  obtain ⟨hD1, hD2, S₃⟩ := S₂.newRes (x := s₂.heap.objs.size) (r := .obj (listOf #[] 0)) (h' := s₂.heap.push { cls := .type "list", dict := none, data := .seq ([] : List Value).toArray }) (Nat.le_refl _) (fun _ _ z => Heap.get?_push_of_some _ z) (by rw [Heap.size_push]; omega) (Heap.get?_push_size _ rfl)
  generalize hH2 : s₂.heap.push { cls := .type "list", dict := none, data := .seq ([] : List Value).toArray } = H2 at hns₁ hsb₁ S₃ ⊢
  obtain ⟨hC1, hC2, S₄⟩ := S₃.newRes (x := H2.objs.size) (r := .ns _) (h' := h₁) (Nat.le_refl _) (fun b ob z => hsb₁.extBut b ob (Nat.ne_of_lt (Heap.lt_size z)) (Heap.get?_push_of_some _ z)) (by rw [hsb₁.1, Heap.size_push]; omega) hns₁
  generalize s₂.heap.objs.size = D at hD1 hD2 S₃ S₄ hC1 ⊢
  generalize H2.objs.size = Ca at hC1 hC2 S₄ hns₁ hsb₁ ⊢
  have hDa : D ≠ a := fun z => by rw [z, rup_same] at hD1; cases hD1
  have hCD : Ca ≠ D := fun z => by rw [z, rup_same] at hC1; cases hC1
  rw [rup_other hCD] at hC1
  have hCa : Ca ≠ a := fun z => by rw [z, rup_same] at hC1; cases hC1
  rw [rup_other hCa] at hC1
  rw [rup_other hDa] at hD1
  have loop : ∀ s₃ : Shared, s₃ = { s₂ with heap := h₁, toks := s₂.toks + ([] : List (Str × Value)).length } →
      codeAny (model g.c.prog g.c.w) A (.compLoop (.ListComp elt [⟨tg, iter, ifs, 0⟩] csc pos) 0 (.ref a) (.ref D) (compEnvC csc (closL env csc.names []) Ca env)) (RR' (.ref D) Ca) s₃ := by
    rintro s₃ rfl
    exact comp_loop Ck htg hh ev fr hm hx hc ha hD1 hC1 hDa hCa hCD hsv hxs hz step h0 ho S₄ ((ms.trans m₂).step _ _) fun acc H' s' m' h1 h2 h3 h4 => fin D Ca acc H' s' m' hC1 h1 h2 h3 h4
  refine codeAny_compStart_list (loop _ rfl) (it_self ho ?_ (loop _ rfl))
  refine (S₄.res a (.obj o) ?_).2
  rw [rup_other (Ne.symm hCa), rup_other (Ne.symm hDa), rup_same]

set_option tactic.hygienic false in
theorem hx_comp {x it : X} {c : Option X} {elt iter tg : PySem.Expr} {ifs : List PySem.Expr} {tup : Bool} {ts : List Str} {pos : Pos} (Ck : g.c.Ok mg mb) (htg : tgNames tg = some (tup, ts)) (ev : Ev g A R e₀ l₀) (fr : Frm R env sc nm V) (hm : compScOk sc csc nm ts = true)
    (hf : ∀ x, foldedSetIterable iter env x = pure x) (hit : HX g A R V s₀ it (eval iter env)) (hx : XOk g csc (hideN nm ts ++ ts) x elt) (hc : CTests g csc (hideN nm ts ++ ts) c ifs) :
    HX g A R V s₀ (.comp x ts.length tup it c) (eval (.ListComp elt [⟨tg, iter, ifs, 0⟩] csc pos) env) := fun H s Q E S m q => by
  dsimp only [x_lit, x_var, x_bin, x_neg, x_not, x_ao, x_ite, x_cmp, x_cmp2, x_sub, x_slice, x_glob, x_call, x_prim, x_bm, x_isi, x_list, x_tup, x_new, x_dict0, x_dict1, x_attr, x_meth, x_comp] at q
  obtain ⟨hmd, q⟩ := q
  rw [eval_ListComp]
  refine wpAny_comprehension_free (use := none) rfl hf (comp_clos fr hm) (comp_sc hm).1 (comp_sc hm).2.2 ?_
  refine wpAny_mono (hit H s _ E S m q) (fun u s₁ z => ?_) fun _ _ z => z
  obtain ⟨av, H₁, hv, S₁, m₁, xs, hxs, hz, I, hI, hstep⟩ := z
  refine comp_block (I := I) (RR' := fun acc Ca => compPost (model g.c.prog g.c.w) A (TE g R s₀ E) none (TQ g R s₀ Q) acc Ca) Ck htg (ev.aok.hand hmd) ev fr hm hx hc hv S₁ m₁ hxs hz hI (fun k acc H' hi => ⟨(hstep k acc H' hi).1, (hstep k acc H' hi).2.2⟩) ?_
  intro D Ca acc H' s' m' hCa hi hd S' ms'
  refine ⟨m', (S'.res Ca _ rup_same).2, fun h' hs' => ?_⟩
  refine ⟨.ref D, up H' D (.list acc), .ref D, (S'.dropAny (rup_same) hs'.extBut (by rw [hs'.1]; exact S'.size)).weaken fun b r e => ?_, ms'.heap _, (hstep _ acc H' hi).2.1 rfl D hd⟩
  have hb : b ≠ Ca := fun z => by rw [z, hCa] at e; cases e
  rw [rdrop_other hb, rup_other hb]; exact e

end
end Mine

end
section
open PySem PySem.W PyProof.Rows PySem.Spec PySem.SeqAt PySem.Calls
namespace Mine

section
variable {g : Gx} {mg mb : Str → Option Value} (C : g.c.Ok mg mb) (PO : PgOk g.c)
set_option tactic.hygienic false in
theorem each_of {sc : Scope} {nm : List Str} {xs : List X} {es : List PySem.Expr} {A : Around} {R : RR} {V : VV} {env : Env} {e₀ : Env} {l₀ : List Env} {s₀ : Shared} (h : Each (fun x e => XOk g sc nm x e ∧ noStar e = true) xs es) (ev : Ev g A R e₀ l₀) (fr : Frm R env sc nm V) :
    EachX g A R V s₀ env xs es := by
  induction h with
  | nil => exact .nil
  | cons a _ ih => exact .cons ⟨(a.1 A R V env e₀ l₀ s₀ ev fr).1, a.2⟩ ih
set_option tactic.hygienic false in
theorem each_of1 {sc : Scope} {nm : List Str} {xs : List X} {es : List PySem.Expr} {A : Around} {R : RR} {V : VV} {env : Env} {e₀ : Env} {l₀ : List Env} {s₀ : Shared} (h : Each (fun x e => XOk g sc nm x e ∧ noStar e = true) xs es) (ev : Ev g A R e₀ l₀) (fr : Frm R env sc nm V) :
    Each (fun x e => HX g A R V s₀ x (eval e env)) xs es := by
  induction h with
  | nil => exact .nil
  | cons a _ ih => exact .cons (a.1 A R V env e₀ l₀ s₀ ev fr).1 ih
set_option tactic.hygienic false in
theorem each_of2 {sc : Scope} {nm : List Str} {xs : List X} {es : List PySem.Expr} {A : Around} {R : RR} {V : VV} {env : Env} {e₀ : Env} {l₀ : List Env} {s₀ : Shared} (h : Each (fun x e => XOk g sc nm x e ∧ noStar e = true) xs es) (ev : Ev g A R e₀ l₀) (fr : Frm R env sc nm V) :
    Each (fun x e => HT g A R V s₀ x (isTrue e env (eval e env))) xs es := by
  induction h with
  | nil => exact .nil
  | cons a _ ih => exact .cons (a.1 A R V env e₀ l₀ s₀ ev fr).2 ih

theorem XOk.of {sc : Scope} {nm : List Str} {x : X} {e : PySem.Expr} (h : ∀ (A : Around) (R : RR) (V : VV) (env : Env) (e₀ : Env) (l₀ : List Env) (s₀ : Shared), Ev g A R e₀ l₀ → Frm R env sc nm V → HX g A R V s₀ x (eval e env))
    (he : ∀ env whole, isTrue e env whole = (do let v ← whole; standAt e.pos; holding [v] (truthy v))) : XOk g sc nm x e := fun A R V env e₀ l₀ s₀ ev fr =>
  ⟨h A R V env e₀ l₀ s₀ ev fr, HT.plain (h A R V env e₀ l₀ s₀ ev fr) (he _ _)⟩

set_option tactic.hygienic false in
theorem folded_set {iter : PySem.Expr} {env : Env} (h : notSet iter = true) (x : Value) : foldedSetIterable iter env x = pure x := by
  cases iter <;> first | rfl | cases h

include C PO in
mutual
theorem sX : ∀ (x : X) (e : PySem.Expr) (top : Bool) (sc : Scope) (nm : List Str), mtX g.c.P top sc nm x e = true → XOk g sc nm x e
  | .lit v, e, top, sc, nm, h => by
    replace h : mLit v e = true := h
    unfold mLit at h
    split at h
    · exact .of (fun A R V env e₀ l₀ s₀ ev fr => hx_lit h) fun _ _ => rfl
    · cases h
  | .var i, e, top, sc, nm, h => by
    replace h : mVar sc nm i e = true := h
    unfold mVar at h
    split at h
    · simp only [Bool.and_eq_true, beq_iff_eq] at h
      exact .of (fun A R V env e₀ l₀ s₀ ev fr => hx_var fr h.1.1 h.1.2 h.2) fun _ _ => rfl
    · cases h
  | .glob n, e, top, sc, nm, h => by
    replace h : nameIs sc n e = true := h
    obtain ⟨id, p, rfl⟩ := nameIs_name h
    exact .of (fun A R V env e₀ l₀ s₀ ev fr => hx_glob C PO fr h) fun _ _ => rfl
  | .bin op a b, e, top, sc, nm, h => by
    replace h : mBin op (mtX g.c.P top sc nm a) (mtX g.c.P top sc nm b) e = true := h
    unfold mBin at h
    split at h
    · simp only [Bool.and_eq_true, beq_iff_eq] at h
      obtain ⟨⟨rfl, h1⟩, h2⟩ := h
      exact .of (fun A R V env e₀ l₀ s₀ ev fr => hx_bin C ev (sX a _ top sc nm h1 A R V env e₀ l₀ s₀ ev fr).1 (sX b _ top sc nm h2 A R V env e₀ l₀ s₀ ev fr).1) fun _ _ => rfl
    · cases h
  | .neg a, e, top, sc, nm, h => by
    replace h : mNeg (mtX g.c.P top sc nm a) e = true := h
    unfold mNeg at h
    split at h
    · exact .of (fun A R V env e₀ l₀ s₀ ev fr => hx_neg (sX a _ top sc nm h A R V env e₀ l₀ s₀ ev fr).1) fun _ _ => rfl
    · cases h
  | .not a, e, top, sc, nm, h => by
    replace h : mNot (mtX g.c.P top sc nm a) e = true := h
    unfold mNot at h
    split at h
    · exact fun A R V env e₀ l₀ s₀ ev fr => ⟨hx_not (sX a _ top sc nm h A R V env e₀ l₀ s₀ ev fr).1, ht_not (sX a _ top sc nm h A R V env e₀ l₀ s₀ ev fr).2⟩
    · cases h
  | .ao isAnd xs, e, top, sc, nm, h => by
    replace h : mAo isAnd (mtXs g.c.P top sc nm xs) e = true := h
    unfold mAo at h
    split at h
    · simp only [Bool.and_eq_true, beq_iff_eq] at h
      obtain ⟨rfl, h2⟩ := h
      exact fun A R V env e₀ l₀ s₀ ev fr => ⟨hx_ao (each_of1 (sXs xs _ top sc nm h2) ev fr), ht_ao (each_of2 (sXs xs _ top sc nm h2) ev fr)⟩
    · cases h
  | .ite c a b, e, top, sc, nm, h => by
    replace h : mIte (mtX g.c.P top sc nm c) (mtX g.c.P top sc nm a) (mtX g.c.P top sc nm b) e = true := h
    unfold mIte at h
    split at h
    · simp only [Bool.and_eq_true] at h
      obtain ⟨⟨h1, h2⟩, h3⟩ := h
      exact fun A R V env e₀ l₀ s₀ ev fr => ⟨hx_ite (sX c _ top sc nm h1 A R V env e₀ l₀ s₀ ev fr).2 (sX a _ top sc nm h2 A R V env e₀ l₀ s₀ ev fr).1 (sX b _ top sc nm h3 A R V env e₀ l₀ s₀ ev fr).1,
        ht_ite (sX c _ top sc nm h1 A R V env e₀ l₀ s₀ ev fr).2 (sX a _ top sc nm h2 A R V env e₀ l₀ s₀ ev fr).2 (sX b _ top sc nm h3 A R V env e₀ l₀ s₀ ev fr).2⟩
    · cases h
  | .cmp op a b, e, top, sc, nm, h => by
    replace h : mCmp op (mtX g.c.P top sc nm a) (mtX g.c.P top sc nm b) e = true := h
    unfold mCmp at h
    split at h
    · simp only [Bool.and_eq_true, beq_iff_eq, Bool.not_eq_true'] at h
      obtain ⟨⟨⟨rfl, h0⟩, h1⟩, h2⟩ := h
      exact fun A R V env e₀ l₀ s₀ ev fr => ⟨hx_cmp C ev h0 (sX a _ top sc nm h1 A R V env e₀ l₀ s₀ ev fr).1 (sX b _ top sc nm h2 A R V env e₀ l₀ s₀ ev fr).1,
        ht_cmp C ev h0 (sX a _ top sc nm h1 A R V env e₀ l₀ s₀ ev fr).1 (sX b _ top sc nm h2 A R V env e₀ l₀ s₀ ev fr).1⟩
    · cases h
  | .cmp2 op₁ op₂ a b d, e, top, sc, nm, h => by
    replace h : mCmp2 op₁ op₂ (mtX g.c.P top sc nm a) (mtX g.c.P top sc nm b) (mtX g.c.P top sc nm d) e = true := h
    unfold mCmp2 at h
    split at h
    · simp only [Bool.and_eq_true, beq_iff_eq, Bool.not_eq_true'] at h
      obtain ⟨⟨⟨⟨⟨rfl, rfl⟩, h0⟩, h1⟩, h2⟩, h3⟩ := h
      exact fun A R V env e₀ l₀ s₀ ev fr => ⟨hx_cmp2 C ev h0 (sX a _ top sc nm h1 A R V env e₀ l₀ s₀ ev fr).1 (sX b _ top sc nm h2 A R V env e₀ l₀ s₀ ev fr).1 (sX d _ top sc nm h3 A R V env e₀ l₀ s₀ ev fr).1,
        ht_cmp2 C ev h0 (sX a _ top sc nm h1 A R V env e₀ l₀ s₀ ev fr).1 (sX b _ top sc nm h2 A R V env e₀ l₀ s₀ ev fr).1 (sX d _ top sc nm h3 A R V env e₀ l₀ s₀ ev fr).1⟩
    · cases h
  | .sub a i, e, top, sc, nm, h => by
    replace h : mSub (mtX g.c.P top sc nm a) (mtX g.c.P top sc nm i) e = true := h
    unfold mSub at h
    split at h
    · simp only [Bool.and_eq_true] at h
      obtain ⟨⟨h0, h1⟩, h2⟩ := h
      exact .of (fun A R V env e₀ l₀ s₀ ev fr => hx_sub C h0 (sX a _ top sc nm h1 A R V env e₀ l₀ s₀ ev fr).1 (sX i _ top sc nm h2 A R V env e₀ l₀ s₀ ev fr).1) fun _ _ => rfl
    · cases h
  | .slice a lo hi st, e, top, sc, nm, h => by
    replace h : mSlice (mtX g.c.P top sc nm a) (mtO g.c.P top sc nm lo) (mtO g.c.P top sc nm hi) (mtO g.c.P top sc nm st) e = true := h
    unfold mSlice at h
    split at h
    · simp only [Bool.and_eq_true] at h
      obtain ⟨⟨⟨h0, h1⟩, h2⟩, h3⟩ := h
      exact .of (fun A R V env e₀ l₀ s₀ ev fr => hx_slice (sX a _ top sc nm h0 A R V env e₀ l₀ s₀ ev fr).1 (sO lo _ top sc nm h1 A R V env e₀ l₀ s₀ ev fr) (sO hi _ top sc nm h2 A R V env e₀ l₀ s₀ ev fr) (sO st _ top sc nm h3 A R V env e₀ l₀ s₀ ev fr)) fun _ _ => rfl
    · cases h
  | .attr a n, e, top, sc, nm, h => by
    replace h : mAttr (mtX g.c.P top sc nm a) n e = true := h
    unfold mAttr at h
    split at h
    · simp only [Bool.and_eq_true, beq_iff_eq] at h
      obtain ⟨⟨rfl, h1⟩, h2⟩ := h
      exact .of (fun A R V env e₀ l₀ s₀ ev fr => hx_attr C PO h1 (sX a _ top sc nm h2 A R V env e₀ l₀ s₀ ev fr).1) fun _ _ => rfl
    · cases h
  | .call f xs, e, top, sc, nm, h => by
    replace h : mCall sc (g.c.P.gfns.contains f) f (mtXs g.c.P top sc nm xs) e = true := h
    unfold mCall at h
    split at h
    · simp only [Bool.and_eq_true] at h
      obtain ⟨⟨h0, h1⟩, h2⟩ := h
      exact .of (fun A R V env e₀ l₀ s₀ ev fr => hx_call C PO ev fr h0 h1 (each_of (sXs xs _ top sc nm h2) ev fr)) fun _ _ => rfl
    · cases h
  | .new f xs, e, top, sc, nm, h => by
    replace h : mCall sc (g.c.P.classes.contains f) f (mtXs g.c.P top sc nm xs) e = true := h
    unfold mCall at h
    split at h
    · simp only [Bool.and_eq_true] at h
      obtain ⟨⟨h0, h1⟩, h2⟩ := h
      exact .of (fun A R V env e₀ l₀ s₀ ev fr => hx_new C PO ev fr h0 h1 (each_of (sXs xs _ top sc nm h2) ev fr)) fun _ _ => rfl
    · cases h
  | .meth a m xs, e, top, sc, nm, h => by
    replace h : mMeth m (mtX g.c.P top sc nm a) (mtXs g.c.P top sc nm xs) e = true := h
    unfold mMeth at h
    split at h
    · simp only [Bool.and_eq_true, decide_eq_true_eq] at h
      obtain ⟨⟨⟨⟨⟨h0, h1⟩, h2⟩, h3⟩, h4⟩, h5⟩ := h
      cases beq_iff_eq.mp h0
      exact .of (fun A R V env e₀ l₀ s₀ ev fr => hx_meth C PO ev h2 h1 h3 (sX a _ top sc nm h4 A R V env e₀ l₀ s₀ ev fr).1 (each_of (sXs xs _ top sc nm h5) ev fr)) fun _ _ => rfl
    · cases h
  | .bm a m xs, e, top, sc, nm, h => by
    replace h : mMeth m.str (mtX g.c.P top sc nm a) (mtXs g.c.P top sc nm xs) e = true := h
    unfold mMeth at h
    split at h
    · simp only [Bool.and_eq_true, decide_eq_true_eq] at h
      obtain ⟨⟨⟨⟨⟨h0, h1⟩, h2⟩, h3⟩, h4⟩, h5⟩ := h
      cases beq_iff_eq.mp h0
      exact .of (fun A R V env e₀ l₀ s₀ ev fr => hx_bm C ev h2 h1 h3 (sX a _ top sc nm h4 A R V env e₀ l₀ s₀ ev fr).1 (each_of (sXs xs _ top sc nm h5) ev fr)) fun _ _ => rfl
    · cases h
  | .prim f xs, e, top, sc, nm, h => by
    replace h : mCall sc (g.c.P.prims.contains f.str) f.str (mtXs g.c.P top sc nm xs) e = true := h
    unfold mCall at h
    split at h
    · simp only [Bool.and_eq_true] at h
      obtain ⟨⟨h0, h1⟩, h2⟩ := h
      exact .of (fun A R V env e₀ l₀ s₀ ev fr => hx_prim C PO ev fr h0 h1 (each_of (sXs xs _ top sc nm h2) ev fr)) fun _ _ => rfl
    · cases h
  | .isinst a ty, e, top, sc, nm, h => by
    replace h : mIsi g.c.P sc (mtX g.c.P top sc nm a) ty e = true := h
    unfold mIsi at h
    split at h
    · simp only [Bool.and_eq_true] at h
      obtain ⟨⟨⟨⟨h0, h1⟩, h2⟩, h3⟩, h4⟩ := h
      have h2 : (g.c.P.prims.contains ty || (g.c.P.excs.lookup ty).isSome) = true := by rw [Bool.or_eq_true]; simpa using h2
      exact .of (fun A R V env e₀ l₀ s₀ ev fr => hx_isinst C PO fr h0 h1 h2 h3 (sX a _ top sc nm h4 A R V env e₀ l₀ s₀ ev fr).1 (mtX_noStar h4)) fun _ _ => rfl
    · cases h
  | .list xs, e, top, sc, nm, h => by
    replace h : mList (mtXs g.c.P top sc nm xs) e = true := h
    unfold mList at h
    split at h
    · simp only [Bool.and_eq_true, decide_eq_true_eq] at h
      exact .of (fun A R V env e₀ l₀ s₀ ev fr => hx_list (each_of (sXs xs _ top sc nm h.1) ev fr) h.2) fun _ _ => rfl
    · cases h
  | .tuple xs, e, top, sc, nm, h => by
    replace h : mTup (mtXs g.c.P top sc nm xs) e = true := h
    unfold mTup at h
    split at h
    · simp only [Bool.and_eq_true, decide_eq_true_eq] at h
      exact .of (fun A R V env e₀ l₀ s₀ ev fr => hx_tuple (each_of (sXs xs _ top sc nm h.1) ev fr) h.2) fun _ _ => rfl
    · cases h
  | .dict [] [], e, top, sc, nm, h => by
    replace h : mDict [] [] (mtOs g.c.P top sc nm []) (mtXs g.c.P top sc nm []) e = true := h
    unfold mDict at h
    split at h
    · simp only [List.isEmpty_nil, Bool.true_and, Bool.and_eq_true, List.isEmpty_iff] at h
      obtain ⟨rfl, rfl⟩ := h
      exact .of (fun A R V env e₀ l₀ s₀ ev fr => hx_dict0) fun _ _ => rfl
    · cases h
  | .dict (x :: ks) vs, e, top, sc, nm, h => by
    replace h : mDict (x :: ks) vs (mtOs g.c.P top sc nm (x :: ks)) (mtXs g.c.P top sc nm vs) e = true := h
    unfold mDict at h
    split at h <;> cases h
  | .dict [] (x :: vs), e, top, sc, nm, h => by
    replace h : mDict [] (x :: vs) (mtOs g.c.P top sc nm []) (mtXs g.c.P top sc nm (x :: vs)) e = true := h
    unfold mDict at h
    split at h <;> cases h
  | .comp x k tup it c, e, top, sc, nm, h => by
    replace h : mComp top tup k sc nm (mtX g.c.P top sc nm it) (fun csc nm' => mtX g.c.P false csc nm' x) (fun csc nm' => mtC g.c.P csc nm' c) e = true := h
    unfold mComp at h
    simp only [Bool.and_eq_true] at h
    obtain ⟨rfl, h⟩ := h
    split at h
    · split at h
      · rename_i htg
        simp only [Bool.and_eq_true, beq_iff_eq] at h
        obtain ⟨⟨⟨⟨⟨⟨⟨rfl, rfl⟩, rfl⟩, h1⟩, h2⟩, h3⟩, h4⟩, h5⟩ := h
        exact .of (fun A R V env e₀ l₀ s₀ ev fr => hx_comp C htg ev fr h3 (folded_set h1) (sX it _ true sc nm h2 A R V env e₀ l₀ s₀ ev fr).1 (sX x _ false _ _ h4) (sC c _ _ _ h5)) fun _ _ => rfl
      · cases h
    · cases h
theorem sC : ∀ (c : Option X) (es : List PySem.Expr) (sc : Scope) (nm : List Str), mtC g.c.P sc nm c es = true → CTests g sc nm c es
  | none, es, sc, nm, h => by
    rw [mtC_e1] at h; simp only [List.isEmpty_iff] at h
    subst h; exact .nil
  | some x, es, sc, nm, h => by
    rw [mtC_e2] at h
    split at h
    · exact .one (sX x _ false sc nm h)
    · cases h
theorem sXs : ∀ (xs : List X) (es : List PySem.Expr) (top : Bool) (sc : Scope) (nm : List Str), mtXs g.c.P top sc nm xs es = true → Each (fun x e => XOk g sc nm x e ∧ noStar e = true) xs es
  | [], es, top, sc, nm, h => by
    rw [mtXs_e1] at h; simp only [List.isEmpty_iff] at h
    subst h; exact .nil
  | x :: r, es, top, sc, nm, h => by
    rw [mtXs_e2] at h
    split at h
    · simp only [Bool.and_eq_true] at h
      exact .cons ⟨sX x _ top sc nm h.1, mtX_noStar h.1⟩ (sXs r _ top sc nm h.2)
    · cases h
theorem sO : ∀ (o : Option X) (e : Option PySem.Expr) (top : Bool) (sc : Scope) (nm : List Str), mtO g.c.P top sc nm o e = true →
    ∀ (A : Around) (R : RR) (V : VV) (env : Env) (e₀ : Env) (l₀ : List Env) (s₀ : Shared), Ev g A R e₀ l₀ → Frm R env sc nm V → HO g A R V s₀ env o e
  | none, e, top, sc, nm, h => by
    rw [mtO_e1] at h; simp only [Option.isNone_iff_eq_none] at h
    subst h
    intros; trivial
  | some x, e, top, sc, nm, h => by
    rw [mtO_e2] at h
    split at h
    · exact fun A R V env e₀ l₀ s₀ ev fr => (sX x _ top sc nm h A R V env e₀ l₀ s₀ ev fr).1
    · cases h
end
end
end Mine

end
section
open PySem PySem.W PyProof.Rows PySem.Spec PySem.SeqAt PySem.Calls
namespace Mine

section
variable {g : Gx} {sc : Scope} {nm : List Str} {mg mb : Str → Option Value}

abbrev XMd (g : Gx) (sc : Scope) (nm : List Str) (x : X) (e : PySem.Expr) : Prop := ∀ md, XOk { g with md := md } sc nm x e

set_option tactic.hygienic false in
theorem te_tx {md : Bool} {R : RR} {env : Env} {V : VV} {s₀ s' : Shared} {E : String → VV → AHeap → Prop} {e : Value} (fr : Frm R env sc nm V) (h : TE { g with md := md } R s₀ (fun cl H => E cl V H) e s') : TX g env sc nm R s₀ E e s' := by
  obtain ⟨a, cl, H', rfl, x, m, q⟩ := h
  exact ⟨a, cl, R, V, H', .none, rfl, .refl, fr, .inr (.inl rfl), x, m, q⟩
set_option tactic.hygienic false in
theorem TF.trans {R R' : RR} {env : Env} {s₀ s' : Shared} {QN : VV → AHeap → Prop} {QR : AV → AHeap → Prop} {f : Flow} (x : RStep env R R') (h : TF g env sc nm R' s₀ QN QR f s') : TF g env sc nm R s₀ QN QR f s' := by
  cases f with
  | next => obtain ⟨R₂, V', H', r, k1, k2, k3, k4⟩ := h; exact ⟨R₂, V', H', x.trans r, k1, k2, k3, k4⟩
  | ret v => obtain ⟨R₂, V', H', r, k1, k2, k3, k4⟩ := h; exact ⟨R₂, V', H', x.trans r, k1, k2, k3, k4⟩
  | brk => exact h
  | cont => exact h
set_option tactic.hygienic false in
theorem TX.trans {R R' : RR} {env : Env} {s₀ s' : Shared} {E : String → VV → AHeap → Prop} {e : Value} (x : RStep env R R') (h : TX g env sc nm R' s₀ E e s') : TX g env sc nm R s₀ E e s' := by
  obtain ⟨a, cl, R₂, V', H', fl, h1, r, k1, k2, k3, k4, k5⟩ := h
  exact ⟨a, cl, R₂, V', H', fl, h1, x.trans r, k1, k2, k3, k4, k5⟩

set_option tactic.hygienic false in
theorem swaps_sub {v o ix : PySem.Expr} {p : Pos} {l : Nat} {env : Env} : swapsWith v (some (.Subscript o ix p)) l env = pure false := by
  cases v <;> rfl
set_option tactic.hygienic false in
theorem swaps_plain {v : PySem.Expr} {t : Option PySem.Expr} {l : Nat} {env : Env} (h : notComp v = true) : swapsWith v t l env = pure false := by
  cases v <;> first | rfl | cases h

set_option tactic.hygienic false in
theorem s_ret {e : X} {v : PySem.Expr} {pos : Pos} (hx : XMd g sc nm e v) : SOk g sc nm (fun g => wpS g (.ret e)) (exec (.Return (some v) pos)) := fun md A env l₀ R V s₀ s H QN QR E ev fr S m q => by
  dsimp only [w_ite, w_ret, w_asg, s_expr', s_raise', s_for', s_while', s_try', s_pass'] at q
  refine wpAny_Return_some (wpAny_mono ((hx md A R V env env l₀ s₀ ev fr).1 H s _ _ S m q) (fun u s' z => ?_) fun _ _ z => te_tx fr z)
  obtain ⟨av, H', hv, S', m', q'⟩ := z
  exact ⟨R, av, H', .refl, hv, S', m', q'⟩

set_option tactic.hygienic false in
theorem s_pass {pos : Pos} : SOk g sc nm (fun g => wpS g .pass) (exec (.Pass pos)) := fun md A env l₀ R V s₀ s H QN QR E ev fr S m q => by
  dsimp only [w_ite, w_ret, w_asg, s_expr', s_raise', s_for', s_while', s_try', s_pass'] at q
  exact wpAny_Pass ⟨R, V, H, .refl, fr, S, m, q⟩

set_option tactic.hygienic false in
theorem s_expr {e : X} {v : PySem.Expr} {pos : Pos} (hn : notComp v = true) (hx : XMd g sc nm e v) : SOk g sc nm (fun g => wpS g (.expr e)) (exec (.Expr v pos)) := fun md A env l₀ R V s₀ s H QN QR E ev fr S m q => by
  dsimp only [w_ite, w_ret, w_asg, s_expr', s_raise', s_for', s_while', s_try', s_pass'] at q
  refine wpAny_Expr_any (wpAny_mono ((hx md A R V env env l₀ s₀ ev fr).1 H s _ _ S m q) (fun u s' z => ?_) fun _ _ z => te_tx fr z) (by unfold interactive; rw [fr.kind]; rfl) (swaps_plain hn)
  obtain ⟨av, H', hv, S', m', q'⟩ := z
  exact ⟨R, V, H', .refl, fr, S', m', q'⟩

set_option tactic.hygienic false in
theorem st_tg {c : Cx} {H : AHeap} {A : Around} {E : Value → Shared → Prop} {env : Env} {Q : Unit → Shared → Prop} {mg mb : Str → Option Value} {t : Tg} {e : PySem.Expr} {x : AV} {u : Value} {R : RR} {V : VV} {s : Shared} {P : VV → Prop} (C : c.Ok mg mb) (hh : A.handled = none) (nd : nm.Nodup) (h : tgOk sc nm t e = true) (hv : VR x u)
    (hw : wtg t x V H P) (fr : Frm R env sc nm V) (S : St c R H s.heap) (q : ∀ s' R' V', P V' → RStep env R R' → Frm R' env sc nm V' → St c R' H s'.heap → Sm s s' → Q () s') : wpAny (model c.prog c.w) A (assign e env u) Q E s := by
  cases t with
  | var i =>
    have h : tgtOk sc nm i e = true := h
    unfold tgtOk at h
    split at h
    · rw [Bool.and_eq_true, beq_iff_eq] at h
      exact wpAny_assign_Name (st_name fr nd h.1 h.2 hv S fun s' R' r' f' S' m' => q s' R' _ hw.2 r' f' S' m')
    · cases h
  | tup is => exact Bool.noConfusion (show false = true from h)

theorem s_asgn_var {i : Nat} {e : X} {tg v : PySem.Expr} {pos : Pos} (nd : nm.Nodup) (hn : notComp v = true) (ht : tgtOk sc nm i tg = true) (hx : XMd g sc nm e v) : SOk g sc nm (fun g => wpS g (.assign (.var i) e)) (exec (.Assign [tg] v pos)) :=
  fun md A env l₀ R V s₀ s H QN QR E ev fr S m q => by
  dsimp only [w_ite, w_ret, w_asg, s_expr', s_raise', s_for', s_while', s_try', s_pass', tv, tsub, tattr, ttup] at q
  unfold tgtOk at ht
  split at ht
  · rename_i id p
    simp only [Bool.and_eq_true, beq_iff_eq] at ht
    refine wpAny_Assign_Name (wpAny_mono ((hx md A R V env env l₀ s₀ ev fr).1 H s _ _ S m q) (fun u s₁ z => ?_) fun _ _ z => te_tx fr z) (swaps_plain hn)
    obtain ⟨av, H', hv, S', m', _, q'⟩ := z
    exact st_name fr nd ht.1 ht.2 hv S' fun s₂ R' r f' S₂ m₂ => ⟨R', _, H', r, f', S₂, m'.trans m₂, q'⟩
  · cases ht

set_option tactic.hygienic false in
theorem Frm.drop {R R' : RR} {env : Env} {V V' : VV} {Ca : Addr} (f : Frm R' env sc nm V') (fr : Frm R env sc nm V) (hCa : R Ca = none) : Frm (rdrop R' Ca) env sc nm V' := by
  obtain ⟨k1, k2, k3, k4, k5, k6, k7, kc, kl, k8, ⟨m, n1, n2⟩, k9⟩ := f
  obtain ⟨m', n1', _⟩ := fr.ns
  refine ⟨k1, k2, k3, k4, k5, k6, k7, kc, kl, k8, ⟨m, by rw [rdrop_other (fun z => by rw [z, hCa] at n1'; cases n1')]; exact n1, n2⟩, fun i n hn hk => ?_⟩
  obtain ⟨a, x, v, c1, c2, c3⟩ := k9 i n hn hk
  obtain ⟨a', x', v', c1', c2', c3'⟩ := fr.cell i n hn hk
  rw [c1] at c1'; cases c1'
  exact ⟨a, x, v, c1, by rw [rdrop_other (fun z => by rw [z, hCa] at c2'; cases c2')]; exact c2, c3⟩

set_option tactic.hygienic false in
theorem RStep.drop {env : Env} {R R' : RR} {a : Addr} (x : RStep env R R') : RStep env (rdrop R a) (rdrop R' a) := fun b => by
  by_cases z : b = a
  · subst z; left; rw [rdrop_same, rdrop_same]
  · rw [rdrop_other z, rdrop_other z]; exact x b

theorem s_asgn_comp {i : Nat} {x it : X} {c : Option X} {tg ctg elt iter : PySem.Expr} {ifs : List PySem.Expr} {tup : Bool} {ts : List Str} {csc : Scope} {pos spos : Pos} (C : g.c.Ok mg mb) (htg : tgNames ctg = some (tup, ts)) (nd : nm.Nodup) (ht : tgtOk sc nm i tg = true) (hm : compScOk sc csc nm ts = true)
    (hf : notSet iter = true) (hit : XMd g sc nm it iter) (hx : ∀ md, XOk { g with md := md } csc (hideN nm ts ++ ts) x elt) (hc : ∀ md, CTests { g with md := md } csc (hideN nm ts ++ ts) c ifs)
    (hcm : XMd g sc nm (.comp x ts.length tup it c) (.ListComp elt [⟨ctg, iter, ifs, 0⟩] csc pos)) : SOk g sc nm (fun g => wpS g (.assign (.var i) (.comp x ts.length tup it c))) (exec (.Assign [tg] (.ListComp elt [⟨ctg, iter, ifs, 0⟩] csc pos) spos)) :=
  fun md A env l₀ R V s₀ s H QN QR E ev fr S m q => by
  dsimp only [w_ite, w_ret, w_asg, s_expr', s_raise', s_for', s_while', s_try', s_pass', tv, tsub, tattr, ttup] at q
  unfold tgtOk at ht
  split at ht
  · rename_i id p
    simp only [Bool.and_eq_true, beq_iff_eq] at ht
    obtain ⟨b, hsw⟩ : ∃ b, swapsWith (.ListComp elt [⟨ctg, iter, ifs, 0⟩] csc pos) (some (.Name id p)) spos.line env = pure b := ⟨_, rfl⟩
    cases b with
    | false =>
      refine wpAny_Assign_Name (wpAny_mono ((hcm md A R V env env l₀ s₀ ev fr).1 H s _ _ S m q) (fun u s₁ z => ?_) fun _ _ z => te_tx fr z) hsw
      obtain ⟨av, H', hv, S', m', _, q'⟩ := z
      exact st_name fr nd ht.1 ht.2 hv S' fun s₂ R' r f' S₂ m₂ => ⟨R', _, H', r, f', S₂, m'.trans m₂, q'⟩
    | true =>
      dsimp only [x_lit, x_var, x_bin, x_neg, x_not, x_ao, x_ite, x_cmp, x_cmp2, x_sub, x_slice, x_glob, x_call, x_prim, x_bm, x_isi, x_list, x_tup, x_new, x_dict0, x_dict1, x_attr, x_meth, x_comp] at q
      obtain ⟨hmd, q⟩ := q
      rw [exec_Assign_Name_used _ _ _ _ hsw]
      refine wpAny_bind (wpAny_standAt (wpAny_bind ?_))
      show wpAny _ A (do let _ ← comprehension (.ListComp elt [⟨ctg, iter, ifs, 0⟩] csc pos) csc env _ (newList []) false (eval iter env) (some (assign (.Name id p) env))) _ _ s
      refine wpAny_bind (wpAny_mono (wpAny_comprehension_free (use := some (assign (.Name id p) env)) (Q := fun _ s' => TF g env sc nm R s₀ QN QR .next s') rfl (folded_set hf) (comp_clos fr hm) (comp_sc hm).1 (comp_sc hm).2.2 ?_)
        (fun _ s' hq => wpAny_pure (wpAny_pure hq)) fun _ _ e => e)
      refine wpAny_mono ((hit md A R V env env l₀ s₀ ev fr).1 H s _ (fun cl H => E cl V H) S m q) (fun u s₁ z => ?_) fun _ _ z => te_tx fr z
      obtain ⟨av, H₁, hv, S₁, m₁, xs, hxs, hz, I, hI, hstep⟩ := z
      refine comp_block (g := { g with md := md }) (I := I) (RR' := fun acc Ca => compPost (model g.c.prog g.c.w) A (TX g env sc nm R s₀ E) (some (assign (.Name id p) env)) (fun _ s' => TF g env sc nm R s₀ QN QR .next s') acc Ca) C htg (ev.aok.hand hmd) ev fr hm (hx md) (hc md) hv S₁ m₁ hxs hz hI (fun k acc H' hi => ⟨(hstep k acc H' hi).1, (hstep k acc H' hi).2.2⟩) ?_
      intro D Ca acc H' s' m' hCa hi hd S' ms'
      have f₁ : Frm (rup R Ca (.ns m')) env sc nm V := fr.congr fun b hb => rup_other fun z => by
        rw [z] at hb; rcases hb with ⟨_, hb⟩ | ⟨_, hb⟩ <;> (rw [hCa] at hb; cases hb)
      show wpAny _ A (assign (.Name id p) env (.ref D)) _ _ _
      refine wpAny_assign_Name (st_name f₁ nd ht.1 ht.2 (.ref D) S' fun s₂ R' r f' S₂ m₂ => ?_)
      obtain ⟨m'', hm''⟩ := r.ns rup_same
      refine ⟨m'', (S₂.res Ca _ hm'').2, fun h' hs' => ?_⟩
      have hRR : rdrop (rup R Ca (.ns m')) Ca = R := by
        funext b
        by_cases z : b = Ca
        · subst z; rw [rdrop_same, hCa]
        · rw [rdrop_other z, rup_other z]
      have rd := r.drop (a := Ca)
      rw [hRR] at rd
      exact ⟨rdrop R' Ca, _, _, rd, f'.drop fr hCa, S₂.dropAny hm'' hs'.extBut (by rw [hs'.1]; exact S₂.size), (ms'.trans m₂).heap _, ((hstep _ acc H' hi).2.1 rfl D hd).2⟩
  · cases ht

set_option tactic.hygienic false in
theorem s_if {c : X} {a b : List S} {t : PySem.Expr} {x y : List Stmt} {pos : Pos} (hc : XMd g sc nm c t) (ha : SOk g sc nm (fun g => wpSs g a) (execs x)) (hb : SOk g sc nm (fun g => wpSs g b) (execs y)) :
    SOk g sc nm (fun g => wpS g (.ite c a b)) (exec (.If t x y pos)) := fun md A env l₀ R V s₀ s H QN QR E ev fr S m q => by
  dsimp only [w_ite, w_ret, w_asg, s_expr', s_raise', s_for', s_while', s_try', s_pass'] at q
  refine wpAny_If (wpAny_mono ((hc md A R V env env l₀ s₀ ev fr).2 H s (fun _ t H => if t then wpSs { g with md := md } a QN QR E V H else wpSs { g with md := md } b QN QR E V H) (fun cl H => E cl V H) S m q) (fun u s' z => ?_) fun _ _ z => te_tx fr z)
  obtain ⟨v, H', S', m', q', _⟩ := z
  cases u with
  | true => exact ha md A env l₀ R V s₀ s' H' QN QR E ev fr S' m' (by simpa using q')
  | false => exact hb md A env l₀ R V s₀ s' H' QN QR E ev fr S' m' (by simpa using q')

set_option tactic.hygienic false in
theorem ss_nil : SOk g sc nm (fun g => wpSs g []) (execs []) := fun md A env l₀ R V s₀ s H QN QR E ev fr S m q => by
  dsimp only [w_nil, w_cons] at q
  exact wpAny_execs_nil ⟨R, V, H, .refl, fr, S, m, q⟩
set_option tactic.hygienic false in
theorem ss_cons {st : S} {r : List S} {t : Stmt} {u : List Stmt} (h : SOk g sc nm (fun g => wpS g st) (exec t)) (hr : SOk g sc nm (fun g => wpSs g r) (execs u)) : SOk g sc nm (fun g => wpSs g (st :: r)) (execs (t :: u)) :=
  fun md A env l₀ R V s₀ s H QN QR E ev fr S m q => by
  dsimp only [w_nil, w_cons] at q
  refine wpAny_execs_cons (wpAny_mono (h md A env l₀ R V s₀ s H _ QR E ev fr S m q) (fun f s' z => ?_) fun _ _ z => z)
  cases f with
  | next =>
    obtain ⟨R', V', H', r', f', S', m', q'⟩ := z
    exact wpAny_mono (hr md A env l₀ R' V' s₀ s' H' QN QR E (ev.step r') f' S' m' q') (fun _ _ z => z.trans r') fun _ _ z => z.trans r'
  | ret v => exact z
  | brk => exact z
  | cont => exact z

theorem came_back {M : Model} {A : Around} {env : Env} {R : RR} {H : AHeap} {a : Addr} {cl : String} {s : Shared} {E : Value → Shared → Prop} (hf : env.frame = some env.locals) (X : ExcSt g.c R H a cl (rawInt env.locals) s.heap)
    (q : ∀ h', ExcSt g.c R H a cl (rawInt env.locals) h' → E (.ref a) { s with heap := h' }) : cameBackBy M A env E (.ref a) s := by
  unfold cameBackBy
  have X' := X
  obtain ⟨H₁, ⟨st, re, he, be, ob, kn⟩, _⟩ := X'
  cases ob with
  | traced h1 h2 h3 h4 h5 h6 h7 h8 h9 h10 h11 h12 h13 =>
    rename_i oe vs T oT ts a0
    refine wpAny_bind (wpAny_field h1 h3 h5 ?_)
    rw [if_neg (show ¬ ((Value.ref T == Value.none) = true) from by simp)]
    rw [hf]
    exact exc_flight X (by simp [rawInt]) fun h' X₂ => q h' X₂

set_option tactic.hygienic false in
theorem noted_came {md : Bool} {A : Around} {env : Env} {l₀ : List Env} {R : RR} {s₀ s : Shared} {E : String → VV → AHeap → Prop} {e : Value} {M : Model} (ev : Ev { g with md := md } A R env l₀) (h : TX g env sc nm R s₀ E e s) :
    notedBy M A env (fun e s' => cameBackBy M A env (TX g env sc nm R s₀ E) e s') e s := by
  obtain ⟨a, cl, R', V', H', fl, rfl, r, fr, hfl, X, m, q⟩ := h
  refine exc_note ev.aok.frames (r.stk ev.stk) X hfl fun h₁ X₁ => ?_
  refine came_back (g := g) (s := { s with heap := h₁ }) (ev.stk env (.head _)).frame X₁ fun h₂ X₂ => ?_
  exact ⟨a, cl, R', V', H', _, rfl, r, fr, .inr (.inr rfl), X₂, m.trans ⟨_, _, rfl⟩, q⟩

inductive ForI (c : Cx) (env : Env) (sc : Scope) (nm : List Str) (R : RR) (s₀ : Shared) (a : Addr) (av : AV) (l : Nat) (I : Nat → VV → AHeap → Prop) (n : Nat) (s : Shared) : Prop
  | mk (k : Nat) (R' : RR) (V' : VV) (H' : AHeap) (o' : Obj) (hn : n = l - k) (hk : k ≤ l) (hR : R' a = some (.obj o')) (it : ItObj H' av k o') (r : RStep env R (rdrop R' a)) (f : Frm R' env sc nm V') (S : St c R' H' s.heap) (m : Sm s₀ s) (q : I k V' H') : ForI c env sc nm R s₀ a av l I n s
theorem s_for {t : Tg} {it : X} {b : List S} {tg iter : PySem.Expr} {x : List Stmt} {pos : Pos} (C : g.c.Ok mg mb) (nd : nm.Nodup) (hn : notSet iter = true) (ht : tgOk sc nm t tg = true) (hi : XMd g sc nm it iter) (hb : SOk g sc nm (fun g => wpSs g b) (execs x)) :
    SOk g sc nm (fun g => wpS g (.for t it b)) (exec (.For tg iter x [] pos)) := fun md A env l₀ R V s₀ s H QN QR E ev fr S m q => by
  dsimp only [w_ite, w_ret, w_asg, s_expr', s_raise', s_for', s_while', s_try', s_pass'] at q
  obtain ⟨hmd, q⟩ := q
  subst hmd
  · refine wpAny_For (wpAny_mono ((hi true A R V env env l₀ s₀ ev fr).1 H s _ (fun cl H => E cl V H) S m q) (fun u s₁ z => ?_) fun _ _ z => te_tx fr z) (folded_set hn)
    obtain ⟨av, H₁, hv, S₁, m₁, xs, hxs, I, hI, hstep⟩ := z
    refine it_new C hv S₁ hxs fun s₂ a o ha hHa ho S₂ m₂ => ?_
    have hsv : ∀ y, av = .str y → PyData.strOk y = true := by rintro y rfl; cases hv; assumption
    have hna : ∀ b, (∃ m, R b = some (.ns m)) ∨ (∃ x, R b = some (.cell x)) → b ≠ a := by rintro b (⟨m, h⟩ | ⟨m, h⟩) rfl <;> (rw [ha] at h; cases h)
    have ft : Frm (rup R a (.obj o)) env sc nm V := fr.congr fun b hb => rup_other (hna b hb)
    refine codeAny_forLoop_any (ForI g.c env sc nm R s₀ a av xs.length I) ?_ xs.length
      ⟨0, rup R a (.obj o), V, H₁, o, by omega, Nat.zero_le _, rup_same, ho, fun b => .inl ?_, ft, S₂, m₁.trans m₂, hI⟩
    · rintro n s₃ ⟨k, R', V', H', o', hn', hk, hR', hit, hrs, f', S', m', hi'⟩
      obtain ⟨hsame, hend, hturn⟩ := hstep k V' H' hi'
      have hxs' : itemsOf H' av = some xs := by
        rw [← hxs]
        cases av with
        | ref a' => simp only [sameIt] at hsame; dsimp only [itemsOf]; rw [hsame]
        | _ => rfl
      have hdrop : ∀ R₂ : RR, RStep env R (rdrop R₂ a) → Stk R₂ (env :: l₀) := fun R₂ r e he => by
        have F := ev.stk e he
        obtain ⟨mm, hm⟩ := F.ns
        obtain ⟨m', hm'⟩ := r.ns hm
        exact ⟨F.kind, F.frame, F.gen, F.co, F.blt, F.glob, m', rdrop_le _ _ hm'⟩
      have evd : ∀ R₂ : RR, RStep env R (rdrop R₂ a) → Ev { g with md := true } A R₂ env l₀ := fun R₂ r => ⟨ev.aok, hdrop R₂ r⟩
      have frd : ∀ {R₂ : RR} {V₂ : VV} {o₂ : Obj}, R₂ a = some (.obj o₂) → Frm R₂ env sc nm V₂ → Frm (rdrop R₂ a) env sc nm V₂ := fun {R₂ V₂ o₂} h f => f.congr fun b hb => rdrop_other fun z => by
        rw [z, h] at hb; rcases hb with ⟨_, hb⟩ | ⟨_, hb⟩ <;> cases hb
      have fin : ∀ {e : Value} {s' : Shared} {R₂ : RR} {o₂ : Obj}, R₂ a = some (.obj o₂) → RStep env R (rdrop R₂ a) → TX g env sc nm R₂ s₀ E e s' → TX g env sc nm R s₀ E e s' := by
        rintro e s' R₂ o₂ h r ⟨b, cl, R₃, V₃, H₃, fl, e1, r₃, f₃, hfl, X, m, q⟩
        exact ⟨b, cl, rdrop R₃ a, V₃, H₃, fl, e1, r.trans r₃.drop, frd (r₃.obj h) f₃, hfl, X.weaken rdrop_le, m, q⟩
      rcases Nat.lt_or_ge k xs.length with hlt | hge
      · obtain ⟨xv, hx⟩ : ∃ xv, xs[k]? = some xv := ⟨xs[k], by simp [hlt]⟩
        refine it_item hxs' hx hit hR' S' hsv fun s₄ u₄ o₂ hvx ho₂ S₄ m₄ => ?_
        have r₄ : RStep env R (rdrop (rup R' a (.obj o₂)) a) := by
          have : rdrop (rup R' a (.obj o₂)) a = rdrop R' a := by
            funext b
            by_cases z : b = a
            · subst z; rw [rdrop_same, rdrop_same]
            · rw [rdrop_other z, rdrop_other z, rup_other z]
          rw [this]; exact hrs
        have f₄ : Frm (rup R' a (.obj o₂)) env sc nm V' := f'.congr fun b hb => rup_other fun z => by
          rw [z, hR'] at hb; rcases hb with ⟨_, hb⟩ | ⟨_, hb⟩ <;> cases hb
        have hst := hturn xv hx
        refine owned_it ho₂ ((S₄.res _ _ rup_same).2) ?_
        refine st_tg C (ev.aok.hand rfl) nd ht hvx hst f₄ S₄ fun s₅ R₅ V₅ hst r₅ f₅ S₅ m₅ => ?_
        have h₅ := r₅.obj (rup_same (R := R'))
        have rr := r₄.trans r₅.drop
        refine wpAny_mono (hb true A env l₀ R₅ _ s₀ s₅ H' _ QR E (evd R₅ rr) f₅ S₅ ((m'.trans m₄).trans m₅) hst) (fun fl s₆ z => ?_) fun _ _ z => noted_came ev (fin h₅ rr z)
        cases fl with
        | next =>
          obtain ⟨R₆, V₆, H₆, r₆, f₆, S₆, m₆, q₆⟩ := z
          refine ⟨xs.length - (k + 1), by omega, k + 1, R₆, V₆, H₆, o₂, rfl, by omega, r₆.obj h₅, ?_, rr.trans r₆.drop, f₆, S₆, m₆, q₆⟩
          have hs6 := (hstep (k + 1) V₆ H₆ q₆).1
          cases av with
          | ref a' =>
            simp only [sameIt] at hsame hs6
            exact ho₂.same (by simp only [sameIt]; rw [hs6, hsame])
          | str y => exact ho₂
          | _ => exact ho₂
        | ret v =>
          obtain ⟨R₆, av₆, H₆, r₆, hv₆, S₆, m₆, q₆⟩ := z
          exact ⟨rdrop R₆ a, av₆, H₆, rr.trans r₆.drop, hv₆, S₆.weaken rdrop_le, m₆, q₆⟩
        | brk => exact z.elim
        | cont => exact z.elim
      · obtain ⟨mm, hmm, _⟩ := f'.ns
        refine it_end (ev.aok.hand rfl) hxs' (by simp; omega) hit hR' hmm S' fun s₄ S₄ m₄ => ?_
        exact wpAny_execs_nil ⟨rdrop R' a, V', H', hrs, frd hR' f', S₄, m'.trans m₄, hend (by omega)⟩
    · by_cases z : b = a
      · subst z; rw [rdrop_same, ha]
      · rw [rdrop_other z, rup_other z]
end
end Mine

end
section
open PySem PySem.W PyProof.Rows PySem.Spec PySem.SeqAt PySem.Calls
namespace Mine

section
variable {g : Gx} {sc : Scope} {nm : List Str} {mg mb : Str → Option Value}

theorem DRs.store {es : List (Str × AV)} {kvs : List (Str × Value)} (h : DRs es kvs) {k : Str} {x : AV} {u : Value} (hk : PyData.strOk k = true) (hv : VR x u) : DRs (putS es k x) (stored kvs k u) := by
  have ha : (lookS es k).isSome = kvs.any (fun kv => kv.1 = k) := by
    induction h with
    | nil => rfl
    | cons h1 h2 _ ih =>
      unfold lookS at ih ⊢
      rw [List.find?_cons, List.any_cons]
      split
      · rename_i z; simp at z; simp [z]
      · rename_i z; simp at z; rw [ih]; simp [z]
  unfold putS stored
  rw [ha]
  split
  · clear ha
    rename_i z; clear z
    induction h with
    | nil => exact .nil
    | cons h1 h2 _ ih =>
      rename_i k' a v as vs _
      simp only [List.map_cons]
      by_cases z : k' = k
      · simp only [z, if_true]; exact .cons hk hv ih
      · simp only [z, if_false]; exact .cons h1 h2 ih
  · clear ha
    rename_i z; clear z
    induction h with
    | nil => exact .cons hk hv .nil
    | cons h1 h2 _ ih => exact .cons h1 h2 ih

set_option tactic.hygienic false in
theorem s_setitem {A : Around} {R : RR} {H : AHeap} {s s₀ : Shared} {E : Value → Shared → Prop} {p : Addr} {k : Str} {t : Tok} {ep : Nat} {es : List (Str × AV)} {x : AV} {u : Value} {Q : Unit → Shared → Prop} (hv : VR x u) (hk : PyData.strOk k = true) (e : H p = some (.dict ep es)) (hz : es.length ≤ sizeLine)
    (S : St g.c R H s.heap) (m : Sm s₀ s) (q : ∀ s' ep', St g.c R (up H p (.dict ep' (putS es k x))) s'.heap → Sm s₀ s' → Q () s') : wpAny (model g.c.prog g.c.w) A (setItem (.ref p) (.str k t) u) Q E s := by
  obtain ⟨kvs, hd, hr⟩ := isDict_of S e
  refine wpAny_setItem_pairs (strKind_is _ _ k t) hd.dictOf (fun h' hd' hs => ?_) (by rw [hr.length]; exact hz)
  obtain ⟨ep', hat⟩ := hd'.dictAt
  exact q _ ep' (S.setObj e (by intro _ _ z; cases z) hs fun D => ⟨_, hat, hr.store hk hv⟩) (m.step _ _)

set_option tactic.hygienic false in
theorem swaps_attr {v o : PySem.Expr} {n : Str} {p : Pos} {l : Nat} {env : Env} : swapsWith v (some (.Attribute o n p)) l env = pure false := by
  cases v <;> rfl
set_option tactic.hygienic false in
theorem s_setlist {A : Around} {R : RR} {H : AHeap} {s s₀ : Shared} {E : Value → Shared → Prop} {p : Addr} {j : Int} {t : Tok} {xs : List AV} {x : AV} {u : Value} {Q : Unit → Shared → Prop} (hv : VR x u) (e : H p = some (.list xs)) (h0 : 0 ≤ j) (h1 : j < xs.length) (hz : xs.length < 2 ^ 62)
    (S : St g.c R H s.heap) (m : Sm s₀ s) (q : ∀ s', St g.c R (up H p (.list (xs.set j.toNat x))) s'.heap → Sm s₀ s' → Q () s') : wpAny (model g.c.prog g.c.w) A (setItem (.ref p) (.int j t) u) Q E s := by
  obtain ⟨vs, n, k1, k2, k3⟩ := isList_of S e
  have hl := k2.length
  have hfin : ∀ i : Nat, i = j.toNat → Q () { s with heap := s.heap.update p (Obj.mapSeq (·.setIfInBounds i u)) } := by
    rintro i rfl
    have hg : ∃ n', (s.heap.update p (Obj.mapSeq (·.setIfInBounds j.toNat u))).get? p = some (listOf (vs.toArray.setIfInBounds j.toNat u) n') := ⟨_, Heap.get?_update_self (Obj.mapSeq (·.setIfInBounds j.toNat u)) k1 rfl⟩
    obtain ⟨n', hg⟩ := hg
    rw [List.setIfInBounds_toArray] at hg
    exact q _ (S.setObj (o' := .list (xs.set j.toNat x)) e (by intro _ _ z; cases z) (Heap.SameBut.update ..) fun D => ⟨vs.set j.toNat u, n', hg, k2.set hv _⟩) (m.heap _)
  unfold setItem
  try with_reducible refine wpAny_holding ?_
  refine wpAny_bind (wpAny_sequenceKey k3.typeIs (by decide) ?_)
  refine wpAny_bind (wpAny_callSpecial?_slot (name := Str.ofString "__setitem__") k3.typeIs PySem.F.slot_list_setitem
    (wpAny_call_entry PySem.F.slot_list_setitem k3.typeIs PySem.F.entry_list_setitem ?_ (PySem.F.args_list_setitem_3 _ _ _)))
  show wpAny _ _ (Builtin.List.listSubscript? (.int j t) >>= _) _ _ s
  refine wpAny_bind (wpAny_listSubscript_int (fitsIndex_of h0 (by omega)) ?_)
  obtain ⟨i, rfl⟩ := Int.eq_ofNat_of_zero_le h0
  have hj : i < vs.toArray.size := by simp only [List.size_toArray]; omega
  have hx' : vs.toArray[i]? = some vs.toArray[i] := Array.getElem?_eq_getElem hj
  show wpAny _ _ ((seqItemAt p i >>= fun r => pure (r.map (i, ·))) >>= _) _ _ s
  refine wpAny_bind (wpAny_bind (wpAny_seqItemAt k1 rfl (wpAny_pure ?_)))
  rw [hx']
  show wpAny _ _ (setSeqItemAt p i u >>= _) _ _ s
  refine wpAny_bind (wpAny_setSeqItemAt k1 rfl ?_)
  first
    | exact wpAny_bind (wpAny_pure (wpAny_pure ⟨.none, rfl, wpAny_pure (hfin i rfl)⟩))
    | exact wpAny_pure ⟨.none, rfl, wpAny_pure (hfin i rfl)⟩

theorem s_asgn_sub {a i : X} {e : X} {o ix v : PySem.Expr} {p pos : Pos} (hns : noSlice ix = true) (ha : XMd g sc nm a o) (hi : XMd g sc nm i ix) (hx : XMd g sc nm e v) : SOk g sc nm (fun g => wpS g (.assign (.sub a i) e)) (exec (.Assign [.Subscript o ix p] v pos)) :=
  fun md A env l₀ R V s₀ s H QN QR E ev fr S m q => by
  dsimp only [w_ite, w_ret, w_asg, s_expr', s_raise', s_for', s_while', s_try', s_pass', tv, tsub, tattr, ttup] at q
  refine wpAny_Assign_Subscript (wpAny_mono ((hx md A R V env env l₀ s₀ ev fr).1 H s _ _ S m q) (fun u s₁ z => ?_) fun _ _ z => te_tx fr z) swaps_sub
  obtain ⟨av, H₁, hv, S₁, m₁, q₁⟩ := z
  refine wpAny_mono ((ha md A R V env env l₀ s₀ ev fr).1 H₁ s₁ _ _ S₁ m₁ q₁) (fun ov s₂ z => ?_) fun _ _ z => te_tx fr z
  obtain ⟨ao, H₂, ho, S₂, m₂, q₂⟩ := z
  refine wpAny_mono ((hi md A R V env env l₀ s₀ ev fr).1 H₂ s₂ _ _ S₂ m₂ q₂) (fun iv s₃ z => ?_) fun _ _ z => te_tx fr z
  obtain ⟨ai, H₃, hiv, S₃, m₃, q₃⟩ := z
  split at q₃
  · cases ho
    cases hiv with
    | str k t hk =>
    split at q₃
    · rename_i ep es e
      exact s_setitem hv hk e q₃.1 S₃ m₃ fun s' ep' S' m' => ⟨R, V, _, .refl, fr, S', m', q₃.2 ep'⟩
    · exact q₃.elim
  · cases ho
    cases hiv with
    | int j t =>
    split at q₃
    · rename_i xs e
      exact s_setlist hv e q₃.1 q₃.2.1 q₃.2.2.1 S₃ m₃ fun s' S' m' => ⟨R, V, _, .refl, fr, S', m', q₃.2.2.2⟩
    · exact q₃.elim
  · exact q₃.elim

noncomputable def putR (n : String) (a : AV) : List (String × AV) → List (String × AV)
  | [] => [(n, a)]
  | (k, b) :: r => if k = n then (k, a) :: r else (k, b) :: putR n a r
set_option tactic.hygienic false in
theorem putA_R {n : String} {a : AV} : ∀ {es : List (String × AV)}, (es.map (·.1)).Nodup → putA es n a = putR n a es
  | [], _ => rfl
  | (k, b) :: r, nd => by
    rw [List.map_cons, List.nodup_cons] at nd
    have ih := putA_R (n := n) (a := a) nd.2
    unfold putA at *
    rw [putR]
    by_cases z : k = n
    · have h2 : (lookA ((k, b) :: r) n).isSome = true := by simp [lookA, z]
      rw [h2, if_pos rfl, if_pos z, List.map_cons, if_pos z]
      congr 1
      refine (List.map_congr_left fun e he => ?_).trans (List.map_id r)
      have hne : e.1 ≠ n := fun w => nd.1 (by show k ∈ _; rw [z, ← w]; exact List.mem_map.mpr ⟨e, he, rfl⟩)
      rw [if_neg hne]; rfl
    · have h2 : (lookA ((k, b) :: r) n).isSome = (lookA r n).isSome := by simp [lookA, z]
      rw [h2, if_neg z, ← ih]
      split
      · rw [List.map_cons, if_neg z]
      · rfl
set_option tactic.hygienic false in
theorem attrs_put {n : String} {hsh : Int} {t : Tok} {a : AV} {v : Value} (hv : VR a v) : ∀ {es : List (String × AV)} {ents : List DictEntry}, attrsAre es ents → attrsAre (putR n a es) (putL (Str.ofString n) hsh (.str (Str.ofString n) t) v ents)
  | [], [], _ => ⟨⟨t, rfl⟩, hv, trivial⟩
  | (k, b) :: r, e :: q, h => by
    obtain ⟨⟨t', hk⟩, hb, hr⟩ := h
    have ih := attrs_put (n := n) (hsh := hsh) (t := t) hv hr
    unfold putR putL
    by_cases z : k = n
    · have h1 : e.key.isStr (Str.ofString n) = true := by rw [hk, z]; simp [Value.isStr]
      rw [h1, if_pos rfl, if_pos z]
      exact ⟨⟨t', hk⟩, hv, hr⟩
    · have h1 : e.key.isStr (Str.ofString n) = false := by
        rw [hk]
        show (Str.ofString k == Str.ofString n) = false
        rw [beq_eq_false_iff_ne]
        exact fun w => z (ofString_inj w)
      rw [h1, if_neg Bool.false_ne_true, if_neg z]
      exact ⟨⟨t', hk⟩, hb, ih⟩
  | [], _ :: _, h => h.elim
  | _ :: _, [], h => h.elim
theorem attrs_len : ∀ {es : List (String × AV)} {ents : List DictEntry}, attrsAre es ents → ents.length = es.length
  | [], [], _ => rfl
  | _ :: _, _ :: _, h => congrArg Nat.succ (attrs_len h.2.2)
  | [], _ :: _, h => h.elim
  | _ :: _, [], h => h.elim
set_option tactic.hygienic false in
theorem putL_len {n : Str} {hsh : Int} {k v : Value} : ∀ {ents : List DictEntry}, (putL n hsh k v ents).length ≤ ents.length + 1
  | [] => Nat.le_refl _
  | e :: r => by
    unfold putL
    split
    · exact Nat.le_succ _
    · exact Nat.succ_le_succ putL_len

theorem put_nodup {es : List (String × AV)} {n : String} {a : AV} (nd : (es.map (·.1)).Nodup) : ((putA es n a).map (·.1)).Nodup := by
  unfold putA
  split
  · rw [List.map_map, show ((fun x : String × AV => x.1) ∘ fun e => if e.1 = n then (e.1, a) else e) = (·.1) from by funext e; simp only [Function.comp]; split <;> rfl]
    exact nd
  · rename_i h
    rw [List.map_append, List.nodup_append]
    refine ⟨nd, by simp, fun x hx y hy => ?_⟩
    simp only [List.map_cons, List.map_nil, List.mem_singleton] at hy
    subst hy
    rintro rfl
    apply h
    obtain ⟨e, he, rfl⟩ := List.mem_map.mp hx
    unfold lookA
    rw [Option.isSome_map, List.find?_isSome]
    exact ⟨e, he, by simp⟩

set_option tactic.hygienic false in
theorem s_setattr {A : Around} {R : RR} {H : AHeap} {s s₀ : Shared} {E : Value → Shared → Prop} {p : Addr} {n cl : String} {es : List (String × AV)} {x : AV} {u : Value} {Q : Unit → Shared → Prop} (C : g.c.Ok mg mb) (PO : PgOk g.c) (hv : VR x u) (e : H p = some (.inst cl es)) (hat : g.c.P.attrs.contains (cl, n) = true) (hz : es.length ≤ 100)
    (S : St g.c R H s.heap) (m : Sm s₀ s) (q : ∀ s', St g.c R (up H p (.inst cl (putA es n x))) s'.heap → Sm s₀ s' → Q () s') : wpAny (model g.c.prog g.c.w) A (setAttr (.ref p) (Str.ofString n) u) Q E s := by
  obtain ⟨c1, c2, c3, c4, c5, c6⟩ := PO.attr cl n hat
  obtain ⟨d, ents, k, x1, x2, x3, x4, x5⟩ := S.setAttr e
  have X := C.kin.keeps S.stays
  have I : InstAt s.heap p (instObj (g.c.ca cl) d) (g.c.ca cl) (some (dictOf ents k)) := ⟨x1, rfl, rfl, x2⟩
  obtain ⟨f1, f2⟩ := attrs_find (n := n) x3
  have hlen := attrs_len x3
  obtain ⟨cd, hc, hd'⟩ := any_some c2
  refine set_plain X I c4 ?_
  refine osa_open X (⟨x1, rfl, rfl, x2⟩ : InstAt s.heap p (instObj (g.c.ca cl) d) (g.c.ca cl) (some (dictOf ents k))) c5 c6 fun b => ?_
  refine wpAny_bind (wpAny_pure (wpAny_bind (wpAny_bind (wpAny_loadPart x1 (wpAny_bind (Looks.here (s := { s with toks := s.toks + 1 }) (looks_clsIn X hc) ?_))))))
  rw [hd']
  refine wpAny_pure (a := some d) (wpAny_bind (wpAny_pure (wpAny_bind ?_)))
  unfold nsSet
  refine wpAny_bind (wpAny_bind (wpAny_askSetting (wpAny_pure (wpAny_bind (wpAny_mkText (wpAny_bind (wpAny_loadPart x2 ?_)))))))
  dsimp only
  have hc' : (!ents.toArray.any (·.key.isStr (Str.ofString n)) && ents.toArray.any (·.refKey)) = false := by
    have h1 : ents.toArray.any (·.refKey) = ents.any (·.refKey) := by rw [← Array.any_toList]
    rw [h1, f2, Bool.and_false]
  rw [aRefKeyMayBeTheName_at, hc']
  refine wpAny_updatePart x2 ?_
  have hg : ∀ (tk : Tok), (s.heap.update d (Obj.putName (Str.ofString n) (PyData.keyHash g.c.w.params (Str.ofString n)) (.str (Str.ofString n) tk) u)).get? d = some (dictOf (putL (Str.ofString n) (PyData.keyHash g.c.w.params (Str.ofString n)) (.str (Str.ofString n) tk) u ents) (putN (Str.ofString n) ents k)) := fun tk => by
    refine (Heap.get?_update_self _ x2 ?_).trans ?_
    · rw [putName_dict]; rfl
    · rw [putName_dict]
  refine wpAny_bind (wpAny_lookBehind (hg _) (pastItsLine_dict (by rw [List.size_toArray, sizeLine_eq]; have := putL_len (n := Str.ofString n) (hsh := PyData.keyHash g.c.w.params (Str.ofString n)) (k := .str (Str.ofString n) (s.toks + 1)) (v := u) (ents := ents); omega)) ?_)
  refine wpAny_pure (q _ (x5 _ _ _ _ (Heap.SameBut.update ..) (hg _) ?_ (put_nodup x4)) (m.step _ _))
  rw [putA_R x4]
  exact attrs_put hv x3

theorem s_asgn_attr {a : X} {n : String} {e : X} {o v : PySem.Expr} {p pos : Pos} (C : g.c.Ok mg mb) (PO : PgOk g.c) (ha : XMd g sc nm a o) (hx : XMd g sc nm e v) : SOk g sc nm (fun g => wpS g (.assign (.attr a n) e)) (exec (.Assign [.Attribute o (Str.ofString n) p] v pos)) :=
  fun md A env l₀ R V s₀ s H QN QR E ev fr S m q => by
  dsimp only [w_ite, w_ret, w_asg, s_expr', s_raise', s_for', s_while', s_try', s_pass', tv, tsub, tattr, ttup] at q
  refine plainObj_wpAny_Assign_Attribute (wpAny_mono ((hx md A R V env env l₀ s₀ ev fr).1 H s _ _ S m q) (fun u s₁ z => ?_) fun _ _ z => te_tx fr z) swaps_attr
  obtain ⟨av, H₁, hv, S₁, m₁, q₁⟩ := z
  refine wpAny_mono ((ha md A R V env env l₀ s₀ ev fr).1 H₁ s₁ _ _ S₁ m₁ q₁) (fun ov s₂ z => ?_) fun _ _ z => te_tx fr z
  obtain ⟨ao, H₂, ho, S₂, m₂, q₂⟩ := z
  split at q₂
  · cases ho
    split at q₂
    · rename_i cl es e
      exact s_setattr (g := { g with md := md }) C PO hv e q₂.1 q₂.2.1 S₂ m₂ fun s' S' m' => ⟨R, V, _, .refl, fr, S', m', q₂.2.2⟩
    · exact q₂.elim
  · exact q₂.elim

set_option tactic.hygienic false in
theorem s_raise {cl : String} {msg : Str} {fe : PySem.Expr} {k : Nat} {mp cp pos : Pos} (C : g.c.Ok mg mb) (PO : PgOk g.c) (hn : nameIs sc cl fe = true) (hx : (g.c.P.excs.lookup cl).isSome = true) : SOk g sc nm (fun g => wpS g (.raise cl msg)) (exec (.Raise (some (.Call fe [.Constant (.str msg) k mp] [] cp)) none pos)) :=
  fun md A env l₀ R V s₀ s H QN QR E ev fr S m q => by
  dsimp only [w_ite, w_ret, w_asg, s_expr', s_raise', s_for', s_while', s_try', s_pass'] at q
  obtain ⟨hmd, q⟩ := q
  subst hmd
  obtain ⟨r1, r2, _⟩ := PO.excR cl hx
  obtain ⟨pp, loose, T⟩ := C.top
  obtain ⟨tl, N, nmm, qn, bs, hdct, sn, sub, ab, col, dd, k0, k1, k2, k3, k5, mN, hC, hN, hni, TL⟩ := ((own_of_in C.kin T r1 r2).keeps S.stays).obj
  have FB := PySem.F.excBase_ValueError
  obtain ⟨id, p, rfl⟩ := nameIs_name hn
  refine wpAny_Raise_call_subT (C := g.c.ca cl) (nm := nmm) (q := qn) (N := N) (bs := bs) (bm := tl) (hdct := hdct) (sn := sn) (sub := sub) (ab := ab) (col := col) (dd := dd) (k0 := k0) (k1 := k1) (k2 := k2) (k3 := k3) (k5 := k5)
    FB (mN := mN) (TL.hasType FB.hasBase) (ev.aok.hand rfl) rfl hni (glob_K C fr S hn r1 ⟨rfl, ?_⟩)
  refine evalArgs_plain (spliced_cons (wpAny_Constant_str (k := k) (pos := mp) (spliced_nil ⟨rfl, by show 1 ≤ sizeLine; decide, hC, hN, TL, fun h' e hm => ?_⟩)))
  obtain ⟨t, ht, _⟩ := hm.there
  obtain ⟨mm, hmm, _⟩ := fr.ns
  obtain ⟨H₁, S, rl⟩ := S
  have S' : St1 g.c R H₁ h' := by
    refine S.noted (ls := []) (fun a ha => by cases ha) (fun b o z _ => hm.keeps b o z) (fun b o z _ => ⟨o.slots, hm.keeps b o z⟩) ?_
    obtain ⟨oL, es, ep, w, _⟩ := (S.res _ _ hmm).2
    have h1 := leN (S.res _ _ hmm).1
    have h2 := lts (hm.keeps _ _ w)
    exact Nat.le_of_lt (Nat.lt_of_le_of_lt h1 h2)
  refine ⟨e, cl, R, V, H, .ellipsis, rfl, .refl, fr, .inl rfl, ⟨H₁, ⟨S', ?_, ?_, ?_, .fresh ht, hx⟩, rl⟩, m.step _ _, q⟩
  · cases z : R e with
    | none => rfl
    | some r => obtain ⟨ob, w⟩ := (S.res _ _ z).2.there; have := hm.new; rw [show s.heap.get? e = some ob from w] at this; cases this
  · cases z : H₁ e with
    | none => rfl
    | some r => obtain ⟨D, s4⟩ := S.rep; obtain ⟨ob, w⟩ := (s4.rep _ _ z).there; have := hm.new; rw [show s.heap.get? e = some ob from w] at this; cases this
  · cases z : g.c.base.get? e with
    | none => rfl
    | some r => have w := S.stays _ _ z; have := hm.new; rw [show s.heap.get? e = some r from w] at this; cases this

theorem exc_match {M : Model} {A : Around} {E : Value → Shared → Prop} {s : Shared} {K : Frag} {e C D : Addr} {oe : Obj} {r : Bool} {Q : Bool → Shared → Prop} (X : K.In s.heap) (he : s.heap.get? e = some oe) (hc : oe.cls = .ref C)
    (h1 : instIn K (.ref D) (.type "tuple") = some false) (h2 : subIn K (.ref D) (.type "BaseException") = some true) (h3 : (clsIn K D).isSome = true) (h4 : subIn K (.ref C) (.ref D) = some r) (q : Q r s) :
    wpAny M A (excMatches (.ref e) (.ref D)) Q E s := by
  obtain ⟨hh, gg, d, tt, os⟩ := s
  have L1 := looks_instIn (M := M) X h1
  have L2 := looks_subIn (M := M) X h2
  have L4 := looks_subIn (M := M) X h4
  have LT : Looks M hh (typeOf (.ref e)) (.ref C) := by rw [← hc]; exact (Looks.ld he).andThen .now
  obtain ⟨cd, h3⟩ := Option.isSome_iff_exists.mp h3
  unfold excMatches
  refine wpAny_bind (L1.at ?_)
  dsimp only [Bool.false_eq_true, if_false]
  refine wpAny_bind (wpAny_pure (wpAny_bind ?_))
  have L5 : Looks M hh (isExcClass (.ref D)) true := by
    unfold clsIn at h3
    split at h3
    · rename_i ho
      have Lt : Looks M hh (isType (.ref D)) true := (Looks.ld (part := none) (X _ _ ho)).andThen .now
      intro A' Q' E' s' k' q'
      unfold isExcClass
      refine wpAny_bind (Lt A' _ E' s' k' ?_)
      rw [if_pos rfl]
      exact L2 A' _ E' s' k' q'
    · cases h3
  rw [List.forIn_cons]
  refine wpAny_bind (wpAny_bind (L5.at ?_))
  simp only [Bool.not_true, Bool.false_eq_true, if_false]
  refine wpAny_pure ?_
  dsimp only
  rw [List.forIn_nil]
  refine wpAny_pure (wpAny_bind (LT.at (wpAny_bind ?_)))
  rw [List.forIn_cons]
  refine wpAny_bind (wpAny_bind (L4.at ?_))
  cases r with
  | true =>
    dsimp only [if_true]
    exact wpAny_pure (wpAny_pure (wpAny_pure q))
  | false =>
    dsimp only [Bool.false_eq_true, if_false]
    refine wpAny_pure ?_
    dsimp only
    rw [List.forIn_nil]
    exact wpAny_pure (wpAny_pure q)

end
end Mine

end
section
open PySem PySem.W PyProof.Rows PySem.Spec PySem.SeqAt PySem.Calls
namespace Mine

section
variable {g : Gx} {sc : Scope} {nm : List Str} {mg mb : Str → Option Value}

noncomputable def HdOk (g : Gx) (sc : Scope) (nm : List Str) : Hd → ExceptHandler → Prop
  | .mk cl nmi b, .ExceptHandler (some t) name (x :: body) _ => nameIs sc cl t = true ∧ (g.c.P.excs.lookup cl).isSome = true ∧ SOk g sc nm (fun g => wpSs g b) (execs (x :: body)) ∧ (match nmi, name with
      | none, none => True
      | some i, some n => nm[i]? = some n ∧ sc.names.lookup n = some .local
      | _, _ => False)
  | _, _ => False
inductive EachH (P : Hd → ExceptHandler → Prop) : List Hd → List ExceptHandler → Prop
  | nil : EachH P [] []
  | cons {x e xs es} : P x e → EachH P xs es → EachH P (x :: xs) (e :: es)

set_option tactic.hygienic false in
theorem ev_mark {A : Around} {R : RR} {env : Env} {l₀ : List Env} {e : Value} (ev : Ev { g with md := true } A R env l₀) : Ev { g with md := false } (A.mark (some e)) R env l₀ :=
  ⟨⟨ev.aok.frames, ev.aok.depth, ev.aok.units, fun h => by cases h⟩, ev.stk⟩

set_option tactic.hygienic false in
theorem tx_false {env : Env} {R : RR} {s₀ s : Shared} {e : Value} (h : TX g env sc nm R s₀ (fun _ _ _ => False) e s) {P : Prop} : P := by
  obtain ⟨_, _, _, _, _, _, _, _, _, _, _, _, q⟩ := h
  exact q.elim

theorem name_goes {M : Model} {A : Around} {E : Value → Shared → Prop} {s : Shared} {R : RR} {H : AHeap} {env : Env} {n : Str} {pos : Pos} {m : Str → Option Value} {Q : Unit → Shared → Prop} (hl : env.kindOf n = some .local) (hk : env.scope.kind = .function) (hm : R env.locals = some (.ns m)) (S : St g.c R H s.heap)
    (q : ∀ s' v, St g.c (rup R env.locals (.ns fun x => if x = n then v else m x)) H s'.heap → Sm s s' → Q () s') : wpAny M A (do bindName env n .none; unbindBehindTheSuite env n pos) Q E s :=
  wpAny_nameGoes_keeps hl (S.res _ _ hm).2 (by rw [hk]; rfl) fun h' v hn hs => q _ v (S.setRes (r' := .ns _) hm hs hn) ⟨_, _, rfl⟩

set_option tactic.hygienic false in
theorem locals_step {env : Env} {R : RR} {m m' : Str → Option Value} (hm : R env.locals = some (.ns m)) : RStep env R (rup R env.locals (.ns m')) := fun b => by
  by_cases z : b = env.locals
  · subst z; exact .inr (.inl ⟨rfl, _, _, hm, rup_same⟩)
  · exact .inl (rup_other z)

set_option tactic.hygienic false in
theorem hs_ok (C : g.c.Ok mg mb) (PO : PgOk g.c) (nd : nm.Nodup) : ∀ {hs : List Hd} {es : List ExceptHandler}, EachH (HdOk g sc nm) hs es → ∀ (A : Around) (env : Env) (l₀ : List Env) (R : RR) (V : VV) (s₀ s : Shared) (H : AHeap) (e : Addr) (cl : String) (QN : VV → AHeap → Prop) (QR : AV → AHeap → Prop) (E : String → VV → AHeap → Prop),
    Ev { g with md := true } A R env l₀ → Frm R env sc nm V → ExcSt g.c R H e cl .none s.heap → Sm s₀ s → wpHs { g with md := true } hs cl QN QR E V H →
    wpAny (model g.c.prog g.c.w) A (handleBy (.ref e) env es) (TF g env sc nm R s₀ QN QR) (TX g env sc nm R s₀ E) s
  | _, _, .nil => fun A env l₀ R V s₀ s H e cl QN QR E ev fr X m q => q.elim
  | _, _, .cons (x := .mk c nmi b) (e := .ExceptHandler ty name body pos) h r => fun A env l₀ R V s₀ s H e cl QN QR E ev fr X m q => by
    rw [hs_cons', h_mk'] at q
    cases ty with
    | none => exact h.elim
    | some t =>
    cases body with
    | nil => exact h.elim
    | cons b₀ body =>
    obtain ⟨h1, h2, h3, h4⟩ := h
    obtain ⟨r1, r2, r3, r4, r5, _⟩ := PO.excR c h2
    obtain ⟨o, vs, o1, o2, o3⟩ := X.obj
    refine wpAny_handleBy_cons (codeAny_handlers_test (glob_K C fr X.st h1 r1 ?_)) (by intro z; cases z)
    refine exc_match (C.kin.keeps X.st.stays) o1 o2 r3 r4 r5 (PO.excC cl c X.kn h2) ?_
    cases hsub : excSub g.c.P cl c with
    | false =>
      simp only [hsub, Bool.false_eq_true, if_false] at q ⊢
      exact hs_ok C PO nd r A env l₀ R V s₀ s H e cl QN QR E ev fr X m q
    | true =>
      simp only [hsub, if_true] at q ⊢
      cases nmi with
      | none =>
        cases name with
        | some => exact h4.elim
        | none =>
        refine codeAny_handlers_suite (exc_flight X (by simp) fun h' X' => ?_)
        refine wpAny_mono (h3 false (A.mark (some (.ref e))) env l₀ R V s₀ { s with heap := h' } H QN QR (fun _ _ _ => False) (ev_mark ev) fr X'.st (m.heap h') q) (fun f s' z => z) fun _ _ z => tx_false z
      | some i =>
        cases name with
        | none => exact h4.elim
        | some n =>
        obtain ⟨h5, h6⟩ := h4
        obtain ⟨hlt, q⟩ := q e X.he
        refine codeAny_handlers_suite_as (exc_flight X (by simp) fun h' X' => ?_)
        refine st_name fr nd h5 (by unfold locKind; rw [h6]) (.ref e) X'.caught fun s₂ R₂ r₂ f₂ S₂ m₂ => ?_
        refine wpAny_mono (h3 false (A.mark (some (.ref e))) env l₀ R₂ _ s₀ s₂ _ _ QR (fun _ _ _ => False) (ev_mark (ev.step r₂)) f₂ S₂ ((m.heap h').trans m₂) q) (fun f s₃ z => ?_) fun _ _ z => tx_false z
        have hl := fr.lco n h6
        cases f with
        | next =>
          obtain ⟨R₃, V₃, H₃, r₃, f₃, S₃, m₃, q₃⟩ := z
          obtain ⟨mm, hmm, _⟩ := f₃.ns
          exact name_goes hl fr.kind hmm S₃ fun s₄ v S₄ m₄ => ⟨_, _, H₃, (r₂.trans r₃).trans (locals_step hmm), f₃.local' nd h5 hl hmm .none, S₄, m₃.trans m₄, q₃⟩
        | ret v =>
          obtain ⟨R₃, av, H₃, r₃, hv, S₃, m₃, q₃⟩ := z
          obtain ⟨mm, hmm, _⟩ := f₂.ns
          obtain ⟨mm', hmm'⟩ := r₃.ns hmm
          exact name_goes hl fr.kind hmm' S₃ fun s₄ w S₄ m₄ => ⟨_, av, H₃, (r₂.trans r₃).trans (locals_step hmm'), hv, S₄, m₃.trans m₄, q₃⟩
        | brk => exact z.elim
        | cont => exact z.elim

set_option tactic.hygienic false in
theorem s_try {b : List S} {hs : List Hd} {x : List Stmt} {h₀ : ExceptHandler} {es : List ExceptHandler} {pos : Pos} (C : g.c.Ok mg mb) (PO : PgOk g.c) (nd : nm.Nodup) (hb : SOk g sc nm (fun g => wpSs g b) (execs x)) (hh : EachH (HdOk g sc nm) hs (h₀ :: es)) :
    SOk g sc nm (fun g => wpS g (.try b hs)) (exec (.Try x (h₀ :: es) [] [] pos)) := fun md A env l₀ R V s₀ s H QN QR E ev fr S m q => by
  dsimp only [w_ite, w_ret, w_asg, s_expr', s_raise', s_for', s_while', s_try', s_pass'] at q
  obtain ⟨hmd, q⟩ := q
  subst hmd
  refine wpAny_Try_except (wpAny_mono (hb true A env l₀ R V s₀ s H _ QR _ ev fr S m q) (fun f s₁ z => ?_) fun e s₁ z => ?_)
  · cases f with
    | next => exact wpAny_execs_nil z
    | ret v => exact z
    | brk => exact z
    | cont => exact z
  · obtain ⟨a, cl, R', V', H', fl, rfl, r, f', hfl, X, m', q'⟩ := z
    refine exc_note ev.aok.frames (r.stk ev.stk) X hfl fun h₁ X₁ => ?_
    refine exc_flight (s := { s₁ with heap := h₁ }) X₁ (by simp [rawInt]) fun h₂ X₂ => ?_
    exact wpAny_mono (hs_ok C PO nd hh A env l₀ R' V' s₀ { s₁ with heap := h₂ } H' a cl QN QR E (ev.step r) f' X₂ (m'.heap h₂) q') (fun _ _ z => z.trans r) fun _ _ z => z.trans r

set_option tactic.hygienic false in
theorem isComp_of {e : X} (h : isComp e = true) : ∃ x k tup it c, e = .comp x k tup it c := by
  cases e <;> first | exact ⟨_, _, _, _, _, rfl⟩ | cases h

theorem str1_of {msg : Str} {es : List PySem.Expr} (h : mStr1 msg es = true) : ∃ k p, es = [.Constant (.str msg) k p] := by
  unfold mStr1 at h
  split at h
  · unfold mLit at h
    split at h
    · rename_i cc k p
      cases cc with
      | str m =>
        have h1 : (msg == m && PyData.strOk msg) = true := h
        rw [Bool.and_eq_true, beq_iff_eq] at h1
        exact ⟨k, p, by rw [h1.1]⟩
      | _ => cases h
    · cases h
  · cases h

variable (C : g.c.Ok mg mb) (PO : PgOk g.c) (nd : nm.Nodup)
include C PO nd in
mutual
theorem sS : ∀ (st : S) (t : Stmt), mtS g.c.P sc nm st t = true → SOk g sc nm (fun g => wpS g st) (exec t)
  | .assign t e, st, h => by
    rw [mtS_e1] at h
    split at h
    · rename_i tg v pos
      simp only [Bool.and_eq_true] at h
      obtain ⟨⟨⟨h1, h0⟩, h2⟩, h3⟩ := h
      have hx : XMd g sc nm e v := fun md => sX (g := { g with md := md }) C PO e v true sc nm h3
      cases t with
      | var i =>
        have ht : tgtOk sc nm i tg = true := h2
        cases hc : notComp v with
        | true => exact s_asgn_var nd hc ht hx
        | false =>
          rw [hc, Bool.false_or, Bool.and_eq_true] at h1
          obtain ⟨x, k, tup, it, cc, rfl⟩ := isComp_of h1.2
          have h3' : mComp true tup k sc nm (mtX g.c.P true sc nm it) (fun csc nm' => mtX g.c.P false csc nm' x) (fun csc nm' => mtC g.c.P csc nm' cc) v = true := h3
          unfold mComp at h3'
          simp only [Bool.true_and] at h3'
          split at h3'
          · split at h3'
            · rename_i htg
              simp only [Bool.and_eq_true, beq_iff_eq] at h3'
              obtain ⟨⟨⟨⟨⟨⟨⟨rfl, rfl⟩, rfl⟩, h5⟩, h6⟩, h7⟩, h8⟩, h9⟩ := h3'
              exact s_asgn_comp C htg nd ht h7 h5 (fun md => sX (g := { g with md := md }) C PO it _ true sc nm h6) (fun md => sX (g := { g with md := md }) C PO x _ false _ _ h8) (fun md => sC (g := { g with md := md }) C PO cc _ _ _ h9) hx
            · cases h3'
          · cases h3'
      | sub a i =>
        rw [mtT_e2] at h2
        split at h2
        · simp only [Bool.and_eq_true] at h2
          exact s_asgn_sub h2.1.1 (fun md => sX (g := { g with md := md }) C PO a _ true sc nm h2.1.2) (fun md => sX (g := { g with md := md }) C PO i _ true sc nm h2.2) hx
        · cases h2
      | tup is => exact Bool.noConfusion (show false = true from h2)
      | attr a n =>
        rw [mtT_e3] at h2
        split at h2
        · simp only [Bool.and_eq_true, beq_iff_eq] at h2
          obtain ⟨rfl, h2⟩ := h2
          exact s_asgn_attr C PO (fun md => sX (g := { g with md := md }) C PO a _ true sc nm h2) hx
        · cases h2
    · cases h
  | .expr e, st, h => by
    rw [mtS_e2] at h
    split at h
    · simp only [Bool.and_eq_true] at h
      exact s_expr h.1 fun md => sX (g := { g with md := md }) C PO e _ true sc nm h.2
    · cases h
  | .ret e, st, h => by
    rw [mtS_e3] at h
    split at h
    · exact s_ret fun md => sX (g := { g with md := md }) C PO e _ true sc nm h
    · cases h
  | .ite c a b, st, h => by
    rw [mtS_e4] at h
    split at h
    · simp only [Bool.and_eq_true] at h
      exact s_if (fun md => sX (g := { g with md := md }) C PO c _ true sc nm h.1.1) (sSs a _ h.1.2) (sSs b _ h.2)
    · cases h
  | .while c b, st, h => by exact Bool.noConfusion (show false = true from h)
  | .for t it b, st, h => by
    rw [mtS_e6] at h
    split at h
    · simp only [Bool.and_eq_true] at h
      exact s_for C nd h.1.1.1 h.1.1.2 (fun md => sX (g := { g with md := md }) C PO it _ true sc nm h.1.2) (sSs b _ h.2)
    · cases h
  | .raise cl msg, st, h => by
    rw [mtS_e7] at h
    split at h
    · unfold mCall at h
      split at h
      · simp only [Bool.and_eq_true] at h
        obtain ⟨k, mp, rfl⟩ := str1_of h.2
        exact s_raise C PO h.1.1 h.1.2
      · cases h
    · cases h
  | .try b hs, st, h => by
    rw [mtS_e8] at h
    split at h
    · simp only [Bool.and_eq_true] at h
      exact s_try C PO nd (sSs b _ h.1) (sHs hs _ h.2)
    · cases h
  | .pass, st, h => by
    rw [mtS_e9] at h
    split at h
    · exact s_pass
    · cases h
theorem sSs : ∀ (l : List S) (ts : List Stmt), mtSs g.c.P sc nm l ts = true → SOk g sc nm (fun g => wpSs g l) (execs ts)
  | [], ts, h => by
    rw [mtSs_e1] at h; simp only [List.isEmpty_iff] at h
    subst h; exact ss_nil
  | st :: r, ts, h => by
    rw [mtSs_e2] at h
    split at h
    · simp only [Bool.and_eq_true] at h
      exact ss_cons (sS st _ h.1) (sSs r _ h.2)
    · cases h
theorem sHs : ∀ (l : List Hd) (ts : List ExceptHandler), mtHs g.c.P sc nm l ts = true → EachH (HdOk g sc nm) l ts
  | [], ts, h => by
    rw [mtHs_e1] at h; simp only [List.isEmpty_iff] at h
    subst h; exact .nil
  | hd :: r, ts, h => by
    rw [mtHs_e2] at h
    split at h
    · simp only [Bool.and_eq_true] at h
      exact .cons (sH hd _ h.1) (sHs r _ h.2)
    · cases h
theorem sH : ∀ (hd : Hd) (t : ExceptHandler), mtH g.c.P sc nm hd t = true → HdOk g sc nm hd t
  | .mk cl nmi b, t, h => by
    rw [mtH_e1] at h
    split at h
    · simp only [Bool.and_eq_true] at h
      obtain ⟨⟨⟨h1, h2⟩, h3⟩, h4⟩ := h
      refine ⟨h1, h2, sSs b _ h3, ?_⟩
      split at h4 <;> simp_all
    · cases h
end
end
end Mine

end
section
open PySem PySem.W PyProof.Rows PySem.Spec PySem.SeqAt PySem.Calls
namespace Mine

set_option tactic.hygienic false in
theorem zip_lookup {ns : List Str} : ∀ {vs : List Value}, ns.length = vs.length → ∀ n ∈ ns, ((ns.zip vs).lookup n).isSome = true := by
  induction ns with
  | nil => intro vs _ n hn; cases hn
  | cons a r ih =>
    intro vs hl n hn
    cases vs with
    | nil => simp at hl
    | cons v vs =>
      simp only [List.zip_cons_cons, List.lookup_cons]
      cases hb : n == a with
      | true => rfl
      | false =>
        have hne : n ≠ a := by simpa using hb
        rcases List.mem_cons.mp hn with h | h
        · exact absurd h hne
        · exact ih (by simpa using hl) n h
set_option tactic.hygienic false in
theorem fm_congr {α β : Type} {f g : α → Option β} : ∀ {l : List α}, (∀ x ∈ l, f x = g x) → l.filterMap f = l.filterMap g
  | [], _ => rfl
  | a :: r, h => by rw [List.filterMap_cons, List.filterMap_cons, h a (.head _), fm_congr fun x hx => h x (.tail _ hx)]
set_option tactic.hygienic false in
theorem zip_filterMap {ns : List Str} : ∀ {vs : List Value}, ns.Nodup → ns.length = vs.length → (ns.filterMap fun n => ((ns.zip vs).lookup n).map fun v => (n, v)) = ns.zip vs := by
  induction ns with
  | nil => intro vs _ _; rfl
  | cons a r ih =>
    intro vs hn hl
    cases vs with
    | nil => simp at hl
    | cons v vs =>
      obtain ⟨h1, h2⟩ := List.nodup_cons.mp hn
      simp only [List.zip_cons_cons, List.filterMap_cons, List.lookup_cons, beq_self_eq_true, Option.map_some]
      congr 1
      refine Eq.trans ?_ (ih h2 (by simpa using hl))
      apply fm_congr
      intro n hn'
      have hne : (n == a) = false := by
        apply beq_eq_false_iff_ne.mpr
        rintro rfl; exact h1 hn'
      simp only [hne]

set_option tactic.hygienic false in
theorem bind_plain {s : Shared} {fd : FuncData} {vals : List Value} (h1 : fd.params.posonlyargs = []) (h2 : fd.params.vararg = none) (h3 : fd.params.kwonlyargs = []) (h4 : fd.params.kwarg = none) (h5 : fd.defaults = .none)
    (h6 : (fd.params.args.map (·.arg)).Nodup) (h7 : fd.params.args.length = vals.length) : BindsTo s fd ⟨vals, []⟩ ((fd.params.args.map (·.arg)).zip vals) := by
  have hl : (fd.params.args.map (·.arg)).length = vals.length := by simpa using h7
  have e1 : (((fd.params.args.map (·.arg)).take (fd.params.args.map (·.arg)).length).filter fun n => (((fd.params.args.map (·.arg)).zip vals).lookup n).isNone) = [] := by
    rw [List.take_length, List.filter_eq_nil_iff]
    intro n hn
    have := zip_lookup hl n hn
    simpa using this
  intro M A E Q q
  unfold bindArgs
  simp only [h1, h2, h3, h4, h5, List.map_nil, List.nil_append, List.append_nil]
  refine wpAny_bind ?_
  rw [List.forIn_nil]
  refine wpAny_pure (wpAny_bind (wpAny_pure (a := (none : Option (Array Value))) ?_))
  simp only [Option.getD_none, List.drop_nil, List.length_nil, Nat.sub_zero, List.drop_length]
  rw [if_neg (by simp [h7]), if_neg (by rw [e1]; simp)]
  refine wpAny_bind ?_
  rw [List.zip_nil_left, List.forIn_nil]
  refine wpAny_pure (wpAny_bind ?_)
  rw [List.forIn_nil]
  refine wpAny_pure ?_
  rw [if_neg (by simp)]
  refine wpAny_pure ?_
  rw [zip_filterMap h6 hl]
  exact q

set_option tactic.hygienic false in
theorem St1.news {c : Cx} {R R' : RR} {H : AHeap} {h h' : Heap} (S : St1 c R H h) (k : ∀ b ob, h.get? b = some ob → h'.get? b = some ob) (hs : h.objs.size ≤ h'.objs.size)
    (hR : ∀ b, R' b = R b ∨ (h.objs.size ≤ b ∧ ∃ r, R' b = some r ∧ ResAt h' b r)) : St1 c R' H h' := by
  have S' := S.keeps k hs
  obtain ⟨D0, s40⟩ := S.rep
  have hb := S.size
  refine ⟨S'.stays, S'.size, fun b r e => ?_, D0, ⟨fun a ao e => (s40.rep a ao e).agree (fun _ => k _ _) fun _ _ _ => ⟨rfl, fun _ => k _ _⟩, fun a ao e => ?_, fun a cl es e => ?_, s40.inj⟩⟩
  · rcases hR b with q | ⟨q1, r', q2, q3⟩
    · rw [q] at e; exact S'.res b r e
    · rw [q2] at e; cases e; exact ⟨by have := leN q1; omega, q3⟩
  · refine ⟨(s40.above a ao e).1, ?_⟩
    rcases hR a with q | ⟨q1, _⟩
    · rw [q]; exact (s40.above a ao e).2
    · obtain ⟨ob, w⟩ := (s40.rep a ao e).there
      have := lts w; have := leN q1; omega
  · obtain ⟨y1, y2, y3⟩ := s40.dict a cl es e
    refine ⟨y1, ?_, y3⟩
    rcases hR (D0 a) with q | ⟨q1, _⟩
    · rw [q]; exact y2
    · obtain ⟨_, ents, n, w, _⟩ := s40.rep a _ e
      have := lts w; have := leN q1; omega

theorem St.news {c : Cx} {R R' : RR} {H : AHeap} {h h' : Heap} (S : St c R H h) (k : ∀ b ob, h.get? b = some ob → h'.get? b = some ob) (hs : h.objs.size ≤ h'.objs.size)
    (hR : ∀ b, R' b = R b ∨ (h.objs.size ≤ b ∧ ∃ r, R' b = some r ∧ ResAt h' b r)) : St c R' H h' := let ⟨H₁, s, r⟩ := S; ⟨H₁, s.news k hs hR, r⟩

set_option tactic.hygienic false in
theorem bindL_out {kf : Str → Option NameKind} : ∀ {bs : List (Str × Value)} {m : Str → Option Value} {n : Str}, n ∉ bs.map (·.1) → bindL kf bs m n = m n
  | [], _, _, _ => rfl
  | (a, v) :: r, m, n, h => by
    simp only [List.map_cons, List.mem_cons, not_or] at h
    unfold bindL
    rw [bindL_out h.2]
    split
    · simp [h.1]
    · rfl
set_option tactic.hygienic false in
theorem bindC_out {kf : Str → Option NameKind} : ∀ {bs : List (Str × Value)} {m : Str → Option Value} {n : Str}, n ∉ bs.map (·.1) → bindC kf bs m n = m n
  | [], _, _, _ => rfl
  | (a, v) :: r, m, n, h => by
    simp only [List.map_cons, List.mem_cons, not_or] at h
    unfold bindC
    rw [bindC_out h.2]
    split
    · rfl
    · simp [h.1]
set_option tactic.hygienic false in
theorem bindL_get {kf : Str → Option NameKind} : ∀ {bs : List (Str × Value)} {m : Str → Option Value} {n : Str} {v : Value} {i : Nat}, (bs.map (·.1)).Nodup → bs[i]? = some (n, v) → kf n = some .local → bindL kf bs m n = some v
  | (a, w) :: r, m, n, v, 0, hn, e, hk => by
    simp only [List.getElem?_cons_zero, Option.some.injEq, Prod.mk.injEq] at e
    obtain ⟨rfl, rfl⟩ := e
    simp only [List.map_cons, List.nodup_cons] at hn
    unfold bindL
    rw [bindL_out hn.1, if_pos hk]; simp
  | (a, w) :: r, m, n, v, i + 1, hn, e, hk => by
    simp only [List.getElem?_cons_succ] at e
    simp only [List.map_cons, List.nodup_cons] at hn
    unfold bindL
    exact bindL_get hn.2 e hk
set_option tactic.hygienic false in
theorem bindC_get {kf : Str → Option NameKind} : ∀ {bs : List (Str × Value)} {m : Str → Option Value} {n : Str} {v : Value} {i : Nat}, (bs.map (·.1)).Nodup → bs[i]? = some (n, v) → kf n = some .cell → bindC kf bs m n = some v
  | (a, w) :: r, m, n, v, 0, hn, e, hk => by
    simp only [List.getElem?_cons_zero, Option.some.injEq, Prod.mk.injEq] at e
    obtain ⟨rfl, rfl⟩ := e
    simp only [List.map_cons, List.nodup_cons] at hn
    unfold bindC
    rw [bindC_out hn.1, if_neg (by rw [hk]; simp)]; simp
  | (a, w) :: r, m, n, v, i + 1, hn, e, hk => by
    simp only [List.getElem?_cons_succ] at e
    simp only [List.map_cons, List.nodup_cons] at hn
    unfold bindC
    exact bindC_get hn.2 e hk

noncomputable def fnOk (K : Frag) (P : Pg) (a : Addr) (F : Fn) : Bool := match K.lookup a with
  | some o => (match o.data with
    | .func fd => (match fd.body with
      | .stmts body => fd.globals == mainGlobals && fd.builtins == builtinsNs && fd.closure.isEmpty && fd.defaults == .none && fd.params.posonlyargs.isEmpty && fd.params.vararg.isNone && fd.params.kwonlyargs.isEmpty && fd.params.kwarg.isNone &&
          !fd.scope.isCoroutine && !fd.scope.isGenerator && fd.scope.kind == .function && codeIn K fd.code fd.qualname && (fd.params.args.map (·.arg)) == (F.slots.map Str.ofString).take F.npar && decide (F.npar ≤ F.slots.length) && decide ((F.slots.map Str.ofString).Nodup) &&
          (F.slots.map Str.ofString).all (fun n => match fd.scope.names.lookup n with | some .local => true | some .cell => ((cellsFrom 0 fd.scope.names []).lookup n).isSome | _ => false) && decide ((cellsFrom 0 fd.scope.names []).map (·.1)).Nodup &&
          mtSs P fd.scope (F.slots.map Str.ofString) F.body body
      | _ => false)
    | _ => false)
  | none => false

set_option tactic.hygienic false in
theorem lookup_isSome {l : List (Str × Addr)} {n : Str} : (l.lookup n).isSome = (l.map (·.1)).contains n := by
  induction l with
  | nil => rfl
  | cons a r ih =>
    obtain ⟨k, v⟩ := a
    simp only [List.lookup_cons, List.map_cons, List.contains_cons]
    cases hb : n == k with
    | true => simp
    | false => simp [ih]

noncomputable def initV (F : Fn) (args : List AV) : VV := args.map some ++ List.replicate (F.slots.length - F.npar) none

theorem call_intro {c : Cx} {mg mb : Str → Option Value} (C : c.Ok mg mb) (PO : PgOk c) {n : Nat} {md : Bool} {f : String} {F : Fn} (hok : fnOk c.K c.P (c.fa f) F = true) {args : List AV} {Q : AV → AHeap → Prop} {E : String → AHeap → Prop} {H : AHeap} (hlen : args.length = F.npar)
    (q : wpSs ⟨c, n, md⟩ F.body (fun _ H => Q .none H) Q (fun cl _ H => E cl H) (initV F args) H) : CallOK c (n + 1) md f args Q E H := by
  intro A stk R s vals Rs aok stkok S hv kQ kE
  unfold fnOk at hok
  split at hok
  · rename_i o ho
    split at hok
    · rename_i fd hd
      split at hok
      · rename_i body hb
        simp only [Bool.and_eq_true, beq_iff_eq, List.isEmpty_iff, Option.isNone_iff_eq_none, Bool.not_eq_true', decide_eq_true_eq] at hok
        obtain ⟨⟨⟨⟨⟨⟨⟨⟨⟨⟨⟨⟨⟨⟨⟨⟨⟨c1, c2⟩, c3⟩, c4⟩, c5⟩, c6⟩, c7⟩, c8⟩, c9⟩, c10⟩, c11⟩, c12⟩, c13⟩, c14⟩, c15⟩, c16⟩, c17⟩, c18⟩ := hok
        have X := C.kin.keeps S.stays
        have hvl := hv.length
        have hpl : fd.params.args.length = F.npar := by
          have := congrArg List.length c13
          simp only [List.length_map, List.length_take] at this
          omega
        have hpn : (fd.params.args.map (·.arg)).Nodup := by rw [c13]; exact c15.sublist (List.take_sublist _ _)
        have hzl : (fd.params.args.map (·.arg)).length = vals.length := by simp; omega
        have hmem : ∀ x ∈ (fd.params.args.map (·.arg)).zip vals, x.1 ∈ F.slots.map Str.ofString := by
          rintro ⟨a, b⟩ hx
          have := (List.of_mem_zip hx).1
          rw [c13] at this
          exact List.mem_of_mem_take this
        have hkinds : ∀ n ∈ F.slots.map Str.ofString, fd.scope.names.lookup n = some .local ∨ (fd.scope.names.lookup n = some .cell ∧ ((cellsFrom 0 fd.scope.names []).lookup n).isSome = true) := by
          intro n hn
          have := List.all_eq_true.mp c16 n hn
          split at this
          · exact .inl (by assumption)
          · exact .inr ⟨by assumption, this⟩
          · cases this
        have hcs : ∀ (k : Nat) n, ((cellsFrom k fd.scope.names []).lookup n).isSome = ((cellsFrom 0 fd.scope.names []).lookup n).isSome := by
          intro k n
          rw [lookup_isSome, lookup_isSome, cellsFrom_names fd.scope.names 0 k [] [] rfl]
        have hnodup : ∀ k : Nat, ((cellsFrom k fd.scope.names []).map (·.1)).Nodup := fun k => by rw [← cellsFrom_names fd.scope.names 0 k [] [] rfl]; exact c17
        refine codeAny_call_function (by have := aok.depth; omega) (X _ _ ho) hd c9 c10 hb (codeRec_of X c12) (bind_plain c5 c6 c7 c8 c4 hpn (by omega) _ _ _ _ ?_)
        rw [c3]
        refine wpAny_newFunctionEnv_cells c11 (fun x hx => ?_) fun env he s₁ x => ?_
        · rcases hkinds x.1 (hmem x hx) with h | ⟨h1, h2⟩
          · exact .inl h
          · exact .inr ⟨h1, by rw [hcs]; exact h2⟩
        subst he
        refine ⟨(C.nolimit.keeps S.stays).keeps x.toInCall.keep, codeAny_func ?_⟩
        generalize henv : newEnv fd.scope s.heap.objs.size fd.globals (cellsFrom (s.heap.objs.size + 1) fd.scope.names []) (fd.qualname ++ ".<locals>.") (some (c.fa f)) fd.code none fd.builtins = env at x ⊢
        have el : env.locals = s.heap.objs.size := by rw [← henv]; rfl
        have es : env.scope = fd.scope := by rw [← henv]; rfl
        have ec : env.cells = cellsFrom (s.heap.objs.size + 1) fd.scope.names [] := by rw [← henv]; rfl
        have eg : env.globals = mainGlobals := by rw [← henv]; exact c1
        have eb : env.builtins = builtinsNs := by rw [← henv]; exact c2
        have ef : env.frame = some env.locals := by rw [← henv]; rfl
        have ek : ∀ n, env.kindOf n = fd.scope.names.lookup n := fun n => by unfold Env.kindOf; rw [es]
        generalize hm : bindL env.kindOf ((fd.params.args.map (·.arg)).zip vals) (fun _ => none) = m at x
        generalize hcm : bindC env.kindOf ((fd.params.args.map (·.arg)).zip vals) (fun _ => none) = cm at x
        have hkeep := x.toInCall.keep
        have hLlt : @LT.lt Nat _ env.locals s₁.heap.objs.size := by obtain ⟨oL, _, _, w, _⟩ := x.toInCall.ns; exact lts w
        have hsz : s.heap.objs.size ≤ s₁.heap.objs.size := by rw [el] at hLlt; exact Nat.le_of_lt hLlt
        have habove : ∀ p ∈ env.cells, @LT.lt Nat _ s.heap.objs.size p.2 := fun p hp => by
          have := x.above p.1 p.2 hp
          rw [el] at this; exact this
        let R' : RR := fun b => if b = env.locals then some (.ns m) else match env.cells.find? (fun p => p.2 == b) with
          | some p => some (.cell (cm p.1))
          | none => R b
        have hL : R' env.locals = some (.ns m) := by show (if _ then _ else _) = _; rw [if_pos rfl]
        have hcell : ∀ n a, env.cells.lookup n = some a → R' a = some (.cell (cm n)) := fun n a h => by
          have hmem := mem_of_lookup h
          have hlt := habove _ hmem
          show (if _ then _ else _) = _
          rw [if_neg (fun z => by rw [z, el] at hlt; exact Nat.lt_irrefl _ hlt)]
          cases hf : env.cells.find? (fun p => p.2 == a) with
          | none =>
            have := List.find?_eq_none.mp hf _ hmem
            simp at this
          | some p =>
            have h1 := List.mem_of_find?_eq_some hf
            have h2 : p.2 = a := by have := List.find?_some hf; simpa using this
            have h3 : p.1 = n := name_of_addr x.apart (c := a) (by rw [← h2]; exact h1) hmem
            simp only [h3]
        have hlk : ∀ p ∈ env.cells, env.cells.lookup p.1 = some p.2 := fun p hp => by
          have hn' : (env.cells.map (·.1)).Nodup := by rw [ec]; exact hnodup _
          exact lookup_of_mem_nodup hn' hp
        have hR : ∀ b, R' b = R b ∨ (s.heap.objs.size ≤ b ∧ ∃ r, R' b = some r ∧ ResAt s₁.heap b r) := fun b => by
          by_cases z : b = env.locals
          · subst z; exact .inr ⟨by rw [el]; exact Nat.le_refl _, _, hL, x.toInCall.ns⟩
          · cases hf : env.cells.find? (fun p => p.2 == b) with
            | none => left; show (if _ then _ else _) = _; rw [if_neg z, hf]
            | some p =>
              have h1 := List.mem_of_find?_eq_some hf
              have h2 : p.2 = b := by have := List.find?_some hf; simpa using this
              subst h2
              have hl := hlk p h1
              exact .inr ⟨Nat.le_of_lt (habove p h1), _, hcell _ _ hl, x.cell _ _ hl⟩
        have hold : ∀ b r, R b = some r → R' b = some r := fun b r e => by
          rcases hR b with h | ⟨h, _⟩
          · rw [h]; exact e
          · obtain ⟨ob, w⟩ := (S.res b r e).2.there
            have := lts w; have := leN h; omega
        have S₁ : St c R' H s₁.heap := S.news hkeep hsz hR
        have hlen2 : (initV F args).length = F.slots.length := by unfold initV; simp; omega
        have hget : ∀ (i : Nat) n, (F.slots.map Str.ofString)[i]? = some n → ∃ v, (initV F args)[i]? = some v ∧ ∀ (y : Option Value), (∀ w, ((fd.params.args.map (·.arg)).zip vals)[i]? = some (n, w) → y = some w) → OVW v y := fun i n hn => by
          have hi : i < F.slots.length := by have := (List.getElem?_eq_some_iff.mp hn).1; simpa using this
          by_cases z : i < F.npar
          · obtain ⟨av, hav⟩ : ∃ av, args[i]? = some av := ⟨args[i], by simp [hlen, z]⟩
            obtain ⟨w, hw, hvr⟩ := hv.get hav
            refine ⟨some av, by unfold initV; rw [List.getElem?_append_left (by simp; omega)]; simp [hav], fun y hy => ?_⟩
            have hp : (fd.params.args.map (·.arg))[i]? = some n := by rw [c13, List.getElem?_take_of_lt z]; exact hn
            rw [hy w (by rw [List.getElem?_zip_eq_some]; exact ⟨hp, hw⟩)]
            exact .some hvr
          · refine ⟨none, ?_, fun y _ => .none⟩
            unfold initV
            rw [List.getElem?_append_right (by simp; omega), List.getElem?_replicate]
            rw [if_pos (by simp; omega)]
        have hzn : (((fd.params.args.map (·.arg)).zip vals).map (·.1)).Nodup := by rw [List.map_fst_zip (by omega)]; exact hpn
        have fr : Frm R' env fd.scope (F.slots.map Str.ofString) (initV F args) := by
          refine ⟨by rw [es]; exact c11, eg, eb, fun id h => ?_, fun id h => ?_, fun id h => ?_, fun id h => by rw [ek]; exact h, fun id h => by rw [ek]; exact h, by rw [hlen2, List.length_map], fun n n' a h h' => name_of_addr x.apart (mem_of_lookup h) (mem_of_lookup h'), ⟨m, hL, fun i n hn hk => ?_⟩, fun i n hn hk => ?_⟩
          · rw [ek]; simpa [isGlob] using h
          · rw [ek]; unfold kindOk at h; split at h <;> simp_all
          · rw [ek]; unfold locKind at h; split at h <;> simp_all
          · obtain ⟨v, h1, h2⟩ := hget i n hn
            exact ⟨v, h1, h2 _ fun w hw => by rw [← hm]; exact bindL_get hzn hw hk⟩
          · obtain ⟨v, h1, h2⟩ := hget i n hn
            rcases hkinds n (List.mem_of_getElem? hn) with z | ⟨z1, z2⟩
            · rw [ek, z] at hk; rcases hk with hk | hk <;> cases hk
            · obtain ⟨a, ha⟩ := Option.isSome_iff_exists.mp (show (env.cells.lookup n).isSome = true by rw [ec, hcs]; exact z2)
              exact ⟨a, _, v, ha, hcell n a ha, h1, h2 _ fun w hw => by rw [← hcm]; exact bindC_get hzn hw (by rw [ek]; exact z1)⟩
        have ev : Ev ⟨c, n, md⟩ (A.deeper env) R' env stk := by
          refine ⟨⟨?_, ?_, ?_, aok.hand⟩, fun e he => ?_⟩
          · show A.frames.map (env :: ·) = _; rw [aok.frames]; rfl
          · have := aok.depth; show A.depth + 1 + 110 + 4 + 8 * n < _; omega
          · have := aok.units; show A.units + 3 + 100 + 10 * 4 + 60 * n < _; omega
          · rcases List.mem_cons.mp he with rfl | he
            · exact ⟨by rw [es]; exact c11, ef, by rw [es]; exact c10, by rw [es]; exact c9, eb, eg, m, hL⟩
            · have G := stkok e he
              obtain ⟨mm, hmm⟩ := G.ns
              exact ⟨G.kind, G.frame, G.gen, G.co, G.blt, G.glob, mm, hold _ _ hmm⟩
        have sm : Sm s s₁ := x.toInCall.same
        have back : ∀ {R₂ : RR}, RStep env R' R₂ → ∀ b r, R b = some r → R₂ b = some r := fun {R₂} r b y e => by
          have hlt : @LT.lt Nat _ b s.heap.objs.size := by obtain ⟨ob, w⟩ := (S.res b y e).2.there; exact lts w
          rcases r b with h | ⟨h, _⟩ | ⟨⟨nn, h⟩, _⟩
          · rw [h]; exact hold b y e
          · rw [h, el] at hlt; exact absurd hlt (Nat.lt_irrefl _)
          · have := habove _ (mem_of_lookup h); exact absurd (Nat.lt_trans hlt this) (Nat.lt_irrefl _)
        refine wpAny_mono (sSs (g := ⟨c, n, md⟩) C PO c15 F.body body c18 md (A.deeper env) env stk R' (initV F args) s s₁ H _ Q _ ev fr S₁ sm q) (fun fl s₂ z => ?_) fun e s₂ z => ?_
        · cases fl with
          | next =>
            obtain ⟨R₂, V₂, H₂, r₂, _, S₂, m₂, q₂⟩ := z
            exact kQ .none .none s₂ H₂ .none (S₂.weaken (back r₂)) m₂ q₂
          | ret v =>
            obtain ⟨R₂, av, H₂, r₂, hv₂, S₂, m₂, q₂⟩ := z
            exact kQ av v s₂ H₂ hv₂ (S₂.weaken (back r₂)) m₂ q₂
          | brk => exact z.elim
          | cont => exact z.elim
        · obtain ⟨a, cl, R₂, V₂, H₂, fl, rfl, r₂, f₂, hfl, X₂, m₂, q₂⟩ := z
          refine exc_leave ev.aok.frames (r₂.stk ev.stk) X₂ hfl fun h' X₃ => ?_
          exact kE a cl _ H₂ (X₃.weaken (back r₂)) (m₂.heap h') q₂
      · cases hok
    · cases hok
  · cases hok
end Mine

end
section
open PySem PySem.W PyProof.Rows PySem.Spec PySem.SeqAt PySem.Calls
namespace Mine

noncomputable def addrOf (v : Option (Option Value)) : Addr := match v with
  | some (some (.ref a)) => a
  | _ => 0
noncomputable def caOf (K : Frag) (cl : String) : Addr := addrOf (nsIn K mainGlobals (Str.ofString cl))
noncomputable def faOf (K : Frag) (P : Pg) (f : String) : Addr := match P.meths.find? (fun p => p.1 ++ "." ++ p.2 == f) with
  | some (cl, m) => addrOf (findIn K (.ref (caOf K cl)) (Str.ofString m))
  | none => addrOf (nsIn K mainGlobals (Str.ofString f))
noncomputable def vrB : AV → Value → Bool
  | .none, .none => true
  | .bool a, .bool b => a == b
  | .int a, .int b _ => a == b
  | .str a, .str b _ => a == b && PyData.strOk b
  | _, _ => false
set_option tactic.hygienic false in
theorem vr_of {a : AV} {v : Value} (h : vrB a v = true) : VR a v := by
  cases a <;> cases v <;> simp [vrB] at h
  · exact .none
  · subst h; exact .bool _
  · subst h; exact .int _ _
  · obtain ⟨rfl, h⟩ := h; exact .str _ _ h

noncomputable def okFn (K : Frag) (P : Pg) : Bool := P.gfns.all fun f => nsIn K mainGlobals (Str.ofString f) == some (some (.ref (faOf K P f))) && keepIn K (.ref (faOf K P f))
noncomputable def okCls (K : Frag) (P : Pg) : Bool := P.classes.all fun cl => nsIn K mainGlobals (Str.ofString cl) == some (some (.ref (caOf K cl))) && keepIn K (.ref (caOf K cl)) && makesIn K (caOf K cl) &&
  findIn K (.ref (caOf K cl)) "__init__" == some (some (.ref (faOf K P (cl ++ ".__init__")))) && isFn K (.ref (faOf K P (cl ++ ".__init__")))
noncomputable def okMeth (K : Frag) (P : Pg) : Bool := P.meths.all fun p => plainGet K (caOf K p.1) (Str.ofString p.2) && findIn K (.ref (caOf K p.1)) (Str.ofString p.2) == some (some (.ref (faOf K P (p.1 ++ "." ++ p.2)))) &&
  isFn K (.ref (faOf K P (p.1 ++ "." ++ p.2))) && keepIn K (.ref (faOf K P (p.1 ++ "." ++ p.2)))
noncomputable def okAttr (K : Frag) (P : Pg) : Bool := P.attrs.all fun p => plainGet K (caOf K p.1) (Str.ofString p.2) && hasDictIn K (caOf K p.1) && findIn K (.ref (caOf K p.1)) (Str.ofString p.2) == some none &&
  findIn K (.ref (caOf K p.1)) "__setattr__" == some (some (.builtin "object.__setattr__")) && plainOver K (caOf K p.1) && takerIn K (caOf K p.1) (Str.ofString p.2) == some none
noncomputable def okPrim (K : Frag) (P : Pg) : Bool := P.prims.all fun f => nsIn K mainGlobals (Str.ofString f) == some none && !(Str.ofString f == Str.ofString "__name__") && bootBuiltins (Str.ofString f) == some (primValS f)
noncomputable def okExc (K : Frag) (P : Pg) : Bool := P.excs.all fun p => p.2.all (fun ty => !P.prims.contains ty || (ty == "ValueError" && subIn K (.ref (caOf K p.1)) (.type ty) == some true)) &&
  nsIn K mainGlobals (Str.ofString p.1) == some (some (.ref (caOf K p.1))) && excIn K (caOf K p.1) veM "ValueError.__new__" && instIn K (.ref (caOf K p.1)) (.type "tuple") == some false && subIn K (.ref (caOf K p.1)) (.type "BaseException") == some true &&
  (clsIn K (caOf K p.1)).isSome && typeIn K (.ref (caOf K p.1)) == some (.type "type") && instIn K (.ref (caOf K p.1)) (.type "type") == some true && !typeNames.contains p.1 && P.excs.all fun q => subIn K (.ref (caOf K p.1)) (.ref (caOf K q.1)) == some (excSub P p.1 q.1)
noncomputable def okConst (K : Frag) (P : Pg) : Bool := P.consts.all fun p => match nsIn K mainGlobals (Str.ofString p.1) with
  | some (some x) => vrB p.2 x
  | _ => false
noncomputable def okFns (K : Frag) (P : Pg) : Bool := P.fns.all fun p => fnOk K P (faOf K P p.1) p.2
noncomputable def okAll (K : Frag) (P : Pg) : Bool := okFn K P && okCls K P && okMeth K P && okAttr K P && okPrim K P && okExc K P && okConst K P && okFns K P

set_option tactic.hygienic false in
theorem lookup_mem {α : Type} : ∀ {l : List (String × α)} {n : String} {c : α}, l.lookup n = some c → (n, c) ∈ l
  | (k, v) :: r, n, c, h => by
    rw [List.lookup_cons] at h
    cases hb : n == k with
    | true => rw [hb] at h; cases h; rw [beq_iff_eq.mp hb]; exact List.mem_cons_self
    | false => rw [hb] at h; exact List.mem_cons_of_mem _ (lookup_mem h)

noncomputable def cxOf (prog : Program) (w : World) (K : Frag) (base : Heap) (P : Pg) : Cx := ⟨prog, w, K, base, P, faOf K P, caOf K⟩

theorem pgOk_of {prog : Program} {w : World} {K : Frag} {base : Heap} {P : Pg} (h : okAll K P = true) : PgOk (cxOf prog w K base P) ∧ ∀ f F, P.fns.lookup f = some F → fnOk K P (faOf K P f) F = true := by
  unfold okAll at h
  simp only [Bool.and_eq_true] at h
  obtain ⟨⟨⟨⟨⟨⟨⟨h1, h2⟩, h3⟩, h4⟩, h5⟩, h6⟩, h7⟩, h8⟩ := h
  refine ⟨⟨fun f hf => ?_, fun cl hf => ?_, fun cl m hf => ?_, fun cl n hf => ?_, fun f hf => ?_, fun cl ty hf ht => ?_, fun cl hf => ?_, fun cl d hc hd => ?_, fun n v hf => ?_⟩, fun f F hf => ?_⟩
  · have := List.all_eq_true.mp h1 f (by simpa [cxOf] using hf)
    simp only [Bool.and_eq_true, beq_iff_eq] at this
    exact this
  · have := List.all_eq_true.mp h2 cl (by simpa [cxOf] using hf)
    simp only [Bool.and_eq_true, beq_iff_eq] at this
    obtain ⟨⟨⟨⟨a1, a2⟩, a3⟩, a4⟩, a5⟩ := this
    exact ⟨a1, a2, a3, a4, a5⟩
  · have := List.all_eq_true.mp h3 (cl, m) (by simpa [cxOf] using hf)
    simp only [Bool.and_eq_true, beq_iff_eq] at this
    obtain ⟨⟨⟨a1, a2⟩, a3⟩, a4⟩ := this
    exact ⟨a1, a2, a3, a4⟩
  · have := List.all_eq_true.mp h4 (cl, n) (by simpa [cxOf] using hf)
    simp only [Bool.and_eq_true, beq_iff_eq] at this
    obtain ⟨⟨⟨⟨⟨a1, a2⟩, a3⟩, a4⟩, a5⟩, a6⟩ := this
    exact ⟨a1, a2, a3, a4, a5, a6⟩
  · have := List.all_eq_true.mp h5 f (by simpa [cxOf] using hf)
    simp only [Bool.and_eq_true, beq_iff_eq, Bool.not_eq_true'] at this
    exact ⟨this.1.1, this.1.2, this.2⟩
  · obtain ⟨l, hl⟩ : ∃ l, P.excs.lookup cl = some l := by
      cases q : P.excs.lookup cl with
      | none => rw [show (cxOf prog w K base P).P.excs.lookup cl = none from q] at hf; cases hf
      | some l => exact ⟨l, rfl⟩
    have := List.all_eq_true.mp h6 (cl, l) (lookup_mem hl)
    simp only [Bool.and_eq_true, List.all_eq_true] at this
    rw [show (cxOf prog w K base P).P.excs.lookup cl = some l from hl] at hf
    have := this.1.1.1.1.1.1.1.1.1 ty (by simpa using hf)
    simp only [Bool.or_eq_true, Bool.not_eq_true', Bool.and_eq_true, beq_iff_eq] at this
    rcases this with q | q
    · rw [show P.prims.contains ty = true from ht] at q; cases q
    · exact q
  · obtain ⟨l, hl⟩ := Option.isSome_iff_exists.mp hf
    have := List.all_eq_true.mp h6 (cl, l) (lookup_mem hl)
    simp only [Bool.and_eq_true, beq_iff_eq, Bool.not_eq_true'] at this
    obtain ⟨⟨⟨⟨⟨⟨⟨⟨⟨_, a1⟩, a2⟩, a3⟩, a4⟩, a5⟩, a6⟩, a7⟩, a8⟩, _⟩ := this
    exact ⟨a1, a2, a3, a4, a5, a6, a7, a8⟩
  · obtain ⟨l, hl⟩ := Option.isSome_iff_exists.mp hc
    obtain ⟨l', hl'⟩ := Option.isSome_iff_exists.mp hd
    have := List.all_eq_true.mp h6 (cl, l) (lookup_mem hl)
    simp only [Bool.and_eq_true] at this
    have := List.all_eq_true.mp this.2 (d, l') (lookup_mem hl')
    exact beq_iff_eq.mp this
  · have := List.all_eq_true.mp h7 (n, v) (lookup_mem hf)
    dsimp only at this
    split at this
    · rename_i x hx; exact ⟨x, hx, vr_of this⟩
    · cases this
  · exact List.all_eq_true.mp h8 (f, F) (lookup_mem hf)

noncomputable def scriptH (p : Addr) (ns : List Int) : AHeap := fun a => if a = p then some (.script ns) else none

set_option tactic.hygienic false in
theorem ints_vr {vs : List Value} {ns : List Int} (h : IntsAre vs ns) : VRs (ns.map AV.int) vs := by
  induction h with
  | nil => exact .nil
  | cons n t _ ih => exact .cons (.int n t) ih

theorem enter {prog : Program} {w : World} {K : Frag} {P : Pg} {mg mb : Str → Option Value} {p : Program} {loose : List Str} {mean : ExcName → Option Value} {s₁ : Shared} {fa sp : Addr} {vs : List Value} {ns : List Int} {n : Nat} {E : Value → Shared → Prop} {Q : Value → Shared → Prop} {nl : Str}
    (hn : n ≤ 50) (KX : K.In s₁.heap) (T : Top p loose mean mg mb s₁.heap) (hseer : s₁.heap.NoSeer) (htree : prog.given.tree = none) (hnl : nl = Str.ofString "law") (hmg : mg nl = some (.ref fa)) (hok : okAll K P = true) (hlaw : P.gfns.contains "law" = true)
    (hget : s₁.heap.get? sp = some { cls := .type "list", data := .seq vs.toArray }) (hI : IntsAre vs ns)
    (hcall : ∀ c : Cx, c.P = P → c.Ok mg mb → PgOk c → (∀ f F, P.fns.lookup f = some F → fnOk c.K P (c.fa f) F = true) → CallOK c n true "law" [.ref sp] (fun v _ => v = .bool true) (fun _ _ => False) (scriptH sp ns))
    (hq : ∀ s', s₁.heap.StaysIn s'.heap → s'.os = s₁.os → s'.gens = s₁.gens → Q (.bool true) s') : wpAny (model prog w) callerA (call (.ref fa) [.ref sp]) Q E s₁ := by
  obtain ⟨PO, FO⟩ := pgOk_of (prog := prog) (w := w) (base := s₁.heap) hok
  have C : (cxOf prog w K s₁.heap P).Ok mg mb := ⟨KX, T.g, T.b, T.nolimit, T.builtins, hseer, htree, p, loose, topRead_of T⟩
  have hfa : fa = (cxOf prog w K s₁.heap P).fa "law" := by
    have h1 := (PO.fn "law" hlaw).1
    have h2 := mg_of KX T.g h1
    rw [← hnl, hmg] at h2
    exact Value.ref.inj (Option.some.inj h2)
  have S : St (cxOf prog w K s₁.heap P) (fun _ => none) (scriptH sp ns) s₁.heap := by
    have hs : ∀ a o, scriptH sp ns a = some o → a = sp ∧ o = .script ns := fun a o e => by
      unfold scriptH at e
      split at e
      · rename_i z; cases e; exact ⟨z, rfl⟩
      · cases e
    refine ⟨_, (?_ : St1 _ _ (scriptH sp ns) _), Real.raw fun a o e => by rw [(hs a o e).2]; rfl⟩
    refine ⟨fun _ _ e => e, Nat.le_refl _, fun _ _ e => (by cases e), fun _ => 0, ⟨fun a o e => ?_, fun a o e => ?_, fun a cl es e => ?_, fun a b cl es cl' es' e => ?_⟩⟩
    · obtain ⟨rfl, rfl⟩ := hs a o e
      exact ⟨vs, 0, hget, ints_vr hI⟩
    · obtain ⟨rfl, rfl⟩ := hs a o e
      exact ⟨⟨fun w => (by cases w), fun w => (by cases w)⟩, rfl⟩
    · cases (hs a _ e).2
    · cases (hs a _ e).2
  rw [hfa]
  refine wpAny_call (hcall _ rfl C PO FO callerA [] (fun _ => none) s₁ [.ref sp] _ ⟨rfl, ?_, ?_, fun _ => rfl⟩ (fun e he => by cases he) S (.cons (.ref sp) .nil) ?_ ?_)
  · show 1 + 300 + 110 + 0 + 8 * n < 1000; omega
  · show 4 + 100 + 10 * 0 + 60 * n < 9900; omega
  · rintro av v s' H' hv S' m rfl
    cases hv
    obtain ⟨h, tk, rfl⟩ := m
    exact hq _ S'.stays rfl rfl
  · rintro e cl s' H' _ _ h; exact h.elim
end Mine

end
section
open PySem PySem.W PyProof.Rows PySem.Spec PySem.SeqAt PySem.Calls
namespace Mine

structure Gd (c : Cx) (P : Pg) : Prop where
  hP : c.P = P
  ok : ∃ mg mb, c.Ok mg mb
  pg : PgOk c
  fn : ∀ f F, P.fns.lookup f = some F → fnOk c.K P (c.fa f) F = true

set_option tactic.hygienic false in
theorem Gd.call {c : Cx} {P : Pg} (G : Gd c P) {n : Nat} {md : Bool} {f : String} {F : Fn} (hf : P.fns.lookup f = some F) {args : List AV} {Q : AV → AHeap → Prop} {E : String → AHeap → Prop} {H : AHeap} (hlen : args.length = F.npar)
    (q : wpSs ⟨c, n, md⟩ F.body (fun _ H => Q .none H) Q (fun cl _ H => E cl H) (initV F args) H) : CallOK c (n + 1) md f args Q E H := by
  obtain ⟨mg, mb, C⟩ := G.ok
  have := G.fn f F hf
  rw [← G.hP] at this
  exact call_intro C G.pg this hlen q

section
variable {Q : AV → AHeap → Prop} {H : AHeap} {x y : Int} {a b : Str}
theorem b_add : wbin .Add (.int x) (.int y) Q H = Q (.int (x + y)) H := rfl
theorem b_sub : wbin .Sub (.int x) (.int y) Q H = Q (.int (x - y)) H := rfl
theorem b_mul : wbin .Mult (.int x) (.int y) Q H = (IntMulOk x y ∧ Q (.int (x * y)) H) := rfl
theorem b_div : wbin .FloorDiv (.int x) (.int y) Q H = (y ≠ 0 ∧ Q (.int (x.fdiv y)) H) := rfl
theorem b_mod : wbin .Mod (.int x) (.int y) Q H = (y ≠ 0 ∧ Q (.int (x.fmod y)) H) := rfl
theorem b_pow : wbin .Pow (.int x) (.int y) Q H = ((2 ≤ x ∧ 1 ≤ y ∧ Builtin.Int.intTooBig (((Builtin.Int.intBits x : Nat) : Int) * y) = false) ∧ Q (.int (x ^ y.toNat)) H) := rfl
theorem b_adds : wbin .Add (.str a) (.str b) Q H = (a.length + b.length ≤ sizeLine ∧ Q (.str (a ++ b)) H) := rfl
theorem c_lt : wcmp .Lt (.int x) (.int y) Q H = Q (.bool (decide (x < y))) H := rfl
theorem c_le : wcmp .LtE (.int x) (.int y) Q H = Q (.bool (decide (x ≤ y))) H := rfl
theorem c_gt : wcmp .Gt (.int x) (.int y) Q H = Q (.bool (decide (y < x))) H := rfl
theorem c_ge : wcmp .GtE (.int x) (.int y) Q H = Q (.bool (decide (y ≤ x))) H := rfl
theorem c_eq : wcmp .Eq (.int x) (.int y) Q H = Q (.bool (x == y)) H := rfl
theorem c_ne : wcmp .NotEq (.int x) (.int y) Q H = Q (.bool (x != y)) H := rfl
theorem c_eqs : wcmp .Eq (.str a) (.str b) Q H = Q (.bool (a == b)) H := rfl
theorem c_nes : wcmp .NotEq (.str a) (.str b) Q H = Q (.bool (a != b)) H := rfl
theorem c_in {u v : AV} : wcmp .In u v Q H = win false u v Q H := rfl
theorem c_nin {u v : AV} : wcmp .NotIn u v Q H = win true u v Q H := rfl
theorem t_bool {H : AHeap} {P : Bool → Prop} {t : Bool} : wtruth (.bool t) H P = P t := rfl
theorem t_int {H : AHeap} {P : Bool → Prop} {i : Int} : wtruth (.int i) H P = P (i != 0) := rfl
theorem t_none {H : AHeap} {P : Bool → Prop} : wtruth .none H P = P false := rfl
end

set_option tactic.hygienic false in
theorem script_get {P : Params} {h : Heap} {sp : Addr} {xs : List PyData} {vs : List Value} (W : Well P h (.ref sp) (ofPy (.list xs))) (L : h.IsList sp vs.toArray) : h.get? sp = some { cls := .type "list", data := .seq vs.toArray } := by
  obtain ⟨o, ho, hc, n, hd⟩ := L
  rw [ofPy] at W
  cases W with
  | list h1 _ => rw [ho] at h1; cases h1; cases hd; exact ho
set_option tactic.hygienic false in
theorem scriptH_at {sp : Addr} {ns : List Int} : scriptH sp ns sp = some (.script ns) := by unfold scriptH; rw [if_pos rfl]

end Mine

end
section
open PySem PySem.W PyProof.Rows
namespace Mine

noncomputable def bcons (x : Obj) : BT → BT
  | .nil => .node x .nil .nil
  | .node y l r => .node x (bcons y r) l
noncomputable def ofL : List Obj → BT
  | [] => .nil
  | x :: xs => bcons x (ofL xs)
set_option tactic.hygienic false in
theorem get_odd {v : Obj} {l r : BT} {k : Nat} : (BT.node v l r).get (2 * k + 1) = l.get k := by
  rw [BT.get_node, if_neg (Nat.succ_ne_zero _), if_pos (by omega), show (2 * k + 1) / 2 = k by omega]
set_option tactic.hygienic false in
theorem get_even {v : Obj} {l r : BT} {k : Nat} : (BT.node v l r).get (2 * k + 2) = r.get k := by
  rw [BT.get_node, if_neg (Nat.succ_ne_zero _), if_neg (by omega), show (2 * k + 2) / 2 - 1 = k by omega]
theorem halves : ∀ i : Nat, i = 0 ∨ ∃ k, i = 2 * k + 1 ∨ i = 2 * k + 2
  | 0 => .inl rfl
  | 1 => .inr ⟨0, .inl rfl⟩
  | i + 2 => .inr (match halves i with
    | .inl h => ⟨0, .inr (congrArg (· + 2) h)⟩
    | .inr ⟨k, .inl h⟩ => ⟨k + 1, .inl (congrArg (· + 2) h)⟩
    | .inr ⟨k, .inr h⟩ => ⟨k + 1, .inr (congrArg (· + 2) h)⟩)
set_option tactic.hygienic false in
theorem get_bcons : ∀ (t : BT) (x : Obj) (i : Nat), (bcons x t).get i = if i = 0 then some x else t.get (i - 1)
  | .nil, x, i => by
    rcases halves i with rfl | ⟨k, rfl | rfl⟩
    · rfl
    · exact get_odd
    · exact get_even
  | .node y l r, x, i => by
    rcases halves i with rfl | ⟨k, rfl | rfl⟩
    · rfl
    · refine get_odd.trans ?_
      rw [get_bcons r y, if_neg (Nat.succ_ne_zero _)]
      cases k with
      | zero => rfl
      | succ j => exact get_even.symm
    · exact get_even.trans (get_odd (v := y) (r := r)).symm
set_option tactic.hygienic false in
theorem get_ofL : ∀ (l : List Obj) (i : Nat), (ofL l).get i = l[i]?
  | [], i => by simp [ofL, BT.get]
  | x :: xs, i => by
    unfold ofL
    rw [get_bcons, get_ofL xs]
    cases i with
    | zero => simp
    | succ n => simp
set_option tactic.hygienic false in
theorem abs_ofL (h : Heap) : absHeap (ofL h.objs.toList) h.objs.size h.life = h := by
  obtain ⟨⟨l⟩, life⟩ := h
  unfold absHeap BT.list
  have : (List.range l.length).map (fun i => ((ofL l).get i).getD default) = l := by
    apply List.ext_getElem?
    intro i
    rw [List.getElem?_map]
    by_cases h : i < l.length
    · rw [List.getElem?_range h, Option.map_some, get_ofL]
      simp [h]
    · rw [List.getElem?_eq_none (by simpa using h), List.getElem?_eq_none (by omega)]; rfl
  exact congrArg (fun x : List Obj => Heap.mk x.toArray life) this

noncomputable def topRunT (tb : String → Option Builtin) (p : Program) (w : World) (n₀ : Nat) (ann : Option Value) : Nat → SharedT → Thread → Option SharedT
  | 0, _, _ => none
  | n + 1, s, t => match through t with
    | true => some s
    | false => match stepOk n₀ ann t with
      | false => none
      | true => match stepT (denote tb) p w s t with
        | some (s', t') => topRunT tb p w n₀ ann n s' t'
        | none => none
set_option tactic.hygienic false in
theorem topRun_of {tb : String → Option Builtin} {p : Program} {w : World} {n₀ : Nat} {ann : Option Value} : ∀ {n : Nat} {s s' : SharedT} {t : Thread}, topRunT tb p w n₀ ann n s t = some s' → topRun tb p w n₀ ann n s.abs t = some s'.abs
  | 0, _, _, _, h => by cases h
  | n + 1, s, s', t, h => by
    unfold topRunT at h
    unfold topRun
    cases he : through t with
    | true => rw [he] at h; cases h; rfl
    | false =>
      rw [he] at h
      cases hk : stepOk n₀ ann t with
      | false => rw [hk] at h; cases h
      | true =>
        rw [hk] at h
        cases hs : stepT (denote tb) p w s t with
        | none => rw [hs] at h; cases h
        | some r => obtain ⟨s₂, t₂⟩ := r; rw [hs] at h; rw [stepT_spec hs]; exact topRun_of h

noncomputable def topRunQ (p : Program) (w : World) (n₀ : Nat) (ann : Option Value) : Nat → SharedT → Thread → Option SharedT
  | 0, _, _ => none
  | n + 1, s, t => match through t with
    | true => some s
    | false => match Fast.tw6613529449190102663 n₀ ann t with
      | false => none
      | true => match Fast.tw10156331382660048174 (Fast.tw11892475500146522536 Fast.tw14364793385576792824) p w s t with
        | some (s', t') => topRunQ p w n₀ ann n s' t'
        | none => none
set_option tactic.hygienic false in
theorem topRunQ_eq {p : Program} {w : World} {n₀ : Nat} {ann : Option Value} : ∀ (n : Nat) (s : SharedT) (t : Thread), topRunQ p w n₀ ann n s t = topRunT treeTable p w n₀ ann n s t
  | 0, _, _ => rfl
  | n + 1, s, t => by
    rw [topRunQ, topRunT, ← Fast.te6613529449190102663, ← Fast.te10156331382660048174, ← Fast.te11892475500146522536, ← Fast.te14364793385576792824]
    cases through t with
    | true => rfl
    | false =>
      cases stepOk n₀ ann t with
      | false => rfl
      | true =>
        cases stepT (denote treeTable) p w s t with
        | none => rfl
        | some r => exact topRunQ_eq n r.1 r.2

noncomputable def bootT (w : World) (os : OsState) : SharedT := ⟨ofL (boot_heap w.params).objs.toList, (boot_heap w.params).objs.size, (boot_heap w.params).life, Array.mk [], boot_drawn, boot_toks, os⟩

set_option tactic.hygienic false in
theorem left_of {p q : Program} {loose : List Str} {Xt : Shared → Bool} {α : Type} {Yf : Shared → α} {YT : SharedT → α} {Ya : World → α} {N : Nat} {g0 : Bool} {ann : Option Value} {m₀ : Nat} (hY : ∀ s, Yf s.abs = YT s)
    (e : opening p = plainProg p.main.scope.names) (hN : Nat.ble 600 N = true) (f : ∀ s, fenceModules? p s = some s)
    (size : ∀ w : World, ((boot_heap w.params).isNs mainGlobals, (boot_heap w.params).objs.size, (boot_heap w.params).nsMap mainGlobals "__annotations__") = (true, m₀, ann))
    (run : ∀ (w : World) (os : OsState), (topRunQ p w m₀ ann N (bootT w os) (topStub p)).map (fun s =>
      (staticsOk (importedModules p.main.body) (boot_heap w.params) s.abs.heap && namesBound p s.abs.heap && gensDone s.abs && laidKept (boot_heap w.params) s.abs.heap, Fast.tw4187177175401517315 q loose (importedModules p.main.body) Xt g0 s.abs, YT s)) = some (true, openGood q loose, Ya w)) :
    LeftO p q loose Xt Yf Ya N g0 := fun w => by
  obtain ⟨⟨h, gs, d, k, os⟩, e1, e2⟩ := Option.map_eq_some_iff.mp (boot_open e hN f w)
  obtain ⟨rfl, rfl, rfl, rfl⟩ : h = boot_heap w.params ∧ gs = Array.mk [] ∧ d = boot_drawn ∧ k = boot_toks := by simpa using e2
  obtain ⟨z1, z2, z3⟩ : _ ∧ _ ∧ _ := by simpa only [Prod.mk.injEq] using size w
  obtain ⟨s₁, r1, r2⟩ := Option.map_eq_some_iff.mp (run w os)
  obtain ⟨l1, l2, l3⟩ : _ ∧ _ ∧ _ := by simpa only [Prod.mk.injEq] using r2
  rw [topRunQ_eq] at r1
  rw [← Fast.te4187177175401517315] at l2
  have r3 := topRun_of r1
  have ab : (bootT w os).abs = ⟨boot_heap w.params, Array.mk [], boot_drawn, boot_toks, os⟩ := by
    unfold bootT SharedT.abs
    rw [abs_ofL]
  rw [ab] at r3
  have t : topFrom treeTable p w N ⟨boot_heap w.params, Array.mk [], boot_drawn, boot_toks, os⟩ = some s₁.abs := by
    unfold topFrom
    dsimp only
    rw [z1, z2, z3, r3]
    show (match staticsOk (importedModules p.main.body) (boot_heap w.params) s₁.abs.heap && namesBound p s₁.abs.heap && gensDone s₁.abs && laidKept (boot_heap w.params) s₁.abs.heap with | true => _ | false => _) = _
    rw [l1]
  unfold openEnds
  rw [e1]
  show (topFrom treeTable p w N _).map _ = _
  rw [t]
  exact congrArg some (Prod.ext l2 ((hY s₁).trans l3))
end Mine

end
section
open PySem PySem.W PyProof.Rows PySem.Spec PySem.SeqAt PySem.Calls
namespace Mine

noncomputable def fragAt (h : Heap) (as : List Addr) : Frag := as.filterMap fun a => (h.get? a).map fun o => (a, o)
set_option tactic.hygienic false in
theorem fragAt_in {h : Heap} {as : List Addr} : (fragAt h as).In h := by
  intro a o e
  induction as with
  | nil => cases e
  | cons b r ih =>
    unfold fragAt at e ih
    rw [List.filterMap_cons] at e
    cases hb : h.get? b with
    | none => rw [hb] at e; exact ih e
    | some ob =>
      rw [hb] at e
      simp only [Option.map_some] at e
      rw [List.lookup_cons] at e
      cases hab : a == b with
      | true => rw [hab] at e; cases e; rw [beq_iff_eq.mp hab]; exact hb
      | false => rw [hab] at e; exact ih e
set_option tactic.hygienic false in
theorem abs_get' {t : BT} {n : Nat} {life : Life} {a : Nat} : (absHeap t n life).get? a = if a < n then alive ((t.get a).getD default) else none := by
  unfold Heap.get?
  rw [absHeap_at]
  by_cases h : a < n
  · rw [if_pos h, if_pos h]
    generalize (t.get a).getD default = o
    obtain ⟨c, d, dt, sl⟩ := o
    cases dt <;> rfl
  · rw [if_neg h, if_neg h]
noncomputable def fragT (t : BT) (n : Nat) : List Addr → Frag
  | [] => []
  | a :: r => match Nat.blt a n with
    | true => (match alive ((t.get a).getD default) with
      | some o => (a, o) :: fragT t n r
      | none => fragT t n r)
    | false => fragT t n r
set_option tactic.hygienic false in
theorem fragT_eq {t : BT} {n : Nat} {life : Life} : ∀ {as : List Addr}, fragAt (absHeap t n life) as = fragT t n as
  | [] => rfl
  | a :: r => by
    have ih := fragT_eq (t := t) (n := n) (life := life) (as := r)
    unfold fragAt at ih ⊢
    rw [List.filterMap_cons, fragT, ih, abs_get']
    cases h : Nat.blt a n with
    | true =>
      rw [if_pos (show a < n from Nat.le_of_ble_eq_true h)]
      cases alive ((t.get a).getD default) <;> rfl
    | false =>
      rw [if_neg (fun q => by rw [show Nat.blt a n = true from Nat.ble_eq_true_of_le q] at h; cases h)]
      rfl
noncomputable def mineHook (P : Pg) (as : List Addr) : Hook where
  α := Bool
  obs s := okAll (fragAt s.heap as) P
  val _ := true
  says _ h := ∃ K : Frag, K.In h ∧ okAll K P = true
  of _ s e := ⟨_, fragAt_in, e⟩
  keeps _ _ _ := fun ⟨K, a, b⟩ k => ⟨K, Frag.In.keeps a k, b⟩
theorem mineHook_T {P : Pg} {as : List Addr} (s : SharedT) : (mineHook P as).obs s.abs = okAll (fragT s.tree s.n as) P := congrArg (okAll · P) fragT_eq
end Mine

end
section
open PySem PySem.W PyProof.Rows PySem.Spec PySem.SeqAt PySem.Calls
namespace Mine

noncomputable def Gh (H H' : AHeap) : Prop := ∀ H₁, Real H H₁ → Real H' H₁
theorem St.gh {c : Cx} {R : RR} {H H' : AHeap} {h : Heap} (S : St c R H h) (g : Gh H H') : St c R H' h := let ⟨H₁, s, r⟩ := S; ⟨H₁, s, g H₁ r⟩
theorem ExcSt.gh {c : Cx} {R : RR} {H H' : AHeap} {e : Addr} {cl : String} {fl : Value} {h : Heap} (X : ExcSt c R H e cl fl h) (g : Gh H H') : ExcSt c R H' e cl fl h := let ⟨H₁, s, r⟩ := X; ⟨H₁, s, g H₁ r⟩
theorem CallOK.post {c : Cx} {n : Nat} {md : Bool} {f : String} {args : List AV} {Q Q' : AV → AHeap → Prop} {E E' : String → AHeap → Prop} {H : AHeap} (h : CallOK c n md f args Q E H) (k : ∀ v H, Q v H → ∃ H', Gh H H' ∧ Q' v H') (e : ∀ cl H, E cl H → ∃ H', Gh H H' ∧ E' cl H') : CallOK c n md f args Q' E' H :=
  fun A stk R s vals Rs a b d v p q => h A stk R s vals Rs a b d v (fun av v s' H' x y z w => let ⟨H'', g, w'⟩ := k _ _ w; p av v s' H'' x (y.gh g) z w') (fun ee cl s' H' x y z => let ⟨H'', g, w'⟩ := e _ _ z; q ee cl s' H'' (x.gh g) y w')

structure Fr1 (o : Addr → Option Role) (H : AHeap) (o' : Addr → Option Role) (H' : AHeap) : Prop where
  old : ∀ a x, H a = some x → o a = none → H' a = some x ∧ o' a = none
theorem Fr1.refl {o : Addr → Option Role} {H : AHeap} : Fr1 o H o H := ⟨fun _ _ h k => ⟨h, k⟩⟩
theorem Fr1.trans {o o' o'' : Addr → Option Role} {H H' H'' : AHeap} (x : Fr1 o H o' H') (y : Fr1 o' H' o'' H'') : Fr1 o H o'' H'' := ⟨fun a z h k => y.old a z (x.old a z h k).1 (x.old a z h k).2⟩

set_option tactic.hygienic false in
theorem book_call {c : Cx} {n : Nat} {md : Bool} {f : String} {args : List AV} {Q : AV → AHeap → Prop} {E : String → AHeap → Prop} {H : AHeap} {b : Addr} {B : Bk} (hb : H b = some (.book B))
    (h : ∀ H₂ o f' s p as, IsBook o H₂ b f' s p as B → (∀ a x, H a = some x → a ≠ b → H₂ a = some x ∧ o a = none) →
      CallOK c n md f args
        (fun v H' => ∃ o' f' s p as B', IsBook o' H' b f' s p as B' ∧ Fr1 o H₂ o' H' ∧ ((∀ a, v ≠ .ref a) ∧ Q v (up H b (.book B')) ∨ ∃ z xs, v = .ref z ∧ H z = none ∧ H' z = some (.list xs) ∧ o' z = none ∧ Q v (up (up H b (.book B')) z (.list xs))))
        (fun cl H' => ∃ o' f' s p as B', IsBook o' H' b f' s p as B' ∧ Fr1 o H₂ o' H' ∧ E cl (up H b (.book B'))) H₂) : CallOK c n md f args Q E H := by
  intro A stk R s vals Rs a1 a2 S a4 kQ kE
  obtain ⟨H₁, S1, r⟩ := S
  obtain ⟨H₂, o, f', sa, p, as, r2, ib, hold⟩ := r.unpack hb
  have back : ∀ H' o' f' s p as B', IsBook o' H' b f' s p as B' → Fr1 o H₂ o' H' → Gh H' (up H b (.book B')) := fun H' o' f' s p as B' ib' fr H₁ r => by
    refine r.pack ib' fun a x e => ?_
    by_cases z : a = b
    · subst z; rw [up_same] at e; cases e; exact .inl ⟨rfl, rfl⟩
    · rw [up_other z] at e
      obtain ⟨e1, e2⟩ := hold a x e z
      obtain ⟨e3, e4⟩ := fr.old a x e1 e2
      exact .inr ⟨z, e4, e3⟩
  refine (CallOK.post (h H₂ o f' sa p as ib hold) (fun v H' q => ?_) fun cl H' q => ?_) A stk R s vals Rs a1 a2 ⟨H₁, S1, r2⟩ a4 kQ kE
  · obtain ⟨o', f', s, p, as, B', ib', fr, q | ⟨z, xs, rfl, hz, hz', ho, q⟩⟩ := q
    · exact ⟨_, back _ _ _ _ _ _ _ ib' fr, q.2⟩
    · refine ⟨_, fun H₁ r => ?_, q⟩
      refine r.pack ib' fun a x e => ?_
      have hzb : z ≠ b := fun w => by rw [w, hb] at hz; cases hz
      by_cases w : a = z
      · subst w; rw [up_same] at e; cases e; exact .inr ⟨hzb, ho, hz'⟩
      · rw [up_other w] at e
        by_cases y : a = b
        · subst y; rw [up_same] at e; cases e; exact .inl ⟨rfl, rfl⟩
        · rw [up_other y] at e
          obtain ⟨e1, e2⟩ := hold a x e y
          obtain ⟨e3, e4⟩ := fr.old a x e1 e2
          exact .inr ⟨y, e4, e3⟩
  · obtain ⟨o', f', s, p, as, B', ib', fr, q⟩ := q
    exact ⟨_, back _ _ _ _ _ _ _ ib' fr, q⟩
end Mine

end
section

end
section
open PySem PySem.W PyProof.Rows PySem.Spec PySem.SeqAt PySem.Calls
namespace Mine.BK
noncomputable def f_is_whole : Fn := ⟨1, ["thing"], [
  .ret (.ao true [(.isinst (.var 0) "int"), (.not (.isinst (.var 0) "bool"))])]⟩
noncomputable def f_is_name : Fn := ⟨1, ["thing", "sign"], [
  .ite (.ao false [(.not (.isinst (.var 0) "str")), (.not (.cmp2 .LtE .LtE (.lit (.int 1)) (.prim .len [(.var 0)]) (.glob "MOST_SIGNS")))]) [.ret (.lit (.bool false))] [],
  .for (.var 1) (.var 0) [.ite (.cmp .NotIn (.var 1) (.glob "LETTERS")) [.ret (.lit (.bool false))] []],
  .ret (.lit (.bool true))]⟩
noncomputable def f_name_of : Fn := ⟨1, ["thing"], [
  .ite (.not (.call "is_name" [(.var 0)])) [.raise "NoName" (Str.ofString "no name")] [],
  .ret (.var 0)]⟩
noncomputable def f_amount_of : Fn := ⟨1, ["thing"], [
  .ite (.ao false [(.not (.call "is_whole" [(.var 0)])), (.not (.cmp2 .LtE .LtE (.lit (.int 1)) (.var 0) (.glob "MOST_AMOUNT")))]) [.raise "NoAmount" (Str.ofString "no amount")] [],
  .ret (.var 0)]⟩
noncomputable def f_Book___init__ : Fn := ⟨1, ["self"], [
  .assign (.attr (.var 0) "day") (.lit (.int 0)),
  .assign (.attr (.var 0) "free") (.dict [] []),
  .assign (.attr (.var 0) "aside") (.dict [] []),
  .assign (.attr (.var 0) "pacts") (.dict [] [])]⟩
noncomputable def f_Book_need_purse : Fn := ⟨2, ["self", "purse"], [
  .ite (.ao false [(.not (.call "is_name" [(.var 1)])), (.cmp .NotIn (.var 1) (.attr (.var 0) "free"))]) [.raise "NoPurse" (Str.ofString "no such purse")] []]⟩
noncomputable def f_Book_open_purse : Fn := ⟨2, ["self", "name"], [
  .expr (.call "name_of" [(.var 1)]),
  .ite (.cmp .In (.var 1) (.attr (.var 0) "free")) [.raise "Taken" (Str.ofString "there is such a purse")] [],
  .assign (.sub (.attr (.var 0) "free") (.var 1)) (.lit (.int 0)),
  .assign (.sub (.attr (.var 0) "aside") (.var 1)) (.lit (.int 0))]⟩
noncomputable def f_Book_put : Fn := ⟨3, ["self", "purse", "amount"], [
  .expr (.meth (.var 0) "need_purse" [(.var 1)]),
  .assign (.sub (.attr (.var 0) "free") (.var 1)) (.bin .Add (.sub (.attr (.var 0) "free") (.var 1)) (.call "amount_of" [(.var 2)]))]⟩
noncomputable def f_Book_take : Fn := ⟨3, ["self", "purse", "amount"], [
  .expr (.meth (.var 0) "need_purse" [(.var 1)]),
  .expr (.call "amount_of" [(.var 2)]),
  .ite (.cmp .Lt (.sub (.attr (.var 0) "free") (.var 1)) (.var 2)) [.raise "TooLittle" (Str.ofString "less is free")] [],
  .assign (.sub (.attr (.var 0) "free") (.var 1)) (.bin .Sub (.sub (.attr (.var 0) "free") (.var 1)) (.var 2))]⟩
noncomputable def f_Book_purses : Fn := ⟨1, ["self"], [
  .ret (.prim .list [(.attr (.var 0) "free")])]⟩
noncomputable def f_Book_told : Fn := ⟨1, ["self"], [
  .ret (.prim .list [(.attr (.var 0) "pacts")])]⟩
noncomputable def f_Book_free_of : Fn := ⟨2, ["self", "purse"], [
  .expr (.meth (.var 0) "need_purse" [(.var 1)]),
  .ret (.sub (.attr (.var 0) "free") (.var 1))]⟩
noncomputable def f_Book_aside_of : Fn := ⟨2, ["self", "purse"], [
  .expr (.meth (.var 0) "need_purse" [(.var 1)]),
  .ret (.sub (.attr (.var 0) "aside") (.var 1))]⟩
noncomputable def f__law_cell_at : Fn := ⟨2, ["_law_script", "_law_k"], [
  .ite (.cmp .Lt (.var 1) (.prim .len [(.var 0)])) [.ret (.sub (.var 0) (.var 1))] [],
  .ret (.lit (.int 0))]⟩
noncomputable def f__law_mixed : Fn := ⟨2, ["_law_number", "_law_k"], [
  .ret (.bin .Mod (.bin .Add (.bin .Add (.bin .Mult (.var 0) (.lit (.int 6364136223846793005))) (.bin .Mult (.var 1) (.lit (.int 1442695040888963407)))) (.lit (.int 1013904223))) (.lit (.int 2305843009213693951)))]⟩
noncomputable def f__law_whole : Fn := ⟨1, ["_law_found"], [
  .ret (.ao true [(.isinst (.var 0) "int"), (.not (.isinst (.var 0) "bool"))])]⟩
end Mine.BK
namespace Mine.BK
noncomputable def consts : List (String × AV) := [("LETTERS", (.str (Str.ofString "abcdefghijklmnopqrstuvwxyz"))), ("MOST_SIGNS", (.int 12)), ("MOST_AMOUNT", (.int 1000000000000000000000000000000)), ("MOST", (.int 8))]
noncomputable def meths : List (String × String) := [("Pact", "__init__"), ("Pact", "part_of"), ("Pact", "is_full"), ("Book", "__init__"), ("Book", "need_purse"), ("Book", "need_pact"), ("Book", "need_open"), ("Book", "open_purse"), ("Book", "put"), ("Book", "take"), ("Book", "pairs_of"), ("Book", "needs_of"), ("Book", "tell"), ("Book", "set_aside"), ("Book", "given_back"), ("Book", "draw_back"), ("Book", "fell"), ("Book", "first_dragged"), ("Book", "dragged"), ("Book", "call_off"), ("Book", "pass_days"), ("Book", "standing"), ("Book", "settle"), ("Book", "why_not"), ("Book", "purses"), ("Book", "told"), ("Book", "free_of"), ("Book", "aside_of"), ("Book", "state_of"), ("Book", "inside_of"), ("Book", "full")]
noncomputable def attrs : List (String × String) := [("Book", "aside"), ("Book", "day"), ("Book", "free"), ("Book", "pacts"), ("Pact", "gains"), ("Pact", "inside"), ("Pact", "last"), ("Pact", "name"), ("Pact", "needs"), ("Pact", "parts"), ("Pact", "state")]
end Mine.BK
namespace Mine
structure HasA (P : Pg) : Prop where
  meths : P.meths = BK.meths
  attrs : P.attrs = BK.attrs
  consts : P.consts = BK.consts
  is_whole : P.fns.lookup "is_whole" = some BK.f_is_whole
  is_name : P.fns.lookup "is_name" = some BK.f_is_name
  name_of : P.fns.lookup "name_of" = some BK.f_name_of
  amount_of : P.fns.lookup "amount_of" = some BK.f_amount_of
  init : P.fns.lookup "Book.__init__" = some BK.f_Book___init__
  need_purse : P.fns.lookup "Book.need_purse" = some BK.f_Book_need_purse
  open_purse : P.fns.lookup "Book.open_purse" = some BK.f_Book_open_purse
  put : P.fns.lookup "Book.put" = some BK.f_Book_put
  purses : P.fns.lookup "Book.purses" = some BK.f_Book_purses
  told : P.fns.lookup "Book.told" = some BK.f_Book_told
  free_of : P.fns.lookup "Book.free_of" = some BK.f_Book_free_of
  aside_of : P.fns.lookup "Book.aside_of" = some BK.f_Book_aside_of

noncomputable def nameB : AV → Bool
  | .str s => isNm s
  | _ => false
noncomputable def wholeB : AV → Bool
  | .int _ => true
  | _ => false
noncomputable def amountB : AV → Bool
  | .int i => decide (1 ≤ i ∧ i ≤ 1000000000000000000000000000000)
  | _ => false
noncomputable def Kn (H : AHeap) (v : AV) : Prop := (∃ k, vkind H v = some k) ∧ ∀ s, v = .str s → s.length < 2 ^ 62

theorem wfor {QN : VV → AHeap → Prop} {stp : AV → (VV → AHeap → Prop) → VV → AHeap → Prop} {v : AV} {V : VV} {H : AHeap} {xs : List AV} (hx : itemsOf H v = some xs) (I : Nat → VV → AHeap → Prop) (h0 : I 0 V H)
    (hs : ∀ k V' H', I k V' H' → sameIt H H' v ∧ (k = xs.length → QN V' H') ∧ ∀ x, xs[k]? = some x → stp x (I (k + 1)) V' H') : WFor QN stp v V H := ⟨xs, hx, I, h0, hs⟩

section
variable {c : Cx} {P : Pg} (G : Gd c P) (U : HasA P) {n : Nat} {md : Bool} {Q : AV → AHeap → Prop} {E : String → AHeap → Prop} {H : AHeap}

set_option tactic.hygienic false in
theorem kind_str {v : AV} (h : vkind H v = some "str") : ∃ s, v = .str s := by
  cases v with
  | str s => exact ⟨s, rfl⟩
  | ref a => simp only [vkind] at h; split at h <;> simp at h
  | _ => simp [vkind] at h
set_option tactic.hygienic false in
theorem name_not {v : AV} {k : String} (hk : vkind H v = some k) (h : k ≠ "str") : nameB v = false := by
  cases v with
  | str s => simp [vkind] at hk; exact absurd hk.symm h
  | _ => rfl

set_option tactic.hygienic false in
theorem signs {g : Gx} (hmd : g.md = true) {s : Str} {e : X} {V : VV} {QN : VV → AHeap → Prop} {E : String → VV → AHeap → Prop} (he : ∀ V H Q E, wpX g e V Q E H = Q (.str letters) H) (hV : V = [some (.str s), none]) (h1 : (s.cps.toList.all fun ch => letters.cps.toList.contains ch) = true → ∀ a, QN [some (.str s), a] H) (h2 : (s.cps.toList.all fun ch => letters.cps.toList.contains ch) = false → Q (.bool false) H) :
    wpS g (.for (.var 1) (.var 0) [.ite (.cmp .NotIn (.var 1) e) [.ret (.lit (.bool false))] []]) QN Q E V H := by
  subst hV
  simp only [w_ite, w_ret, w_asg, s_expr', s_raise', s_for', s_while', s_try', s_pass']
  refine ⟨hmd, ?_⟩
  dsimp only [v_0, x_lit, x_var, x_bin, x_neg, x_not, x_ao, x_ite, x_cmp, x_cmp2, x_sub, x_slice, x_glob, x_call, x_prim, x_bm, x_isi, x_list, x_tup, x_dict0, xs_nil, xs_cons, ao_one, ao_cons, xo_none, xo_some, xc_none, xc_some, tv, tsub, tattr, wtg, b_add, b_sub, b_mul, b_div, b_mod, b_pow, b_adds, c_lt, c_le, c_gt, c_ge, c_eq, c_ne, c_eqs, c_nes, c_in, c_nin, t_bool, t_int, t_none, w_cons, w_nil, w_ite, w_ret, w_asg, s_expr', s_raise']
  refine wfor (xs := s.cps.toList.map fun ch => AV.str ⟨#[ch]⟩) rfl (fun k V' H' => H' = H ∧ (∃ a, V' = [some (.str s), a]) ∧ ∀ ch ∈ s.cps.toList.take k, letters.cps.toList.contains ch = true) ⟨rfl, ⟨_, rfl⟩, by simp⟩ ?_
  rintro k V' H' ⟨rfl, ⟨a, rfl⟩, hin⟩
  refine ⟨trivial, fun hk => h1 ?_ a, fun x hx => ?_⟩
  · rw [hk, List.length_map, List.take_length] at hin
    rw [List.all_eq_true]; exact hin
  · rw [List.getElem?_map, Option.map_eq_some_iff] at hx
    obtain ⟨ch, hch, rfl⟩ := hx
    dsimp [v_0, x_lit, x_var, x_bin, x_neg, x_not, x_ao, x_ite, x_cmp, x_cmp2, x_sub, x_slice, x_glob, x_call, x_prim, x_bm, x_isi, x_list, x_tup, x_dict0, xs_nil, xs_cons, ao_one, ao_cons, xo_none, xo_some, xc_none, xc_some, tv, tsub, tattr, wtg, b_add, b_sub, b_mul, b_div, b_mod, b_pow, b_adds, c_lt, c_le, c_gt, c_ge, c_eq, c_ne, c_eqs, c_nes, c_in, c_nin, t_bool, t_int, t_none, w_cons, w_nil, w_ite, w_ret, w_asg, s_expr', s_raise']; simp [he, v_0, x_lit, x_var, x_bin, x_neg, x_not, x_ao, x_ite, x_cmp, x_cmp2, x_sub, x_slice, x_glob, x_call, x_prim, x_bm, x_isi, x_list, x_tup, x_dict0, xs_nil, xs_cons, ao_one, ao_cons, xo_none, xo_some, xc_none, xc_some, tv, tsub, tattr, wtg, b_add, b_sub, b_mul, b_div, b_mod, b_pow, b_adds, c_lt, c_le, c_gt, c_ge, c_eq, c_ne, c_eqs, c_nes, c_in, c_nin, t_bool, t_int, t_none, w_cons, w_nil, w_ite, w_ret, w_asg, s_expr', s_raise']
    refine ⟨ch, rfl, ?_⟩
    cases hc : letters.cps.toList.contains ch with
    | true =>
      simp only [t_bool]
      simp
      intro ch' hch'
      rw [List.take_add_one, hch] at hch'
      rcases List.mem_append.mp hch' with h | h
      · simpa using hin ch' h
      · simp at h; subst h; simpa using hc
    | false =>
      simp only [t_bool]
      simp
      apply h2
      rw [List.all_eq_false]
      exact ⟨ch, List.mem_of_getElem? hch, by rw [hc]; simp⟩

include G U
set_option tactic.hygienic false in
theorem is_name_ok {v : AV} (hk : Kn H v) (q : Q (.bool (nameB v)) H) : CallOK c (n + 1) true "is_name" [v] Q E H := by
  obtain ⟨⟨k, hk⟩, hl⟩ := hk
  refine G.call (F := BK.f_is_name) U.is_name rfl ?_
  have hg : c.P.consts.lookup "MOST_SIGNS" = some (.int 12) := by rw [G.hP, U.consts]; rfl
  have hg2 : c.P.consts.lookup "LETTERS" = some (.str letters) := by rw [G.hP, U.consts]; rfl
  by_cases hks : k = "str"
  · subst hks
    obtain ⟨s, rfl⟩ := kind_str hk
    have hl := hl s rfl
    show wpSs _ BK.f_is_name.body _ _ _ _ _
    simp only [BK.f_is_name, w_cons, w_ite]
    simp [initV, isinstV, hk, p_lens, p_range, p_range2, p_lenr, p_listr, p_allr, hl, hg, w_nil, v_0, x_lit, x_var, x_bin, x_neg, x_not, x_ao, x_ite, x_cmp, x_cmp2, x_sub, x_slice, x_glob, x_call, x_prim, x_bm, x_isi, x_list, x_tup, x_dict0, xs_nil, xs_cons, ao_one, ao_cons, xo_none, xo_some, xc_none, xc_some, tv, tsub, tattr, wtg, b_add, b_sub, b_mul, b_div, b_mod, b_pow, b_adds, c_lt, c_le, c_gt, c_ge, c_eq, c_ne, c_eqs, c_nes, c_in, c_nin, t_bool, t_int, t_none]
    by_cases a : (1 : Int) ≤ s.length
    · by_cases b : (s.length : Int) ≤ 12
      · simp only [a, b, if_true]
        refine signs rfl (fun V H Q E => by simp [hg2, v_0, x_lit, x_var, x_bin, x_neg, x_not, x_ao, x_ite, x_cmp, x_cmp2, x_sub, x_slice, x_glob, x_call, x_prim, x_bm, x_isi, x_list, x_tup, x_dict0, xs_nil, xs_cons, ao_one, ao_cons, xo_none, xo_some, xc_none, xc_some, tv, tsub, tattr, wtg, b_add, b_sub, b_mul, b_div, b_mod, b_pow, b_adds, c_lt, c_le, c_gt, c_ge, c_eq, c_ne, c_eqs, c_nes, c_in, c_nin, t_bool, t_int, t_none]) rfl (fun h a' => ?_) (fun h => ?_)
        · simp [w_ret, v_0, x_lit, x_var, x_bin, x_neg, x_not, x_ao, x_ite, x_cmp, x_cmp2, x_sub, x_slice, x_glob, x_call, x_prim, x_bm, x_isi, x_list, x_tup, x_dict0, xs_nil, xs_cons, ao_one, ao_cons, xo_none, xo_some, xc_none, xc_some, tv, tsub, tattr, wtg, b_add, b_sub, b_mul, b_div, b_mod, b_pow, b_adds, c_lt, c_le, c_gt, c_ge, c_eq, c_ne, c_eqs, c_nes, c_in, c_nin, t_bool, t_int, t_none]
          have : nameB (.str s) = true := by simp only [nameB, isNm, h]; simp; omega
          rw [this] at q; exact q
        · have : nameB (.str s) = false := by simp only [nameB, isNm, h]; simp
          rw [this] at q; exact q
      · simp [a, b, w_ret, v_0, x_lit, x_var, x_bin, x_neg, x_not, x_ao, x_ite, x_cmp, x_cmp2, x_sub, x_slice, x_glob, x_call, x_prim, x_bm, x_isi, x_list, x_tup, x_dict0, xs_nil, xs_cons, ao_one, ao_cons, xo_none, xo_some, xc_none, xc_some, tv, tsub, tattr, wtg, b_add, b_sub, b_mul, b_div, b_mod, b_pow, b_adds, c_lt, c_le, c_gt, c_ge, c_eq, c_ne, c_eqs, c_nes, c_in, c_nin, t_bool, t_int, t_none]
        have : nameB (.str s) = false := by simp [nameB, isNm]; omega
        rw [this] at q; exact q
    · simp [a, w_ret, v_0, x_lit, x_var, x_bin, x_neg, x_not, x_ao, x_ite, x_cmp, x_cmp2, x_sub, x_slice, x_glob, x_call, x_prim, x_bm, x_isi, x_list, x_tup, x_dict0, xs_nil, xs_cons, ao_one, ao_cons, xo_none, xo_some, xc_none, xc_some, tv, tsub, tattr, wtg, b_add, b_sub, b_mul, b_div, b_mod, b_pow, b_adds, c_lt, c_le, c_gt, c_ge, c_eq, c_ne, c_eqs, c_nes, c_in, c_nin, t_bool, t_int, t_none]
      have : nameB (.str s) = false := by simp [nameB, isNm]; omega
      rw [this] at q; exact q
  · simp only [BK.f_is_name, w_cons, w_ite]
    have e1 : (k == "str") = false := by simpa using hks
    dsimp [v_0, x_lit, x_var, x_bin, x_neg, x_not, x_ao, x_ite, x_cmp, x_cmp2, x_sub, x_slice, x_glob, x_call, x_prim, x_bm, x_isi, x_list, x_tup, x_dict0, xs_nil, xs_cons, ao_one, ao_cons, xo_none, xo_some, xc_none, xc_some, tv, tsub, tattr, wtg, b_add, b_sub, b_mul, b_div, b_mod, b_pow, b_adds, c_lt, c_le, c_gt, c_ge, c_eq, c_ne, c_eqs, c_nes, c_in, c_nin, t_bool, t_int, t_none]; simp [initV, isinstV, hk, e1, w_nil, w_ret, w_cons, v_0, x_lit, x_var, x_bin, x_neg, x_not, x_ao, x_ite, x_cmp, x_cmp2, x_sub, x_slice, x_glob, x_call, x_prim, x_bm, x_isi, x_list, x_tup, x_dict0, xs_nil, xs_cons, ao_one, ao_cons, xo_none, xo_some, xc_none, xc_some, tv, tsub, tattr, wtg, b_add, b_sub, b_mul, b_div, b_mod, b_pow, b_adds, c_lt, c_le, c_gt, c_ge, c_eq, c_ne, c_eqs, c_nes, c_in, c_nin, t_bool, t_int, t_none]
    rw [name_not hk hks] at q
    exact q
set_option tactic.hygienic false in
theorem name_ok {v : AV} (hk : Kn H v) (q : if nameB v then Q v H else E "NoName" H) : CallOK c (n + 2) true "name_of" [v] Q E H := by
  refine G.call (F := BK.f_name_of) U.name_of rfl ?_
  dsimp [BK.f_name_of, initV, v_0, x_lit, x_var, x_bin, x_neg, x_not, x_ao, x_ite, x_cmp, x_cmp2, x_sub, x_slice, x_glob, x_call, x_prim, x_bm, x_isi, x_list, x_tup, x_dict0, xs_nil, xs_cons, ao_one, ao_cons, xo_none, xo_some, xc_none, xc_some, tv, tsub, tattr, wtg, b_add, b_sub, b_mul, b_div, b_mod, b_pow, b_adds, c_lt, c_le, c_gt, c_ge, c_eq, c_ne, c_eqs, c_nes, c_in, c_nin, t_bool, t_int, t_none, w_cons, w_nil, w_ite, w_ret, w_asg, s_expr', s_raise']
  refine is_name_ok G U hk ?_
  cases h : nameB v <;> simp [h, v_0, x_lit, x_var, x_bin, x_neg, x_not, x_ao, x_ite, x_cmp, x_cmp2, x_sub, x_slice, x_glob, x_call, x_prim, x_bm, x_isi, x_list, x_tup, x_dict0, xs_nil, xs_cons, ao_one, ao_cons, xo_none, xo_some, xc_none, xc_some, tv, tsub, tattr, wtg, b_add, b_sub, b_mul, b_div, b_mod, b_pow, b_adds, c_lt, c_le, c_gt, c_ge, c_eq, c_ne, c_eqs, c_nes, c_in, c_nin, t_bool, t_int, t_none, w_cons, w_nil, w_ite, w_ret, w_asg, s_expr', s_raise'] at q ⊢ <;> exact q
set_option tactic.hygienic false in
theorem is_whole_ok {v : AV} (hk : Kn H v) (q : Q (.bool (wholeB v)) H) : CallOK c (n + 1) md "is_whole" [v] Q E H := by
  obtain ⟨⟨k, hk⟩, _⟩ := hk
  refine G.call (F := BK.f_is_whole) U.is_whole rfl ?_
  have : ∀ k, vkind H v = some k → (k = "int" ∧ wholeB v = true) ∨ (k ≠ "int" ∧ wholeB v = false) := by
    intro k hk
    cases v with
    | ref a => right; simp only [vkind] at hk; split at hk <;> simp at hk <;> subst hk <;> exact ⟨by decide, rfl⟩
    | _ => simp [vkind] at hk; subst hk; first | exact .inl ⟨rfl, rfl⟩ | exact .inr ⟨by decide, rfl⟩
  rcases this k hk with ⟨rfl, h⟩ | ⟨h1, h2⟩
  · rw [h] at q
    simp [BK.f_is_whole, initV, isinstV, hk, v_0, x_lit, x_var, x_bin, x_neg, x_not, x_ao, x_ite, x_cmp, x_cmp2, x_sub, x_slice, x_glob, x_call, x_prim, x_bm, x_isi, x_list, x_tup, x_dict0, xs_nil, xs_cons, ao_one, ao_cons, xo_none, xo_some, xc_none, xc_some, tv, tsub, tattr, wtg, b_add, b_sub, b_mul, b_div, b_mod, b_pow, b_adds, c_lt, c_le, c_gt, c_ge, c_eq, c_ne, c_eqs, c_nes, c_in, c_nin, t_bool, t_int, t_none, w_cons, w_nil, w_ite, w_ret, w_asg, s_expr', s_raise']
    exact q
  · rw [h2] at q
    have e1 : (k == "int") = false := by simpa using h1
    by_cases hb : k = "bool"
    · subst hb
      simp [BK.f_is_whole, initV, isinstV, hk, v_0, x_lit, x_var, x_bin, x_neg, x_not, x_ao, x_ite, x_cmp, x_cmp2, x_sub, x_slice, x_glob, x_call, x_prim, x_bm, x_isi, x_list, x_tup, x_dict0, xs_nil, xs_cons, ao_one, ao_cons, xo_none, xo_some, xc_none, xc_some, tv, tsub, tattr, wtg, b_add, b_sub, b_mul, b_div, b_mod, b_pow, b_adds, c_lt, c_le, c_gt, c_ge, c_eq, c_ne, c_eqs, c_nes, c_in, c_nin, t_bool, t_int, t_none, w_cons, w_nil, w_ite, w_ret, w_asg, s_expr', s_raise']
      exact q
    · have e2 : (k == "bool") = false := by simpa using hb
      simp [BK.f_is_whole, initV, isinstV, hk, e1, e2, v_0, x_lit, x_var, x_bin, x_neg, x_not, x_ao, x_ite, x_cmp, x_cmp2, x_sub, x_slice, x_glob, x_call, x_prim, x_bm, x_isi, x_list, x_tup, x_dict0, xs_nil, xs_cons, ao_one, ao_cons, xo_none, xo_some, xc_none, xc_some, tv, tsub, tattr, wtg, b_add, b_sub, b_mul, b_div, b_mod, b_pow, b_adds, c_lt, c_le, c_gt, c_ge, c_eq, c_ne, c_eqs, c_nes, c_in, c_nin, t_bool, t_int, t_none, w_cons, w_nil, w_ite, w_ret, w_asg, s_expr', s_raise']
      exact q
set_option tactic.hygienic false in
theorem amount_ok {v : AV} (hk : Kn H v) (q : if amountB v then Q v H else E "NoAmount" H) : CallOK c (n + 2) true "amount_of" [v] Q E H := by
  refine G.call (F := BK.f_amount_of) U.amount_of rfl ?_
  have hg : c.P.consts.lookup "MOST_AMOUNT" = some (.int 1000000000000000000000000000000) := by rw [G.hP, U.consts]; rfl
  simp [BK.f_amount_of, initV, v_0, x_lit, x_var, x_bin, x_neg, x_not, x_ao, x_ite, x_cmp, x_cmp2, x_sub, x_slice, x_glob, x_call, x_prim, x_bm, x_isi, x_list, x_tup, x_dict0, xs_nil, xs_cons, ao_one, ao_cons, xo_none, xo_some, xc_none, xc_some, tv, tsub, tattr, wtg, b_add, b_sub, b_mul, b_div, b_mod, b_pow, b_adds, c_lt, c_le, c_gt, c_ge, c_eq, c_ne, c_eqs, c_nes, c_in, c_nin, t_bool, t_int, t_none, w_cons, w_nil, w_ite, w_ret, w_asg, s_expr', s_raise']
  refine is_whole_ok G U hk ?_
  cases v with
  | int i =>
    dsimp [v_0, x_lit, x_var, x_bin, x_neg, x_not, x_ao, x_ite, x_cmp, x_cmp2, x_sub, x_slice, x_glob, x_call, x_prim, x_bm, x_isi, x_list, x_tup, x_dict0, xs_nil, xs_cons, ao_one, ao_cons, xo_none, xo_some, xc_none, xc_some, tv, tsub, tattr, wtg, b_add, b_sub, b_mul, b_div, b_mod, b_pow, b_adds, c_lt, c_le, c_gt, c_ge, c_eq, c_ne, c_eqs, c_nes, c_in, c_nin, t_bool, t_int, t_none, w_cons, w_nil, w_ite, w_ret, w_asg, s_expr', s_raise']; simp [wholeB, hg, v_0, x_lit, x_var, x_bin, x_neg, x_not, x_ao, x_ite, x_cmp, x_cmp2, x_sub, x_slice, x_glob, x_call, x_prim, x_bm, x_isi, x_list, x_tup, x_dict0, xs_nil, xs_cons, ao_one, ao_cons, xo_none, xo_some, xc_none, xc_some, tv, tsub, tattr, wtg, b_add, b_sub, b_mul, b_div, b_mod, b_pow, b_adds, c_lt, c_le, c_gt, c_ge, c_eq, c_ne, c_eqs, c_nes, c_in, c_nin, t_bool, t_int, t_none, w_cons, w_nil, w_ite, w_ret, w_asg, s_expr', s_raise']
    by_cases a : 1 ≤ i
    · by_cases b : i ≤ 1000000000000000000000000000000
      · simp [amountB, a, b] at q ⊢; exact q
      · simp [amountB, a, b] at q ⊢; exact q
    · simp [amountB, a] at q ⊢; exact q
  | _ => dsimp only [v_0, x_lit, x_var, x_bin, x_neg, x_not, x_ao, x_ite, x_cmp, x_cmp2, x_sub, x_slice, x_glob, x_call, x_prim, x_bm, x_isi, x_list, x_tup, x_dict0, xs_nil, xs_cons, ao_one, ao_cons, xo_none, xo_some, xc_none, xc_some, tv, tsub, tattr, wtg, b_add, b_sub, b_mul, b_div, b_mod, b_pow, b_adds, c_lt, c_le, c_gt, c_ge, c_eq, c_ne, c_eqs, c_nes, c_in, c_nin, t_bool, t_int, t_none, w_cons, w_nil, w_ite, w_ret, w_asg, s_expr', s_raise'] at q ⊢; exact q
end
end Mine

end
section
open PySem PySem.W PyProof.Rows PySem.Spec PySem.SeqAt PySem.Calls
namespace Mine

set_option tactic.hygienic false in
theorem look_dI {l : List (Str × Int)} {k : Str} : lookS (dI l) k = (lk l k).map .int := by
  induction l with
  | nil => rfl
  | cons e r ih =>
    unfold lookS lk dI at *
    simp only [List.map_cons, List.find?_cons]
    by_cases h : e.1 = k
    · simp [h]
    · simp [h]; simpa using ih
set_option tactic.hygienic false in
theorem put_dI {l : List (Str × Int)} {k : Str} {i : Int} : putS (dI l) k (.int i) = dI (pt l k i) := by
  unfold putS pt
  rw [look_dI, Option.isSome_map]
  split
  · unfold dI
    rw [List.map_map, List.map_map]
    congr 1
    funext e
    simp only [Function.comp]
    split <;> rfl
  · simp [dI]
set_option tactic.hygienic false in
theorem dI_len {l : List (Str × Int)} : (dI l).length = l.length := by simp [dI]
noncomputable def hs (l : List (Str × Int)) (k : Str) : Bool := (lk l k).isSome
set_option tactic.hygienic false in
theorem lk_get {l : List (Str × Int)} {k : Str} (h : hs l k = true) : lk l k = some ((lk l k).getD 0) := by
  unfold hs at h
  cases e : lk l k with
  | none => rw [e] at h; cases h
  | some => rfl

set_option tactic.hygienic false in
theorem ne_role {o : Addr → Option Role} {a b : Addr} {r r' : Role} (h1 : o a = some r) (h2 : o b = some r') (h : r ≠ r') : a ≠ b := fun e => by subst e; rw [h1] at h2; cases h2; exact h rfl
set_option tactic.hygienic false in
theorem up_fr {o : Addr → Option Role} {H : AHeap} {x : Addr} {y : AObj} (hx : o x ≠ none) : Fr1 o H o (up H x y) := ⟨fun a z h k => ⟨by rw [up_other (fun q => by subst q; exact hx k)]; exact h, k⟩⟩
set_option tactic.hygienic false in
theorem kb_up {P : Role → Prop} {o : Addr → Option Role} {H : AHeap} {x : Addr} {y : AObj} (hx : ∀ r, o x = some r → ¬ P r) : KB P o o H (up H x y) := fun a r z hp ho hz _ => ⟨ho, by rw [up_other (fun q => by subst q; exact hx r ho hp)]; exact hz⟩
noncomputable def Role.isP : Role → Prop
  | .data => True
  | .pact _ => True
  | .inside _ => True
  | _ => False
section
variable {o : Addr → Option Role} {H : AHeap} {b f s p : Addr} {as : List Addr} {B : Bk} (ib : IsBook o H b f s p as B)
include ib
set_option tactic.hygienic false in
theorem IsBook.setFree (ep : Nat) (l : List (Str × Int)) : IsBook o (up H f (.dict ep (dI l))) b f s p as { B with free := l } :=
  ⟨ib.ob, ib.of, ib.os, ib.op, by rw [up_other (ne_role ib.ob ib.of (by intro h; cases h))]; exact ib.hb, ⟨ep, up_same⟩,
    by rw [up_other (ne_role ib.os ib.of (by intro h; cases h))]; exact ib.hs, by rw [up_other (ne_role ib.op ib.of (by intro h; cases h))]; exact ib.hp,
    ib.ps.congr (P := Role.isP) (kb_up fun r h => by rw [ib.of] at h; cases h; exact id) trivial fun _ _ => ⟨trivial, trivial⟩⟩
set_option tactic.hygienic false in
theorem IsBook.setAside (ep : Nat) (l : List (Str × Int)) : IsBook o (up H s (.dict ep (dI l))) b f s p as { B with aside := l } :=
  ⟨ib.ob, ib.of, ib.os, ib.op, by rw [up_other (ne_role ib.ob ib.os (by intro h; cases h))]; exact ib.hb, by rw [up_other (ne_role ib.of ib.os (by intro h; cases h))]; exact ib.hf,
    ⟨ep, up_same⟩, by rw [up_other (ne_role ib.op ib.os (by intro h; cases h))]; exact ib.hp,
    ib.ps.congr (P := Role.isP) (kb_up fun r h => by rw [ib.os] at h; cases h; exact id) trivial fun _ _ => ⟨trivial, trivial⟩⟩
end

noncomputable def purseB (B : Bk) : AV → Bool
  | .str k => isNm k && hs B.free k
  | _ => false
section
variable {c : Cx} {P : Pg} (G : Gd c P) (U : HasA P) {n : Nat} {md : Bool} {Q : AV → AHeap → Prop} {E : String → AHeap → Prop} {H : AHeap} {o : Addr → Option Role} {b f s p : Addr} {as : List Addr} {B : Bk}

section
variable {g : Gx} {V : VV} (ib : IsBook o H b f s p as B)
set_option tactic.hygienic false in
theorem at_free {i : Nat} (hP : g.c.P.attrs = BK.attrs) (ib : IsBook o H b f s p as B) (hV : V[i]? = some (some (.ref b))) (q : Q (.ref f) H) : wpX g (.attr (.var i) "free") V Q E H := by
  simp only [x_attr, x_meth, x_var, hV, ib.hb]
  exact ⟨by rw [hP]; rfl, q⟩
set_option tactic.hygienic false in
theorem at_aside {i : Nat} (hP : g.c.P.attrs = BK.attrs) (ib : IsBook o H b f s p as B) (hV : V[i]? = some (some (.ref b))) (q : Q (.ref s) H) : wpX g (.attr (.var i) "aside") V Q E H := by
  simp only [x_attr, x_meth, x_var, hV, ib.hb]
  exact ⟨by rw [hP]; rfl, q⟩
set_option tactic.hygienic false in
theorem at_pacts {i : Nat} (hP : g.c.P.attrs = BK.attrs) (ib : IsBook o H b f s p as B) (hV : V[i]? = some (some (.ref b))) (q : Q (.ref p) H) : wpX g (.attr (.var i) "pacts") V Q E H := by
  simp only [x_attr, x_meth, x_var, hV, ib.hb]
  exact ⟨by rw [hP]; rfl, q⟩
set_option tactic.hygienic false in
theorem at_meth {i : Nat} {m : String} {xs : List X} (hP : g.c.P.meths = BK.meths) (hm : BK.meths.contains ("Book", m) = true) (hn : bookAttrs.contains m = false) (ib : IsBook o H b f s p as B) (hV : V[i]? = some (some (.ref b)))
    (q : wpXs g xs V (fun vs H => CallOK g.c g.n g.md ("Book." ++ m) (.ref b :: vs) Q E H) E H) : wpX g (.meth (.var i) m xs) V Q E H := by
  simp only [x_attr, x_meth, x_var, hV, ib.hb]
  refine ⟨by rw [hP]; exact hm, ?_, q⟩
  simp only [bookAttrs, List.contains_cons, List.contains_nil, Bool.or_false, Bool.or_eq_false_iff, beq_eq_false_iff_ne] at hn
  obtain ⟨n1, n2, n3, n4⟩ := hn
  simp [lookA, n1.symm, n2.symm, n3.symm, n4.symm]
set_option tactic.hygienic false in
theorem sub_free {k : Str} {v : Int} (ib : IsBook o H b f s p as B) (h : lk B.free k = some v) (q : Q (.int v) H) : wsub (.ref f) (.str k) Q H := by
  obtain ⟨ep, hf⟩ := ib.hf
  simp only [sub_ri, sub_rs, sub_si, hf]
  exact ⟨.int v, by rw [look_dI, h]; rfl, q⟩
set_option tactic.hygienic false in
theorem sub_aside {k : Str} {v : Int} (ib : IsBook o H b f s p as B) (h : lk B.aside k = some v) (q : Q (.int v) H) : wsub (.ref s) (.str k) Q H := by
  obtain ⟨ep, hf⟩ := ib.hs
  simp only [sub_ri, sub_rs, sub_si, hf]
  exact ⟨.int v, by rw [look_dI, h]; rfl, q⟩
set_option tactic.hygienic false in
theorem in_free {k : Str} {no : Bool} (ib : IsBook o H b f s p as B) (q : Q (.bool (hs B.free k != no)) H) : win no (.str k) (.ref f) Q H := by
  obtain ⟨ep, hf⟩ := ib.hf
  simp only [in_ref, in_strv, hf]
  rw [look_dI, Option.isSome_map, ← nt_eq]
  exact q
end

include G U
set_option tactic.hygienic false in
theorem need_purse_ok {v : AV} (ib : IsBook o H b f s p as B) (hk : Kn H v) (q : if purseB B v then Q .none H else E "NoPurse" H) : CallOK c (n + 2) true "Book.need_purse" [.ref b, v] Q E H := by
  refine G.call (F := BK.f_Book_need_purse) U.need_purse rfl ?_
  have hA : c.P.attrs = BK.attrs := by rw [G.hP, U.attrs]
  simp only [BK.f_Book_need_purse, initV, v_0, x_lit, x_var, x_bin, x_neg, x_not, x_ao, x_ite, x_cmp, x_cmp2, x_sub, x_slice, x_glob, x_call, x_prim, x_bm, x_isi, x_list, x_tup, x_dict0, xs_nil, xs_cons, ao_one, ao_cons, xo_none, xo_some, xc_none, xc_some, tv, tsub, tattr, wtg, b_add, b_sub, b_mul, b_div, b_mod, b_pow, b_adds, c_lt, c_le, c_gt, c_ge, c_eq, c_ne, c_eqs, c_nes, c_in, c_nin, t_bool, t_int, t_none, w_cons, w_nil, w_ite, w_ret, w_asg, s_expr', s_raise']
  simp
  refine is_name_ok G U hk ?_
  cases hn : nameB v with
  | false =>
    have : purseB B v = false := by cases v <;> first | rfl | (simp only [nameB] at hn; simp [purseB, hn])
    rw [this] at q
    simpa [v_0, x_lit, x_var, x_bin, x_neg, x_not, x_ao, x_ite, x_cmp, x_cmp2, x_sub, x_slice, x_glob, x_call, x_prim, x_bm, x_isi, x_list, x_tup, x_dict0, xs_nil, xs_cons, ao_one, ao_cons, xo_none, xo_some, xc_none, xc_some, tv, tsub, tattr, wtg, b_add, b_sub, b_mul, b_div, b_mod, b_pow, b_adds, c_lt, c_le, c_gt, c_ge, c_eq, c_ne, c_eqs, c_nes, c_in, c_nin, t_bool, t_int, t_none, w_cons, w_nil, w_ite, w_ret, w_asg, s_expr', s_raise'] using q
  | true =>
    cases v with
    | str k =>
      simp only [nameB] at hn
      simp [v_0, x_lit, x_var, x_bin, x_neg, x_not, x_ao, x_ite, x_cmp, x_cmp2, x_sub, x_slice, x_glob, x_call, x_prim, x_bm, x_isi, x_list, x_tup, x_dict0, xs_nil, xs_cons, ao_one, ao_cons, xo_none, xo_some, xc_none, xc_some, tv, tsub, tattr, wtg, b_add, b_sub, b_mul, b_div, b_mod, b_pow, b_adds, c_lt, c_le, c_gt, c_ge, c_eq, c_ne, c_eqs, c_nes, c_in, c_nin, t_bool, t_int, t_none]
      refine at_free hA ib rfl (in_free ib ?_)
      cases hh : hs B.free k with
      | true => simp [purseB, hn, hh, t_bool] at q ⊢; exact q
      | false => simp [purseB, hn, hh, t_bool, s_raise'] at q ⊢; exact q
    | _ => cases hn
end
end Mine

end
section
open PySem PySem.W PyProof.Rows PySem.Spec PySem.SeqAt PySem.Calls
namespace Mine
noncomputable def keyOf : AV → Str
  | .str k => k
  | _ => default
noncomputable def intOf : AV → Int
  | .int i => i
  | _ => 0
noncomputable def openQ (B : Bk) (v : AV) : Except String Bk :=
  if nameB v then (if hs B.free (keyOf v) then .error "Taken" else .ok { B with free := pt B.free (keyOf v) 0, aside := pt B.aside (keyOf v) 0 }) else .error "NoName"
noncomputable def freeOf (B : Bk) (v : AV) : Int := (lk B.free (keyOf v)).getD 0
noncomputable def asideOf (B : Bk) (v : AV) : Int := (lk B.aside (keyOf v)).getD 0
noncomputable def putQ (B : Bk) (v a : AV) : Except String Bk :=
  if purseB B v then (if amountB a then .ok { B with free := pt B.free (keyOf v) (freeOf B v + intOf a) } else .error "NoAmount") else .error "NoPurse"
noncomputable def takeQ (B : Bk) (v a : AV) : Except String Bk :=
  if purseB B v then (if amountB a then (if freeOf B v < intOf a then .error "TooLittle" else .ok { B with free := pt B.free (keyOf v) (freeOf B v - intOf a) }) else .error "NoAmount") else .error "NoPurse"
set_option tactic.hygienic false in
theorem name_key {v : AV} (h : nameB v = true) : v = .str (keyOf v) := by cases v <;> first | rfl | cases h
set_option tactic.hygienic false in
theorem purse_name {B : Bk} {v : AV} (h : purseB B v = true) : v = .str (keyOf v) ∧ hs B.free (keyOf v) = true := by
  cases v with
  | str k => simp only [purseB, Bool.and_eq_true] at h; exact ⟨rfl, h.2⟩
  | _ => cases h
set_option tactic.hygienic false in
theorem amount_int {v : AV} (h : amountB v = true) : v = .int (intOf v) := by cases v <;> first | rfl | cases h
theorem purse_free {B : Bk} {v : AV} (h : purseB B v = true) : lk B.free (keyOf v) = some (freeOf B v) := lk_get (purse_name h).2
noncomputable def Bk.Sz (B : Bk) : Prop := B.free.length ≤ sizeLine ∧ B.aside.length ≤ sizeLine
noncomputable def Ends (r : Except String Bk) (q : Bk → Prop) (e : String → Prop) : Prop :=
  match r with
  | .ok B => q B
  | .error cl => e cl

section
variable {c : Cx} {P : Pg} (G : Gd c P) (U : HasA P) {n : Nat} {md : Bool} {Q : AV → AHeap → Prop} {E : String → AHeap → Prop} {H : AHeap} {o : Addr → Option Role} {b f s p : Addr} {as : List Addr} {B : Bk}
section
variable {g : Gx} {V : VV} {QN : VV → AHeap → Prop}
set_option tactic.hygienic false in
theorem st_free {i j : Nat} {k : Str} {x : Int} (hP : g.c.P.attrs = BK.attrs) (ib : IsBook o H b f s p as B) (hl : B.free.length ≤ sizeLine) (hV : V[i]? = some (some (.ref b))) (hj : V[j]? = some (some (.str k)))
    (q : ∀ H', IsBook o H' b f s p as { B with free := pt B.free k x } → Fr1 o H o H' → QN V H') : wpT g (.sub (.attr (.var i) "free") (.var j)) (.int x) V QN E H := by
  rw [tsub]
  refine at_free hP ib hV ?_
  obtain ⟨ep, hf⟩ := ib.hf
  simp only [x_var, hj, hf]
  refine ⟨by rw [dI_len]; exact hl, fun ep' => ?_⟩
  rw [put_dI]
  exact q _ (ib.setFree ep' _) (up_fr (by rw [ib.of]; simp))
set_option tactic.hygienic false in
theorem st_aside {i j : Nat} {k : Str} {x : Int} (hP : g.c.P.attrs = BK.attrs) (ib : IsBook o H b f s p as B) (hl : B.aside.length ≤ sizeLine) (hV : V[i]? = some (some (.ref b))) (hj : V[j]? = some (some (.str k)))
    (q : ∀ H', IsBook o H' b f s p as { B with aside := pt B.aside k x } → Fr1 o H o H' → QN V H') : wpT g (.sub (.attr (.var i) "aside") (.var j)) (.int x) V QN E H := by
  rw [tsub]
  refine at_aside hP ib hV ?_
  obtain ⟨ep, hf⟩ := ib.hs
  simp only [x_var, hj, hf]
  refine ⟨by rw [dI_len]; exact hl, fun ep' => ?_⟩
  rw [put_dI]
  exact q _ (ib.setAside ep' _) (up_fr (by rw [ib.os]; simp))
end
include G U
set_option tactic.hygienic false in
theorem open_raw {v : AV} (ib : IsBook o H b f s p as B) (hk : Kn H v) (hz : B.Sz) (q : Ends (openQ B v) (fun B' => ∀ H', IsBook o H' b f s p as B' → Fr1 o H o H' → Q .none H') (fun cl => E cl H)) : CallOK c (n + 3) true "Book.open_purse" [.ref b, v] Q E H := by
  refine G.call (F := BK.f_Book_open_purse) U.open_purse rfl ?_
  have hA : c.P.attrs = BK.attrs := by rw [G.hP, U.attrs]
  dsimp only [BK.f_Book_open_purse, initV, v_0, x_lit, x_var, x_bin, x_neg, x_not, x_ao, x_ite, x_cmp, x_cmp2, x_sub, x_slice, x_glob, x_call, x_prim, x_bm, x_isi, x_list, x_tup, x_dict0, xs_nil, xs_cons, ao_one, ao_cons, xo_none, xo_some, xc_none, xc_some, tv, wtg, b_add, b_sub, b_mul, b_div, b_mod, b_pow, b_adds, c_lt, c_le, c_gt, c_ge, c_eq, c_ne, c_eqs, c_nes, c_in, c_nin, t_bool, t_int, t_none, w_cons, w_nil, w_ite, w_ret, w_asg, s_expr', s_raise']
  simp
  refine name_ok G U hk ?_
  unfold openQ at q
  cases hn : nameB v with
  | false => simp [hn, Ends] at q ⊢; exact q
  | true =>
    obtain ⟨k, rfl⟩ : ∃ k, v = .str k := ⟨_, name_key hn⟩
    simp only [hn, if_true, keyOf] at q ⊢
    refine at_free hA ib rfl (in_free ib ?_)
    cases hh : hs B.free k with
    | true => simp [hh, Ends, t_bool, s_raise'] at q ⊢; exact q
    | false =>
      simp [hh, Ends, t_bool] at q ⊢
      refine st_free (k := k) hA ib hz.1 ?_ ?_ fun H1 ib1 f1 => ?_
      · rfl
      · rfl
      refine st_aside (k := k) hA ib1 hz.2 ?_ ?_ fun H2 ib2 f2 => ?_
      · rfl
      · rfl
      exact q H2 ib2 (f1.trans f2)
set_option tactic.hygienic false in
theorem put_raw {v a : AV} (hput : P.fns.lookup "Book.put" = some BK.f_Book_put) (ib : IsBook o H b f s p as B) (hk : Kn H v) (hka : Kn H a) (hz : B.Sz) (q : Ends (putQ B v a) (fun B' => ∀ H', IsBook o H' b f s p as B' → Fr1 o H o H' → Q .none H') (fun cl => E cl H)) : CallOK c (n + 3) true "Book.put" [.ref b, v, a] Q E H := by
  refine G.call (F := BK.f_Book_put) hput rfl ?_
  have hA : c.P.attrs = BK.attrs := by rw [G.hP, U.attrs]
  have hM : c.P.meths = BK.meths := by rw [G.hP, U.meths]
  simp only [BK.f_Book_put, initV, v_0, x_lit, x_var, x_bin, x_neg, x_not, x_ao, x_ite, x_cmp, x_cmp2, x_sub, x_slice, x_glob, x_call, x_prim, x_bm, x_isi, x_list, x_tup, x_dict0, xs_nil, xs_cons, ao_one, ao_cons, xo_none, xo_some, xc_none, xc_some, tv, wtg, b_add, b_sub, b_mul, b_div, b_mod, b_pow, b_adds, c_lt, c_le, c_gt, c_ge, c_eq, c_ne, c_eqs, c_nes, c_in, c_nin, t_bool, t_int, t_none, w_cons, w_nil, w_ite, w_ret, w_asg, s_expr', s_raise']
  refine at_meth hM (by decide) (by decide) ib rfl ?_
  dsimp only [v_0, x_lit, x_var, x_bin, x_neg, x_not, x_ao, x_ite, x_cmp, x_cmp2, x_sub, x_slice, x_glob, x_call, x_prim, x_bm, x_isi, x_list, x_tup, x_dict0, xs_nil, xs_cons, ao_one, ao_cons, xo_none, xo_some, xc_none, xc_some, tv, wtg, b_add, b_sub, b_mul, b_div, b_mod, b_pow, b_adds, c_lt, c_le, c_gt, c_ge, c_eq, c_ne, c_eqs, c_nes, c_in, c_nin, t_bool, t_int, t_none]
  refine need_purse_ok G U ib hk ?_
  unfold putQ at q
  cases hp : purseB B v with
  | false => simp [hp, Ends] at q ⊢; exact q
  | true =>
    have hf := purse_free hp
    obtain ⟨k, rfl⟩ : ∃ k, v = .str k := ⟨_, (purse_name hp).1⟩
    simp only [hp, if_true] at q ⊢
    refine at_free hA ib rfl (sub_free ib hf ?_)
    refine amount_ok G U hka ?_
    cases ha : amountB a with
    | false => simp [ha, Ends] at q ⊢; exact q
    | true =>
      obtain ⟨i, rfl⟩ : ∃ i, a = .int i := ⟨_, amount_int ha⟩
      simp only [ha, if_true, Ends, v_0, x_lit, x_var, x_bin, x_neg, x_not, x_ao, x_ite, x_cmp, x_cmp2, x_sub, x_slice, x_glob, x_call, x_prim, x_bm, x_isi, x_list, x_tup, x_dict0, xs_nil, xs_cons, ao_one, ao_cons, xo_none, xo_some, xc_none, xc_some, tv, wtg, b_add, b_sub, b_mul, b_div, b_mod, b_pow, b_adds, c_lt, c_le, c_gt, c_ge, c_eq, c_ne, c_eqs, c_nes, c_in, c_nin, t_bool, t_int, t_none] at q ⊢
      refine st_free (k := k) hA ib hz.1 ?_ ?_ fun H1 ib1 f1 => ?_
      · rfl
      · rfl
      exact q H1 ib1 f1
set_option tactic.hygienic false in
theorem take_raw {v a : AV} (htake : P.fns.lookup "Book.take" = some BK.f_Book_take) (ib : IsBook o H b f s p as B) (hk : Kn H v) (hka : Kn H a) (hz : B.Sz) (q : Ends (takeQ B v a) (fun B' => ∀ H', IsBook o H' b f s p as B' → Fr1 o H o H' → Q .none H') (fun cl => E cl H)) : CallOK c (n + 3) true "Book.take" [.ref b, v, a] Q E H := by
  refine G.call (F := BK.f_Book_take) htake rfl ?_
  have hA : c.P.attrs = BK.attrs := by rw [G.hP, U.attrs]
  have hM : c.P.meths = BK.meths := by rw [G.hP, U.meths]
  dsimp only [BK.f_Book_take, initV, v_0, x_lit, x_var, x_bin, x_neg, x_not, x_ao, x_ite, x_cmp, x_cmp2, x_sub, x_slice, x_glob, x_call, x_prim, x_bm, x_isi, x_list, x_tup, x_dict0, xs_nil, xs_cons, ao_one, ao_cons, xo_none, xo_some, xc_none, xc_some, tv, wtg, b_add, b_sub, b_mul, b_div, b_mod, b_pow, b_adds, c_lt, c_le, c_gt, c_ge, c_eq, c_ne, c_eqs, c_nes, c_in, c_nin, t_bool, t_int, t_none, w_cons, w_nil, w_ite, w_ret, w_asg, s_expr', s_raise']
  refine at_meth hM (by decide) (by decide) ib rfl ?_
  simp [v_0, x_lit, x_var, x_bin, x_neg, x_not, x_ao, x_ite, x_cmp, x_cmp2, x_sub, x_slice, x_glob, x_call, x_prim, x_bm, x_isi, x_list, x_tup, x_dict0, xs_nil, xs_cons, ao_one, ao_cons, xo_none, xo_some, xc_none, xc_some, tv, wtg, b_add, b_sub, b_mul, b_div, b_mod, b_pow, b_adds, c_lt, c_le, c_gt, c_ge, c_eq, c_ne, c_eqs, c_nes, c_in, c_nin, t_bool, t_int, t_none]
  refine need_purse_ok G U ib hk ?_
  unfold takeQ at q
  cases hp : purseB B v with
  | false => simp [hp, Ends] at q ⊢; exact q
  | true =>
    have hf := purse_free hp
    obtain ⟨k, rfl⟩ : ∃ k, v = .str k := ⟨_, (purse_name hp).1⟩
    simp only [hp, if_true] at q ⊢
    refine amount_ok G U hka ?_
    cases ha : amountB a with
    | false => simp [ha, Ends] at q ⊢; exact q
    | true =>
      obtain ⟨i, rfl⟩ : ∃ i, a = .int i := ⟨_, amount_int ha⟩
      simp only [ha, if_true] at q ⊢
      refine at_free hA ib rfl (sub_free ib hf ?_)
      dsimp only [keyOf, intOf, v_0, x_lit, x_var, x_bin, x_neg, x_not, x_ao, x_ite, x_cmp, x_cmp2, x_sub, x_slice, x_glob, x_call, x_prim, x_bm, x_isi, x_list, x_tup, x_dict0, xs_nil, xs_cons, ao_one, ao_cons, xo_none, xo_some, xc_none, xc_some, tv, wtg, b_add, b_sub, b_mul, b_div, b_mod, b_pow, b_adds, c_lt, c_le, c_gt, c_ge, c_eq, c_ne, c_eqs, c_nes, c_in, c_nin, t_bool, t_int, t_none] at q ⊢
      by_cases hlt : freeOf B (.str k) < i
      · simp [hlt, Ends, s_raise'] at q ⊢; exact q
      · simp [hlt, Ends, w_nil] at q ⊢
        refine at_free hA ib rfl (sub_free ib hf ?_)
        simp only [v_0, x_lit, x_var, x_bin, x_neg, x_not, x_ao, x_ite, x_cmp, x_cmp2, x_sub, x_slice, x_glob, x_call, x_prim, x_bm, x_isi, x_list, x_tup, x_dict0, xs_nil, xs_cons, ao_one, ao_cons, xo_none, xo_some, xc_none, xc_some, tv, wtg, b_add, b_sub, b_mul, b_div, b_mod, b_pow, b_adds, c_lt, c_le, c_gt, c_ge, c_eq, c_ne, c_eqs, c_nes, c_in, c_nin, t_bool, t_int, t_none]
        refine st_free (k := k) hA ib hz.1 ?_ ?_ fun H1 ib1 f1 => ?_
        · rfl
        · rfl
        exact q H1 ib1 f1
set_option tactic.hygienic false in
theorem freeOf_raw {v : AV} (ib : IsBook o H b f s p as B) (hk : Kn H v) (q : if purseB B v then Q (.int (freeOf B v)) H else E "NoPurse" H) : CallOK c (n + 3) true "Book.free_of" [.ref b, v] Q E H := by
  refine G.call (F := BK.f_Book_free_of) U.free_of rfl ?_
  have hA : c.P.attrs = BK.attrs := by rw [G.hP, U.attrs]
  have hM : c.P.meths = BK.meths := by rw [G.hP, U.meths]
  dsimp only [BK.f_Book_free_of, initV, v_0, x_lit, x_var, x_bin, x_neg, x_not, x_ao, x_ite, x_cmp, x_cmp2, x_sub, x_slice, x_glob, x_call, x_prim, x_bm, x_isi, x_list, x_tup, x_dict0, xs_nil, xs_cons, ao_one, ao_cons, xo_none, xo_some, xc_none, xc_some, tv, wtg, b_add, b_sub, b_mul, b_div, b_mod, b_pow, b_adds, c_lt, c_le, c_gt, c_ge, c_eq, c_ne, c_eqs, c_nes, c_in, c_nin, t_bool, t_int, t_none, w_cons, w_nil, w_ite, w_ret, w_asg, s_expr', s_raise']
  refine at_meth hM (by decide) (by decide) ib rfl ?_
  dsimp only [v_0, x_lit, x_var, x_bin, x_neg, x_not, x_ao, x_ite, x_cmp, x_cmp2, x_sub, x_slice, x_glob, x_call, x_prim, x_bm, x_isi, x_list, x_tup, x_dict0, xs_nil, xs_cons, ao_one, ao_cons, xo_none, xo_some, xc_none, xc_some, tv, wtg, b_add, b_sub, b_mul, b_div, b_mod, b_pow, b_adds, c_lt, c_le, c_gt, c_ge, c_eq, c_ne, c_eqs, c_nes, c_in, c_nin, t_bool, t_int, t_none]
  refine need_purse_ok G U ib hk ?_
  cases hp : purseB B v with
  | false => simp [hp] at q ⊢; exact q
  | true =>
    have hf := purse_free hp
    obtain ⟨k, rfl⟩ : ∃ k, v = .str k := ⟨_, (purse_name hp).1⟩
    simp only [hp, if_true] at q ⊢
    exact at_free hA ib rfl (sub_free ib hf q)
set_option tactic.hygienic false in
theorem asideOf_raw {v : AV} (ib : IsBook o H b f s p as B) (hk : Kn H v) (hs' : ∀ k, hs B.free k = true → hs B.aside k = true) (q : if purseB B v then Q (.int (asideOf B v)) H else E "NoPurse" H) : CallOK c (n + 3) true "Book.aside_of" [.ref b, v] Q E H := by
  refine G.call (F := BK.f_Book_aside_of) U.aside_of rfl ?_
  have hA : c.P.attrs = BK.attrs := by rw [G.hP, U.attrs]
  have hM : c.P.meths = BK.meths := by rw [G.hP, U.meths]
  dsimp only [BK.f_Book_aside_of, initV, v_0, x_lit, x_var, x_bin, x_neg, x_not, x_ao, x_ite, x_cmp, x_cmp2, x_sub, x_slice, x_glob, x_call, x_prim, x_bm, x_isi, x_list, x_tup, x_dict0, xs_nil, xs_cons, ao_one, ao_cons, xo_none, xo_some, xc_none, xc_some, tv, wtg, b_add, b_sub, b_mul, b_div, b_mod, b_pow, b_adds, c_lt, c_le, c_gt, c_ge, c_eq, c_ne, c_eqs, c_nes, c_in, c_nin, t_bool, t_int, t_none, w_cons, w_nil, w_ite, w_ret, w_asg, s_expr', s_raise']
  refine at_meth hM (by decide) (by decide) ib rfl ?_
  dsimp only [v_0, x_lit, x_var, x_bin, x_neg, x_not, x_ao, x_ite, x_cmp, x_cmp2, x_sub, x_slice, x_glob, x_call, x_prim, x_bm, x_isi, x_list, x_tup, x_dict0, xs_nil, xs_cons, ao_one, ao_cons, xo_none, xo_some, xc_none, xc_some, tv, wtg, b_add, b_sub, b_mul, b_div, b_mod, b_pow, b_adds, c_lt, c_le, c_gt, c_ge, c_eq, c_ne, c_eqs, c_nes, c_in, c_nin, t_bool, t_int, t_none]
  refine need_purse_ok G U ib hk ?_
  cases hp : purseB B v with
  | false => simp [hp] at q ⊢; exact q
  | true =>
    have hf := lk_get (hs' _ (purse_name hp).2)
    obtain ⟨k, rfl⟩ : ∃ k, v = .str k := ⟨_, (purse_name hp).1⟩
    simp only [hp, if_true] at q ⊢
    exact at_aside hA ib rfl (sub_aside ib hf q)
end
end Mine

end
section
open PySem PySem.W PyProof.Rows PySem.Spec PySem.SeqAt PySem.Calls
namespace Mine
set_option tactic.hygienic false in
theorem ne_up {H : AHeap} {a b : Addr} {o : AObj} (h : up H a o b = none) : a ≠ b := fun e => by subst e; rw [up_same] at h; cases h
set_option tactic.hygienic false in
theorem st_a {g : Gx} {V : VV} {K : VV → AHeap → Prop} {E : String → AHeap → Prop} {H : AHeap} {i : Nat} {n cl : String} {a : Addr} {es : List (String × AV)} {x : AV} (hV : V[i]? = some (some (.ref a))) (hP : g.c.P.attrs.contains (cl, n) = true) (h : H a = some (.inst cl es)) (hl : es.length ≤ 100) (q : K V (up H a (.inst cl (putA es n x)))) : wpT g (.attr (.var i) n) x V K E H := by
  rw [tattr, x_var, hV]
  show match H a with | some (.inst cl es) => _ | _ => False
  rw [h]; exact ⟨hP, hl, q⟩
set_option tactic.hygienic false in
theorem up_id {H : AHeap} {a : Addr} {x : AObj} (h : H a = some x) : up H a x = H := by
  funext b
  by_cases e : b = a
  · subst e; rw [up_same, h]
  · rw [up_other e]
set_option tactic.hygienic false in
theorem dP_keys {o : Addr → Option Role} {H : AHeap} : ∀ {i : Nat} {as : List Addr} {ps : List Pc}, pactsAt o H i as ps → ((dP ps as).map fun e => AV.str e.1) = ps.map fun e => .str e.name
  | _, [], [], _ => rfl
  | _, _ :: _, _ :: _, h => by simp only [dP, List.map_cons]; rw [dP_keys h.2]
section
variable {c : Cx} {P : Pg} (G : Gd c P) (U : HasA P) {n : Nat} {md : Bool} {Q : AV → AHeap → Prop} {E : String → AHeap → Prop} {H : AHeap} {b : Addr} {B : Bk}
set_option tactic.hygienic false in
theorem Kn.open {H₂ : AHeap} {v : AV} {o : Addr → Option Role} (hb : H b = some (.book B)) (hold : ∀ a x, H a = some x → a ≠ b → H₂ a = some x ∧ o a = none) (k : Kn H v) : Kn H₂ v := by
  obtain ⟨⟨t, ht⟩, hl⟩ := k
  refine ⟨⟨t, ?_⟩, hl⟩
  cases v with
  | ref a =>
    simp only [vkind] at ht ⊢
    cases e : H a with
    | none => rw [e] at ht; cases ht
    | some x =>
      have : a ≠ b := fun q => by subst q; rw [hb] at e; cases e; rw [hb] at ht; cases ht
      rw [(hold a x e this).1]; rw [e] at ht; exact ht
  | _ => exact ht
set_option tactic.hygienic false in
theorem IsBook.fresh {o : Addr → Option Role} {H₂ : AHeap} {f s p z : Addr} {as : List Addr} (ib : IsBook o H₂ b f s p as B) (hz : H₂ z = none) (y : AObj) : IsBook (fun a => if a = z then none else o a) (up H₂ z y) b f s p as B ∧ Fr1 o H₂ (fun a => if a = z then none else o a) (up H₂ z y) :=
  ⟨ib.congr fun a r x _ ho hx _ => by
      have : a ≠ z := fun q => by subst q; rw [hz] at hx; cases hx
      exact ⟨by simp only [this, if_false]; exact ho, by rw [up_other this]; exact hx⟩,
    ⟨fun a x h k => by
      have : a ≠ z := fun q => by subst q; rw [hz] at h; cases h
      exact ⟨by rw [up_other this]; exact h, by simp only [this, if_false]; exact k⟩⟩⟩
include G U
set_option tactic.hygienic false in
theorem open_B {v : AV} (hb : H b = some (.book B)) (hk : Kn H v) (hz : B.Sz) (q : Ends (openQ B v) (fun B' => Q .none (up H b (.book B'))) (fun cl => E cl H)) : CallOK c (n + 3) true "Book.open_purse" [.ref b, v] Q E H := by
  refine book_call hb fun H₂ o f s p as ib hold => open_raw G U ib (hk.open hb hold) hz ?_
  revert q
  cases openQ B v with
  | ok B' => exact fun q H' ib' fr => ⟨o, f, s, p, as, B', ib', fr, .inl ⟨(fun _ h => by cases h), q⟩⟩
  | error cl => exact fun q => ⟨o, f, s, p, as, B, ib, .refl, by rw [up_id hb]; exact q⟩
set_option tactic.hygienic false in
theorem put_B {v a : AV} (hput : P.fns.lookup "Book.put" = some BK.f_Book_put) (hb : H b = some (.book B)) (hk : Kn H v) (hka : Kn H a) (hz : B.Sz) (q : Ends (putQ B v a) (fun B' => Q .none (up H b (.book B'))) (fun cl => E cl H)) : CallOK c (n + 3) true "Book.put" [.ref b, v, a] Q E H := by
  refine book_call hb fun H₂ o f s p as ib hold => put_raw G U hput ib (hk.open hb hold) (hka.open hb hold) hz ?_
  revert q
  cases putQ B v a with
  | ok B' => exact fun q H' ib' fr => ⟨o, f, s, p, as, B', ib', fr, .inl ⟨(fun _ h => by cases h), q⟩⟩
  | error cl => exact fun q => ⟨o, f, s, p, as, B, ib, .refl, by rw [up_id hb]; exact q⟩
set_option tactic.hygienic false in
theorem take_B {v a : AV} (htake : P.fns.lookup "Book.take" = some BK.f_Book_take) (hb : H b = some (.book B)) (hk : Kn H v) (hka : Kn H a) (hz : B.Sz) (q : Ends (takeQ B v a) (fun B' => Q .none (up H b (.book B'))) (fun cl => E cl H)) : CallOK c (n + 3) true "Book.take" [.ref b, v, a] Q E H := by
  refine book_call hb fun H₂ o f s p as ib hold => take_raw G U htake ib (hk.open hb hold) (hka.open hb hold) hz ?_
  revert q
  cases takeQ B v a with
  | ok B' => exact fun q H' ib' fr => ⟨o, f, s, p, as, B', ib', fr, .inl ⟨(fun _ h => by cases h), q⟩⟩
  | error cl => exact fun q => ⟨o, f, s, p, as, B, ib, .refl, by rw [up_id hb]; exact q⟩
set_option tactic.hygienic false in
theorem freeOf_B {v : AV} (hb : H b = some (.book B)) (hk : Kn H v) (q : if purseB B v then Q (.int (freeOf B v)) H else E "NoPurse" H) : CallOK c (n + 3) true "Book.free_of" [.ref b, v] Q E H := by
  refine book_call hb fun H₂ o f s p as ib hold => freeOf_raw G U ib (hk.open hb hold) ?_
  revert q
  cases purseB B v with
  | true => exact fun q => ⟨o, f, s, p, as, B, ib, .refl, .inl ⟨(fun _ h => by cases h), by rw [up_id hb]; exact q⟩⟩
  | false => exact fun q => ⟨o, f, s, p, as, B, ib, .refl, by rw [up_id hb]; exact q⟩
set_option tactic.hygienic false in
theorem asideOf_B {v : AV} (hb : H b = some (.book B)) (hk : Kn H v) (hs' : ∀ k, hs B.free k = true → hs B.aside k = true) (q : if purseB B v then Q (.int (asideOf B v)) H else E "NoPurse" H) : CallOK c (n + 3) true "Book.aside_of" [.ref b, v] Q E H := by
  refine book_call hb fun H₂ o f s p as ib hold => asideOf_raw G U ib (hk.open hb hold) hs' ?_
  revert q
  cases purseB B v with
  | true => exact fun q => ⟨o, f, s, p, as, B, ib, .refl, .inl ⟨(fun _ h => by cases h), by rw [up_id hb]; exact q⟩⟩
  | false => exact fun q => ⟨o, f, s, p, as, B, ib, .refl, by rw [up_id hb]; exact q⟩
set_option tactic.hygienic false in
theorem none_of {H₂ : AHeap} {o : Addr → Option Role} {f s p z : Addr} {as : List Addr} (hb : H b = some (.book B)) (ib : IsBook o H₂ b f s p as B) (hold : ∀ a x, H a = some x → a ≠ b → H₂ a = some x ∧ o a = none) (hz : H₂ z = none) : H z = none := by
  cases e : H z with
  | none => rfl
  | some x =>
    by_cases q : z = b
    · subst q; rw [ib.hb] at hz; cases hz
    · rw [(hold z x e q).1] at hz; cases hz
set_option tactic.hygienic false in
theorem purses_B (hb : H b = some (.book B)) (hz : B.Sz) (q : ∀ z, H z = none → Q (.ref z) (up H z (.list (B.free.map fun e => .str e.1)))) : CallOK c (n + 1) true "Book.purses" [.ref b] Q E H := by
  refine book_call hb fun H₂ o f s p as ib hold => ?_
  refine G.call (F := BK.f_Book_purses) U.purses rfl ?_
  have hA : c.P.attrs = BK.attrs := by rw [G.hP, U.attrs]
  dsimp only [BK.f_Book_purses, initV, v_0, x_lit, x_var, x_bin, x_neg, x_not, x_ao, x_ite, x_cmp, x_cmp2, x_sub, x_slice, x_glob, x_call, x_prim, x_bm, x_isi, x_list, x_tup, x_dict0, xs_nil, xs_cons, ao_one, ao_cons, xo_none, xo_some, xc_none, xc_some, tv, wtg, b_add, b_sub, b_mul, b_div, b_mod, b_pow, b_adds, c_lt, c_le, c_gt, c_ge, c_eq, c_ne, c_eqs, c_nes, c_in, c_nin, t_bool, t_int, t_none, w_cons, w_nil, w_ite, w_ret, w_asg, s_expr', s_raise']
  refine at_free hA ib rfl ?_
  obtain ⟨ep, hf⟩ := ib.hf
  simp only [p_lens, p_range, p_range2, p_lenr, p_listr, p_allr, hf]
  refine ⟨trivial, by rw [dI_len]; exact hz.1, fun z hz => ?_⟩
  obtain ⟨i1, i2⟩ := ib.fresh hz (.list ((dI B.free).map fun e => .str e.1))
  refine ⟨_, f, s, p, as, B, i1, i2, .inr ⟨z, _, rfl, none_of G U hb ib hold hz, up_same, by simp, ?_⟩⟩
  rw [up_id hb]
  have := q z (none_of G U hb ib hold hz)
  simp only [dI, List.map_map] at this ⊢
  exact this
set_option tactic.hygienic false in
theorem told_B (hb : H b = some (.book B)) (hp : B.pacts.length ≤ sizeLine) (q : ∀ z, H z = none → Q (.ref z) (up H z (.list (B.pacts.map fun e => .str e.name)))) : CallOK c (n + 1) true "Book.told" [.ref b] Q E H := by
  refine book_call hb fun H₂ o f s p as ib hold => ?_
  refine G.call (F := BK.f_Book_told) U.told rfl ?_
  have hA : c.P.attrs = BK.attrs := by rw [G.hP, U.attrs]
  dsimp only [BK.f_Book_told, initV, v_0, x_lit, x_var, x_bin, x_neg, x_not, x_ao, x_ite, x_cmp, x_cmp2, x_sub, x_slice, x_glob, x_call, x_prim, x_bm, x_isi, x_list, x_tup, x_dict0, xs_nil, xs_cons, ao_one, ao_cons, xo_none, xo_some, xc_none, xc_some, tv, wtg, b_add, b_sub, b_mul, b_div, b_mod, b_pow, b_adds, c_lt, c_le, c_gt, c_ge, c_eq, c_ne, c_eqs, c_nes, c_in, c_nin, t_bool, t_int, t_none, w_cons, w_nil, w_ite, w_ret, w_asg, s_expr', s_raise']
  refine at_pacts hA ib rfl ?_
  obtain ⟨ep, hf⟩ := ib.hp
  have e2 := dP_keys ib.ps
  have e1 : (dP B.pacts as).length = B.pacts.length := by have := congrArg List.length e2; simpa using this
  simp only [p_lens, p_range, p_range2, p_lenr, p_listr, p_allr, hf]
  refine ⟨trivial, by rw [e1]; exact hp, fun z hz => ?_⟩
  obtain ⟨i1, i2⟩ := ib.fresh hz (.list ((dP B.pacts as).map fun e => .str e.1))
  refine ⟨_, f, s, p, as, B, i1, i2, .inr ⟨z, _, rfl, none_of G U hb ib hold hz, up_same, by simp, ?_⟩⟩
  rw [up_id hb, e2]
  exact q z (none_of G U hb ib hold hz)
set_option tactic.hygienic false in
omit G U in
theorem new_book {g : Gx} {V : VV} (hP : g.c = c) (G : Gd g.c P) (U : HasA P) (hn : ∃ m, g.n = m + 1) (q : ∀ a, H a = none → Q (.ref a) (up H a (.book ⟨0, [], [], []⟩))) : wpX g (.new "Book" []) V Q E H := by
  obtain ⟨m, hm⟩ := hn
  rw [x_new, xs_nil, hm]
  intro a ha
  refine CallOK.post (Q := fun r H' => r = .none ∧ ∃ o f s p, IsBook o H' a f s p [] ⟨0, [], [], []⟩ ∧ ∀ x y, x ≠ a → H x = some y → H' x = some y ∧ o x = none) (E := fun _ _ => False) ?_ (fun r H' h => ?_) (fun _ _ h => h.elim)
  · refine G.call (F := BK.f_Book___init__) U.init rfl ?_
    have hA : g.c.P.attrs = BK.attrs := by rw [G.hP, U.attrs]
    have hC : ∀ n, BK.attrs.contains ("Book", n) = true → g.c.P.attrs.contains ("Book", n) = true := fun n h => by rw [hA]; exact h
    refine w_st fun K nx => ?_
    rw [w_asg, x_lit]
    refine st_a rfl (hC _ rfl) up_same (by decide) (nx _ _ ?_)
    refine w_st fun K nx => ?_
    rw [w_asg, x_dict0]
    intro f hf
    have fa : a ≠ f := ne_up hf
    refine st_a rfl (hC _ rfl) (by rw [up_other fa, up_same]) (by decide) (nx _ _ ?_)
    refine w_st fun K nx => ?_
    rw [w_asg, x_dict0]
    intro s hs
    have sa : a ≠ s := ne_up hs
    have sf : f ≠ s := ne_up (by rw [up_other sa.symm] at hs; exact hs)
    refine st_a rfl (hC _ rfl) (by rw [up_other sa, up_same]) (by exact (show 2 ≤ 100 by decide)) (nx _ _ ?_)
    refine w_st fun K nx => ?_
    rw [w_asg, x_dict0]
    intro p hp
    have pa : a ≠ p := ne_up hp
    have ps : s ≠ p := ne_up (by rw [up_other pa.symm] at hp; exact hp)
    have pf : f ≠ p := ne_up (by rw [up_other pa.symm, up_other ps.symm, up_other pa.symm] at hp; exact hp)
    refine st_a rfl (hC _ rfl) (by rw [up_other pa, up_same]) (by exact (show 3 ≤ 100 by decide)) (nx _ _ ?_)
    refine ⟨rfl, fun x => if x = a then some .self else if x = f then some .free else if x = s then some .aside else if x = p then some .pacts else none, f, s, p, ⟨by simp, by simp [fa.symm], by simp [sa.symm, sf.symm], by simp [pa.symm, pf.symm, ps.symm], up_same, ⟨0, ?_⟩, ⟨0, ?_⟩, ⟨0, ?_⟩, trivial⟩, fun x y hx hy => ?_⟩
    · rw [up_other fa.symm, up_other pf, up_other fa.symm, up_other sf, up_other fa.symm, up_same]; rfl
    · rw [up_other sa.symm, up_other ps, up_other sa.symm, up_same]; rfl
    · rw [up_other pa.symm, up_same]; rfl
    · have xf : x ≠ f := fun e => by subst e; rw [up_other hx, up_other hx, hy] at hf; cases hf
      have xs : x ≠ s := fun e => by subst e; rw [up_other hx, up_other xf, up_other hx, up_other hx, hy] at hs; cases hs
      have xp : x ≠ p := fun e => by subst e; rw [up_other hx, up_other xs, up_other hx, up_other xf, up_other hx, up_other hx, hy] at hp; cases hp
      exact ⟨by rw [up_other hx, up_other xp, up_other hx, up_other xs, up_other hx, up_other xf, up_other hx, up_other hx, hy], by simp [hx, xf, xs, xp]⟩
  · obtain ⟨rfl, o, f, s, p, ib, hold⟩ := h
    refine ⟨_, fun H₁ r => r.pack ib fun x y e => ?_, rfl, q a ha⟩
    by_cases w : x = a
    · subst w; rw [up_same] at e; cases e; exact .inl ⟨rfl, rfl⟩
    · rw [up_other w] at e
      exact .inr ⟨w, (hold x y w e).2, (hold x y w e).1⟩
end
end Mine

end
section
open PySem PySem.W PyProof.Rows PySem.Spec PySem.SeqAt PySem.Calls
namespace Mine
noncomputable def cell (ns : List Int) (k : Nat) : Int := (ns[k]?).getD 0
set_option tactic.hygienic false in
theorem cell_ok {c : Cx} {P : Pg} (G : Gd c P) (hf : P.fns.lookup "_law_cell_at" = some BK.f__law_cell_at) {n : Nat} {md : Bool} {Q : AV → AHeap → Prop} {E : String → AHeap → Prop} {H : AHeap} {sp : Addr} {ns : List Int} {k : Int} (hk : 0 ≤ k) (hs : H sp = some (.script ns)) (hl : ns.length < 2 ^ 62)
    (q : Q (.int (cell ns k.toNat)) H) : CallOK c (n + 1) md "_law_cell_at" [.ref sp, .int k] Q E H := by
  refine G.call (F := BK.f__law_cell_at) hf rfl ?_
  simp [BK.f__law_cell_at, p_lens, p_range, p_range2, p_lenr, p_listr, p_allr, hs, hl, initV, sub_ri, sub_rs, sub_si, v_0, x_lit, x_var, x_bin, x_neg, x_not, x_ao, x_ite, x_cmp, x_cmp2, x_sub, x_slice, x_glob, x_call, x_prim, x_bm, x_isi, x_list, x_tup, x_dict0, xs_nil, xs_cons, ao_one, ao_cons, xo_none, xo_some, xc_none, xc_some, tv, tsub, tattr, wtg, b_add, b_sub, b_mul, b_div, b_mod, b_pow, b_adds, c_lt, c_le, c_gt, c_ge, c_eq, c_ne, c_eqs, c_nes, c_in, c_nin, t_bool, t_int, t_none, w_cons, w_nil, w_ite, w_ret, w_asg, s_expr', s_raise']
  obtain ⟨j, rfl⟩ := Int.eq_ofNat_of_zero_le hk
  by_cases h : j < ns.length
  · simp [h]
    refine ⟨by omega, ?_⟩
    simpa [cell, h] using q
  · simp [h]
    simpa [cell, h] using q

set_option tactic.hygienic false in
theorem fmod_lo {x m : Int} (h : 0 < m) : 0 ≤ x.fmod m := by rw [Int.fmod_eq_emod_of_nonneg _ (by omega)]; exact Int.emod_nonneg _ (by omega)
set_option tactic.hygienic false in
theorem fmod_hi {x m : Int} (h : 0 < m) : x.fmod m < m := by rw [Int.fmod_eq_emod_of_nonneg _ (by omega)]; exact Int.emod_lt_of_pos _ h

set_option tactic.hygienic false in
theorem up_ne {H : AHeap} {a b : Addr} {o o' : AObj} (h : H b = some o') (k : H a = none) : up H a o b = some o' := by
  rw [up_other (fun z => by rw [z, k] at h; cases h)]; exact h
noncomputable def Ext (H H' : AHeap) : Prop := ∀ a o, H a = some o → H' a = some o
theorem Ext.refl {H : AHeap} : Ext H H := fun _ _ h => h
theorem Ext.trans {H H' H'' : AHeap} (x : Ext H H') (y : Ext H' H'') : Ext H H'' := fun a o h => y a o (x a o h)
set_option tactic.hygienic false in
theorem Ext.none {H H' : AHeap} {z : Addr} (x : Ext H H') (h : H' z = none) : H z = none := by
  cases q : H z with
  | none => rfl
  | some o => rw [x z o q] at h; cases h
set_option tactic.hygienic false in
theorem Ext.own {H H' : AHeap} {z : Addr} {o : AObj} (x : Ext H H') (h : H z = Option.none) : Ext H (up H' z o) := fun a o' e => by
  rw [up_other (fun q => by rw [q, h] at e; cases e)]; exact x a o' e
theorem Ext.new {H H' : AHeap} {z : Addr} {o : AObj} (x : Ext H H') (h : H' z = Option.none) : Ext H (up H' z o) := x.own (x.none h)
set_option tactic.hygienic false in
theorem ne_of {H : AHeap} {a b : Addr} {o : AObj} (h : H a = some o) (k : H b = none) : a ≠ b := fun q => by rw [q, k] at h; cases h

noncomputable def txs (l : List Str) : List AV := l.map AV.str
set_option tactic.hygienic false in
theorem txs_length {l : List Str} : (txs l).length = l.length := by simp [txs]
set_option tactic.hygienic false in
theorem txs_get {l : List Str} {k : Nat} {x : AV} (h : (txs l)[k]? = some x) : ∃ s, x = .str s ∧ l[k]? = some s := by
  unfold txs at h
  rw [List.getElem?_map, Option.map_eq_some_iff] at h
  obtain ⟨s, h1, h2⟩ := h
  exact ⟨s, h2.symm, h1⟩
set_option tactic.hygienic false in
theorem txs_snoc {l : List Str} {s : Str} : txs l ++ [.str s] = txs (l ++ [s]) := by simp [txs]
set_option tactic.hygienic false in
theorem take_snoc {α : Type} {l : List α} {k : Nat} {x : α} (h : l[k]? = some x) : l.take (k + 1) = l.take k ++ [x] := by
  rw [List.take_add_one, h]; rfl

theorem rd_txs {H : AHeap} : ∀ {l : List Str}, RDs H (txs l) (l.map PyData.str)
  | [] => .nil
  | s :: r => .cons (.str s) rd_txs
set_option tactic.hygienic false in
theorem flat_txs : ∀ {l : List Str}, flatDs (l.map PyData.str) = true
  | [] => rfl
  | s :: r => by simp [flatDs, flatD, flat_txs (l := r)]
set_option tactic.hygienic false in
theorem depth_txs : ∀ {l : List Str}, PyData.depthAll (l.map PyData.str) = 0
  | [] => rfl
  | s :: r => by simp [PyData.depthAll, PyData.depth, depth_txs (l := r)]
set_option tactic.hygienic false in
theorem ok_txs {l : List Str} : okD (.list (l.map PyData.str)) := ⟨by simp [flatD, flat_txs], by simp [PyData.depth, depth_txs]⟩
set_option tactic.hygienic false in
theorem eqv_txs : ∀ {l l' : List Str}, PyData.eqvAll (l.map PyData.str) (l'.map PyData.str) = decide (l = l')
  | [], [] => rfl
  | [], _ :: _ => rfl
  | _ :: _, [] => rfl
  | s :: r, s' :: r' => by
    simp only [List.map_cons, eqv_c, eqv_s, eqv_txs (l := r) (l' := r'), List.cons.injEq]
    by_cases h : s = s' <;> simp [h]
set_option tactic.hygienic false in
theorem any_txs {l : List Str} {s : Str} : ((l.map PyData.str).any fun y => PyData.eqv y (.str s)) = decide (s ∈ l) := by
  induction l with
  | nil => rfl
  | cons t r ih =>
    simp only [List.map_cons, List.any_cons, ih, eqv_s, List.mem_cons]
    by_cases h : s = t
    · simp [h]
    · have : t ≠ s := fun z => h z.symm
      simp [h, this]
section
variable {Q : AV → AHeap → Prop} {H : AHeap}
set_option tactic.hygienic false in
theorem win_dict {no : Bool} {x : Str} {a : Addr} {ep : Nat} {es : List (Str × AV)} (h : H a = some (.dict ep es)) (q : Q (.bool ((lookS es x).isSome != no)) H) : win no (.str x) (.ref a) Q H := by
  simp only [in_ref, in_strv, h, ← nt_eq]; exact q
set_option tactic.hygienic false in
theorem weq_txs {ne : Bool} {a b : Addr} {l l' : List Str} (h : H a = some (.list (txs l))) (h' : H b = some (.list (txs l'))) (q : Q (.bool (decide (l = l') != ne)) H) : weq ne (.ref a) (.ref b) Q H := by
  simp only [weq, isDictV, h]
  refine ⟨.list (l.map PyData.str), .list (l'.map PyData.str), .list h rd_txs, .list h' rd_txs, ok_txs, ok_txs, ?_⟩
  rw [eqv_l, eqv_txs, ← nt_eq]; exact q
end

theorem c_ner {Q : AV → AHeap → Prop} {H : AHeap} {u v : AV} : wcmp .NotEq u v Q H = weq true u v Q H := rfl

section
variable {Q : AV → AHeap → Prop} {H : AHeap}
set_option tactic.hygienic false in
theorem p_len {a : Addr} {xs : List AV} (h : H a = some (.list xs)) (hl : xs.length ≤ 100000) (q : Q (.int xs.length) H) : wprim md .len [.ref a] Q H := by
  simp only [p_lens, p_range, p_range2, p_lenr, p_listr, p_allr, h]; exact ⟨by omega, q⟩
set_option tactic.hygienic false in
theorem p_list {a : Addr} {xs : List AV} (h : H a = some (.list xs)) (hl : xs.length ≤ 100000) (q : ∀ z, H z = none → Q (.ref z) (up H z (.list xs))) : wprim md .list [.ref a] Q H := by
  simp only [p_lens, p_range, p_range2, p_lenr, p_listr, p_allr, h]; exact ⟨by simp [sizeLine]; omega, q⟩
theorem p_listT {a : Addr} {l : List Str} (h : H a = some (.list (txs l))) (hl : l.length ≤ 1000) (q : ∀ z, H z = none → Q (.ref z) (up H z (.list (txs l)))) : wprim md .list [.ref a] Q H :=
  p_list h (by rw [txs_length]; exact Nat.le_trans hl (by decide)) q
set_option tactic.hygienic false in
theorem m_append {p : Addr} {xs : List AV} {v : AV} (h : H p = some (.list xs)) (hl : xs.length ≤ 100000) (q : Q .none (up H p (.list (xs ++ [v])))) : wbm (.ref p) .append [v] Q H := by
  simp only [m_app, h]; exact ⟨by simp [sizeLine]; omega, q⟩
end

section
variable {g : Gx} {QN : VV → AHeap → Prop} {QR : AV → AHeap → Prop} {E : String → VV → AHeap → Prop} {V : VV} {H : AHeap}
theorem w_for {t : Tg} {it : X} {b : List S} : wpS g (.for t it b) QN QR E V H = (g.md = true ∧ wpX g it V (fun v H => WFor QN (fun x nx V H => wtg t x V H fun V => wpSs g b nx QR E V H) v V H) (fun cl H => E cl V H) H) := rfl
end

theorem wforI {QN : VV → AHeap → Prop} {stp : AV → (VV → AHeap → Prop) → VV → AHeap → Prop} {v : AV} {V : VV} {H : AHeap} {xs : List AV} (hx : itemsOf H v = some xs) (J : Nat → VV → AHeap → Prop) (h0 : J 0 V H)
    (hs : ∀ I : Nat → VV → AHeap → Prop, (∀ k V' H', J k V' H' → I k V' H') → ∀ k V' H', J k V' H' → sameIt H H' v ∧ (k = xs.length → QN V' H') ∧ ∀ x, xs[k]? = some x → stp x (I (k + 1)) V' H') : WFor QN stp v V H :=
  wfor hx J h0 (hs J fun _ _ _ h => h)

set_option tactic.hygienic false in
theorem wcomp_ext {Q : AV → AHeap → Prop} {stp : AV → (Option AV → AHeap → Prop) → AHeap → Prop} {v : AV} {H : AHeap} {xs : List AV} (hx : itemsOf H v = some xs) (hl : xs.length ≤ sizeLine) (f : AV → Option AV)
    (hs : ∀ x ∈ xs, ∀ H', Ext H H' → ∀ nx : Option AV → AHeap → Prop, (∀ H'', Ext H' H'' → nx (f x) H'') → stp x nx H')
    (q : ∀ a H', Ext H H' → H' a = none → Q (.ref a) (up H' a (.list (xs.filterMap f)))) : WComp Q stp v H := by
  refine ⟨xs, hx, hl, fun k acc H' => Ext H H' ∧ acc = (xs.take k).filterMap f, ⟨.refl, by simp⟩, ?_⟩
  rintro k acc H' ⟨hE, rfl⟩
  refine ⟨?_, fun hk a ha => ?_, fun x hxk => ?_⟩
  · cases v with
    | ref a =>
      simp only [itemsOf] at hx
      simp only [sameIt]
      cases q : H a with
      | none => rw [q] at hx; cases hx
      | some o => exact hE a o q
    | _ => trivial
  · have := q a H' hE ha
    rw [hk, List.take_length]; exact this
  · refine hs x (List.mem_of_getElem? hxk) H' hE _ fun H'' hE' => ⟨hE.trans hE', ?_⟩
    rw [take_snoc hxk, List.filterMap_append]
    cases hf : f x <;> simp [hf]

section
variable {c : Cx} {P : Pg} (G : Gd c P) {n : Nat} {md : Bool} {Q : AV → AHeap → Prop} {E : String → AHeap → Prop} {H : AHeap}

noncomputable def mixed (a b : Int) : Int := (a * 6364136223846793005 + b * 1442695040888963407 + 1013904223).fmod 2305843009213693951
set_option tactic.hygienic false in
include G in
theorem mixed_ok (hf : P.fns.lookup "_law_mixed" = some BK.f__law_mixed) {a b : Int} (q : Q (.int (mixed a b)) H) : CallOK c (n + 1) md "_law_mixed" [.int a, .int b] Q E H := by
  refine G.call (F := BK.f__law_mixed) hf rfl ?_
  simp [BK.f__law_mixed, initV, v_0, x_lit, x_var, x_bin, x_neg, x_not, x_ao, x_ite, x_cmp, x_cmp2, x_sub, x_slice, x_glob, x_call, x_prim, x_bm, x_isi, x_list, x_tup, x_dict0, xs_nil, xs_cons, ao_one, ao_cons, xo_none, xo_some, xc_none, xc_some, tv, tsub, tattr, wtg, b_add, b_sub, b_mul, b_div, b_mod, b_pow, b_adds, c_lt, c_le, c_gt, c_ge, c_eq, c_ne, c_eqs, c_nes, c_in, c_nin, t_bool, t_int, t_none, w_cons, w_nil, w_ite, w_ret, w_asg, s_expr', s_raise']
  exact ⟨IntMulOk.of_right (by decide +kernel), IntMulOk.of_right (by decide +kernel), q⟩

end
noncomputable def wordTail : List S := [
  .assign (.var 5) (.lit (.str (Str.ofString ""))),
  .for (.var 6) (.prim .range [(.bin .Mod (.bin .FloorDiv (.var 4) (.lit (.int 12))) (.lit (.int 11)))]) [.assign (.var 5) (.bin .Add (.var 5) (.sub (.var 2) (.bin .Mod (.bin .FloorDiv (.var 4) (.lit (.int 300))) (.lit (.int 26))))),
    .assign (.var 4) (.bin .FloorDiv (.var 4) (.lit (.int 26)))],
  .ite (.cmp .Eq (.bin .Mod (.var 1) (.lit (.int 2))) (.lit (.int 1))) [.ret (.bin .Add (.var 3) (.var 5))] [],
  .assign (.var 7) (.bin .Mod (.bin .FloorDiv (.var 1) (.lit (.int 2))) (.bin .Add (.prim .len [(.var 5)]) (.lit (.int 1)))),
  .ret (.bin .Add (.bin .Add (.slice (.var 5) none (some (.var 7)) none) (.var 3)) (.slice (.var 5) (some (.var 7)) none none))]
noncomputable def wordFn (nm : String) : Fn := ⟨2, ["_law_k", "_law_cell", "_law_letters", nm, "_law_rest", "_law_more", "_law_j", "_law_at"],
  .assign (.var 2) (.lit (.str (Str.ofString "abcdefghijklmnopqrstuvwxyz"))) ::
  .assign (.var 3) (.bin .Add (.sub (.var 2) (.bin .Mod (.bin .FloorDiv (.var 0) (.lit (.int 26))) (.lit (.int 26)))) (.sub (.var 2) (.bin .Mod (.var 0) (.lit (.int 26))))) ::
  .assign (.var 4) (.call "_law_mixed" [(.var 1), (.lit (.int 0))]) ::
  .ite (.cmp .Eq (.bin .Mod (.var 1) (.lit (.int 2))) (.lit (.int 1))) [.assign (.var 4) (.call "_law_mixed" [(.var 1), (.var 0)]),
    .ite (.ao true [(.cmp .Eq (.bin .Mod (.var 4) (.lit (.int 12))) (.lit (.int 11))), (.cmp .Lt (.var 0) (.lit (.int 26)))]) [.ret (.sub (.var 2) (.var 0))] []] [] ::
  wordTail⟩

noncomputable def chI (i : Int) : Nat := (letters.cps[i.toNat]?).getD 0
noncomputable def toldL (k : Int) : List Nat := [chI ((k.fdiv 26).fmod 26), chI (k.fmod 26)]
noncomputable def moreP (r : Int) : Nat → List Nat × Int
  | 0 => ([], r)
  | j + 1 => ((moreP r j).1 ++ [chI (((moreP r j).2.fdiv 300).fmod 26)], (moreP r j).2.fdiv 26)
set_option tactic.hygienic false in
theorem moreP_len (r : Int) : ∀ j, (moreP r j).1.length = j
  | 0 => rfl
  | j + 1 => by simp [moreP, moreP_len r j]
noncomputable def wordL (k cl : Int) : List Nat :=
  if cl.fmod 2 = 1 then
    let r := mixed cl k
    if r.fmod 12 = 11 ∧ k < 26 then [chI k] else toldL k ++ (moreP r ((r.fdiv 12).fmod 11).toNat).1
  else
    let r := mixed cl 0
    let m := (moreP r ((r.fdiv 12).fmod 11).toNat).1
    let a := ((cl.fdiv 2).fmod (m.length + 1)).toNat
    m.take a ++ toldL k ++ m.drop a
noncomputable def word (k cl : Int) : Str := ⟨(wordL k cl).toArray⟩

set_option tactic.hygienic false in
theorem letters_size : letters.cps.size = 26 := by decide +kernel
set_option tactic.hygienic false in
theorem sub_let {Q : AV → AHeap → Prop} {H : AHeap} {i : Int} (h0 : 0 ≤ i) (h1 : i < 26) (q : Q (.str ⟨#[chI i]⟩) H) : wsub (.str letters) (.int i) Q H := by
  have hlt : i.toNat < letters.cps.size := by rw [letters_size]; omega
  refine ⟨h0, by omega, letters.cps[i.toNat], by simp [hlt], ?_⟩
  have : chI i = letters.cps[i.toNat] := by simp [chI, hlt]
  rw [← this]; exact q

set_option tactic.hygienic false in
theorem str_app {a b : List Nat} : (⟨a.toArray⟩ ++ ⟨b.toArray⟩ : Str) = ⟨(a ++ b).toArray⟩ := by
  show Str.mk _ = Str.mk _
  simp
set_option tactic.hygienic false in
theorem str_len {a : List Nat} : (⟨a.toArray⟩ : Str).length = a.length := by show a.toArray.size = _; simp

section
variable {c : Cx} {P : Pg} (G : Gd c P) {n : Nat} {Q : AV → AHeap → Prop} {E : String → AHeap → Prop} {H : AHeap}

set_option tactic.hygienic false in
theorem more_for {r : Int} {w : Nat} {V : VV} {QN : VV → AHeap → Prop} {QR : AV → AHeap → Prop} {EE : String → VV → AHeap → Prop} {x0 x1 x3 x7 : Option AV} {z : Addr} (hw : w ≤ 10) (hz : H z = some (.range 0 w)) 
    (hV : V = [x0, x1, some (.str letters), x3, some (.int r), some (.str (Str.ofString "")), none, x7])
    (q : ∀ a b, QN [x0, x1, some (.str letters), x3, some (.int a), some (.str ⟨(moreP r w).1.toArray⟩), b, x7] H) :
    WFor QN (fun x nx V H => wtg (.var 6) x V H fun V => wpSs ⟨c, n, true⟩ [.assign (.var 5) (.bin .Add (.var 5) (.sub (.var 2) (.bin .Mod (.bin .FloorDiv (.var 4) (.lit (.int 300))) (.lit (.int 26))))),
      .assign (.var 4) (.bin .FloorDiv (.var 4) (.lit (.int 26)))] nx QR EE V H) (.ref z) V H := by
  subst hV
  have hlen : (((w : Int) - 0).toNat) = w := by omega
  refine wforI (xs := (List.range ((w : Int) - 0).toNat).map fun (k : Nat) => AV.int (0 + k)) (by simp [itemsOf, hz]) (fun k V' H' => H' = H ∧ ∃ b, V' = [x0, x1, some (.str letters), x3, some (.int (moreP r k).2), some (.str ⟨(moreP r k).1.toArray⟩), b, x7]) ⟨rfl, none, rfl⟩ ?_
  rintro I hI k V' H' ⟨rfl, b, rfl⟩
  refine ⟨by simp [sameIt], fun hk => ?_, fun y hy => ?_⟩
  · simp at hk; subst hk; exact q _ _
  · have hk : k < w := by
      have := (List.getElem?_eq_some_iff.mp hy).1
      simpa using this
    dsimp [v_0, x_lit, x_var, x_bin, x_neg, x_not, x_ao, x_ite, x_cmp, x_cmp2, x_sub, x_slice, x_glob, x_call, x_prim, x_bm, x_isi, x_list, x_tup, x_dict0, xs_nil, xs_cons, ao_one, ao_cons, xo_none, xo_some, xc_none, xc_some, tv, tsub, tattr, wtg, b_add, b_sub, b_mul, b_div, b_mod, b_pow, b_adds, c_lt, c_le, c_gt, c_ge, c_eq, c_ne, c_eqs, c_nes, c_in, c_nin, t_bool, t_int, t_none, w_cons, w_nil, w_ite, w_ret, w_asg, s_expr', s_raise']; simp [v_0, x_lit, x_var, x_bin, x_neg, x_not, x_ao, x_ite, x_cmp, x_cmp2, x_sub, x_slice, x_glob, x_call, x_prim, x_bm, x_isi, x_list, x_tup, x_dict0, xs_nil, xs_cons, ao_one, ao_cons, xo_none, xo_some, xc_none, xc_some, tv, tsub, tattr, wtg, b_add, b_sub, b_mul, b_div, b_mod, b_pow, b_adds, c_lt, c_le, c_gt, c_ge, c_eq, c_ne, c_eqs, c_nes, c_in, c_nin, t_bool, t_int, t_none, w_cons, w_nil, w_ite, w_ret, w_asg, s_expr', s_raise']
    refine sub_let (fmod_lo (by omega)) (fmod_hi (by omega)) ?_
    simp [v_0, x_lit, x_var, x_bin, x_neg, x_not, x_ao, x_ite, x_cmp, x_cmp2, x_sub, x_slice, x_glob, x_call, x_prim, x_bm, x_isi, x_list, x_tup, x_dict0, xs_nil, xs_cons, ao_one, ao_cons, xo_none, xo_some, xc_none, xc_some, tv, tsub, tattr, wtg, b_add, b_sub, b_mul, b_div, b_mod, b_pow, b_adds, c_lt, c_le, c_gt, c_ge, c_eq, c_ne, c_eqs, c_nes, c_in, c_nin, t_bool, t_int, t_none, w_cons, w_nil, w_ite, w_ret, w_asg, s_expr', s_raise']
    refine ⟨?_, ?_⟩
    · have := moreP_len r k
      show (moreP r k).1.toArray.size + 1 ≤ sizeLine
      simp [this, sizeLine]; omega
    · refine hI _ _ _ ⟨rfl, some y, ?_⟩
      simp [moreP]
      exact str_app

set_option tactic.hygienic false in
theorem word_tail {k cl r : Int} {EE : String → VV → AHeap → Prop} {QN : VV → AHeap → Prop} (q : ∀ H', Ext H H' → Q (.str (if cl.fmod 2 = 1 then ⟨(toldL k ++ (moreP r ((r.fdiv 12).fmod 11).toNat).1).toArray⟩ else
      ⟨((moreP r ((r.fdiv 12).fmod 11).toNat).1.take ((cl.fdiv 2).fmod ((moreP r ((r.fdiv 12).fmod 11).toNat).1.length + 1)).toNat ++ toldL k ++ (moreP r ((r.fdiv 12).fmod 11).toNat).1.drop ((cl.fdiv 2).fmod ((moreP r ((r.fdiv 12).fmod 11).toNat).1.length + 1)).toNat).toArray⟩)) H') :
    wpSs ⟨c, n, true⟩ wordTail QN Q EE [some (.int k), some (.int cl), some (.str letters), some (.str ⟨(toldL k).toArray⟩), some (.int r), none, none, none] H := by
  simp only [wordTail]
  rw [w_cons, w_asg]
  rw [x_lit, tv]
  refine ⟨by simp, ?_⟩
  rw [w_cons, w_for]
  dsimp [v_0, x_lit, x_var, x_bin, x_neg, x_not, x_ao, x_ite, x_cmp, x_cmp2, x_sub, x_slice, x_glob, x_call, x_prim, x_bm, x_isi, x_list, x_tup, x_dict0, xs_nil, xs_cons, ao_one, ao_cons, xo_none, xo_some, xc_none, xc_some, tv, tsub, tattr, wtg, b_add, b_sub, b_mul, b_div, b_mod, b_pow, b_adds, c_lt, c_le, c_gt, c_ge, c_eq, c_ne, c_eqs, c_nes, c_in, c_nin, t_bool, t_int, t_none, p_lens, p_range, p_range2]; simp [v_0, x_lit, x_var, x_bin, x_neg, x_not, x_ao, x_ite, x_cmp, x_cmp2, x_sub, x_slice, x_glob, x_call, x_prim, x_bm, x_isi, x_list, x_tup, x_dict0, xs_nil, xs_cons, ao_one, ao_cons, xo_none, xo_some, xc_none, xc_some, tv, tsub, tattr, wtg, b_add, b_sub, b_mul, b_div, b_mod, b_pow, b_adds, c_lt, c_le, c_gt, c_ge, c_eq, c_ne, c_eqs, c_nes, c_in, c_nin, t_bool, t_int, t_none, p_lens, p_range, p_range2, p_lens, p_range, p_range2, p_lenr, p_listr, p_allr]
  have h0 : 0 ≤ (r.fdiv 12).fmod 11 := fmod_lo (by omega)
  have h1 : (r.fdiv 12).fmod 11 < 11 := fmod_hi (by omega)
  obtain ⟨w, hw⟩ : ∃ w : Nat, (r.fdiv 12).fmod 11 = w := ⟨((r.fdiv 12).fmod 11).toNat, by omega⟩
  rw [hw] at q h1 ⊢
  simp only [Int.toNat_natCast] at q
  refine ⟨⟨by omega, by omega⟩, fun z hz => ?_⟩
  refine more_for (r := r) (w := w) (by omega) up_same rfl fun a b => ?_
  have hE : Ext H (up H z (.range 0 w)) := Ext.refl.new hz
  have q' := q _ hE
  have hml := moreP_len r w
  generalize hm : (moreP r w).1 = m at q' hml ⊢
  by_cases hc : cl.fmod 2 = 1
  · dsimp [v_0, x_lit, x_var, x_bin, x_neg, x_not, x_ao, x_ite, x_cmp, x_cmp2, x_sub, x_slice, x_glob, x_call, x_prim, x_bm, x_isi, x_list, x_tup, x_dict0, xs_nil, xs_cons, ao_one, ao_cons, xo_none, xo_some, xc_none, xc_some, tv, tsub, tattr, wtg, b_add, b_sub, b_mul, b_div, b_mod, b_pow, b_adds, c_lt, c_le, c_gt, c_ge, c_eq, c_ne, c_eqs, c_nes, c_in, c_nin, t_bool, t_int, t_none, w_cons, w_nil, w_ite, w_ret, w_asg, s_expr', s_raise']; simp [hc, t_bool, v_0, x_lit, x_var, x_bin, x_neg, x_not, x_ao, x_ite, x_cmp, x_cmp2, x_sub, x_slice, x_glob, x_call, x_prim, x_bm, x_isi, x_list, x_tup, x_dict0, xs_nil, xs_cons, ao_one, ao_cons, xo_none, xo_some, xc_none, xc_some, tv, tsub, tattr, wtg, b_add, b_sub, b_mul, b_div, b_mod, b_pow, b_adds, c_lt, c_le, c_gt, c_ge, c_eq, c_ne, c_eqs, c_nes, c_in, c_nin, t_bool, t_int, t_none, w_cons, w_nil, w_ite, w_ret, w_asg, s_expr', s_raise'] at q' ⊢
    rw [str_app]
    refine ⟨by simp [str_len, toldL, sizeLine]; omega, ?_⟩
    simpa using q'
  · dsimp [v_0, x_lit, x_var, x_bin, x_neg, x_not, x_ao, x_ite, x_cmp, x_cmp2, x_sub, x_slice, x_glob, x_call, x_prim, x_bm, x_isi, x_list, x_tup, x_dict0, xs_nil, xs_cons, ao_one, ao_cons, xo_none, xo_some, xc_none, xc_some, tv, tsub, tattr, wtg, b_add, b_sub, b_mul, b_div, b_mod, b_pow, b_adds, c_lt, c_le, c_gt, c_ge, c_eq, c_ne, c_eqs, c_nes, c_in, c_nin, t_bool, t_int, t_none, w_cons, w_nil, w_ite, w_ret, w_asg, s_expr', s_raise']; simp [hc, t_bool, v_0, x_lit, x_var, x_bin, x_neg, x_not, x_ao, x_ite, x_cmp, x_cmp2, x_sub, x_slice, x_glob, x_call, x_prim, x_bm, x_isi, x_list, x_tup, x_dict0, xs_nil, xs_cons, ao_one, ao_cons, xo_none, xo_some, xc_none, xc_some, tv, tsub, tattr, wtg, b_add, b_sub, b_mul, b_div, b_mod, b_pow, b_adds, c_lt, c_le, c_gt, c_ge, c_eq, c_ne, c_eqs, c_nes, c_in, c_nin, t_bool, t_int, t_none, w_cons, w_nil, w_ite, w_ret, w_asg, s_expr', s_raise', p_lens, p_range, p_range2, p_lenr, p_listr, p_allr] at q' ⊢
    have ha0 : 0 ≤ (cl.fdiv 2).fmod ((m.length : Int) + 1) := fmod_lo (by omega)
    have ha1 : (cl.fdiv 2).fmod ((m.length : Int) + 1) < (m.length : Int) + 1 := fmod_hi (by omega)
    simp [str_len]
    generalize (cl.fdiv 2).fmod ((m.length : Int) + 1) = a' at q' ha0 ha1 ⊢
    refine ⟨by omega, by omega, ?_⟩
    simp [sl_ref, sl_lo, sl_hi, str_len]
    refine ⟨ha0, by omega, by simp [sizeLine]; omega, ?_⟩
    rw [b_adds, str_app]
    refine ⟨by simp [str_len, toldL, sizeLine]; omega, ha0, by omega, by simp [sizeLine]; omega, ?_⟩
    rw [b_adds, str_app]
    refine ⟨by simp [str_len, toldL, sizeLine]; omega, ?_⟩
    simpa using q'

set_option tactic.hygienic false in
include G in
theorem word_ok {nm : String} (h1 : P.fns.lookup "_law_word" = some (wordFn nm)) (h2 : P.fns.lookup "_law_mixed" = some BK.f__law_mixed) {k cl : Int} (hk : 0 ≤ k) (hk' : k < 600) (q : ∀ H', Ext H H' → Q (.str (word k cl)) H') : CallOK c (n + 2) true "_law_word" [.int k, .int cl] Q E H := by
  refine G.call (F := wordFn nm) h1 rfl ?_
  have hl : Str.ofString "abcdefghijklmnopqrstuvwxyz" = letters := rfl
  simp only [wordFn, hl]
  show wpSs _ (_ :: _ :: _ :: _ :: wordTail) _ _ _ [some (.int k), some (.int cl), none, none, none, none, none, none] _
  rw [w_cons, w_asg]
  dsimp [v_0, x_lit, x_var, x_bin, x_neg, x_not, x_ao, x_ite, x_cmp, x_cmp2, x_sub, x_slice, x_glob, x_call, x_prim, x_bm, x_isi, x_list, x_tup, x_dict0, xs_nil, xs_cons, ao_one, ao_cons, xo_none, xo_some, xc_none, xc_some, tv, tsub, tattr, wtg, b_add, b_sub, b_mul, b_div, b_mod, b_pow, b_adds, c_lt, c_le, c_gt, c_ge, c_eq, c_ne, c_eqs, c_nes, c_in, c_nin, t_bool, t_int, t_none]
  rw [w_cons, w_asg]
  dsimp [v_0, x_lit, x_var, x_bin, x_neg, x_not, x_ao, x_ite, x_cmp, x_cmp2, x_sub, x_slice, x_glob, x_call, x_prim, x_bm, x_isi, x_list, x_tup, x_dict0, xs_nil, xs_cons, ao_one, ao_cons, xo_none, xo_some, xc_none, xc_some, tv, tsub, tattr, wtg, b_add, b_sub, b_mul, b_div, b_mod, b_pow, b_adds, c_lt, c_le, c_gt, c_ge, c_eq, c_ne, c_eqs, c_nes, c_in, c_nin, t_bool, t_int, t_none]; simp [v_0, x_lit, x_var, x_bin, x_neg, x_not, x_ao, x_ite, x_cmp, x_cmp2, x_sub, x_slice, x_glob, x_call, x_prim, x_bm, x_isi, x_list, x_tup, x_dict0, xs_nil, xs_cons, ao_one, ao_cons, xo_none, xo_some, xc_none, xc_some, tv, tsub, tattr, wtg, b_add, b_sub, b_mul, b_div, b_mod, b_pow, b_adds, c_lt, c_le, c_gt, c_ge, c_eq, c_ne, c_eqs, c_nes, c_in, c_nin, t_bool, t_int, t_none]
  refine sub_let (fmod_lo (by omega)) (fmod_hi (by omega)) ?_
  refine sub_let (fmod_lo (by omega)) (fmod_hi (by omega)) ?_
  rw [b_adds]
  have htold : (⟨#[chI ((k.fdiv 26).fmod 26)]⟩ ++ ⟨#[chI (k.fmod 26)]⟩ : Str) = ⟨(toldL k).toArray⟩ := rfl
  rw [htold]
  refine ⟨by show 1 + 1 ≤ sizeLine; simp [sizeLine], ?_⟩
  rw [w_cons, w_asg]
  dsimp [v_0, x_lit, x_var, x_bin, x_neg, x_not, x_ao, x_ite, x_cmp, x_cmp2, x_sub, x_slice, x_glob, x_call, x_prim, x_bm, x_isi, x_list, x_tup, x_dict0, xs_nil, xs_cons, ao_one, ao_cons, xo_none, xo_some, xc_none, xc_some, tv, tsub, tattr, wtg, b_add, b_sub, b_mul, b_div, b_mod, b_pow, b_adds, c_lt, c_le, c_gt, c_ge, c_eq, c_ne, c_eqs, c_nes, c_in, c_nin, t_bool, t_int, t_none]
  refine mixed_ok G h2 ?_
  rw [w_cons, w_ite]
  dsimp [v_0, x_lit, x_var, x_bin, x_neg, x_not, x_ao, x_ite, x_cmp, x_cmp2, x_sub, x_slice, x_glob, x_call, x_prim, x_bm, x_isi, x_list, x_tup, x_dict0, xs_nil, xs_cons, ao_one, ao_cons, xo_none, xo_some, xc_none, xc_some, tv, tsub, tattr, wtg, b_add, b_sub, b_mul, b_div, b_mod, b_pow, b_adds, c_lt, c_le, c_gt, c_ge, c_eq, c_ne, c_eqs, c_nes, c_in, c_nin, t_bool, t_int, t_none]; simp [v_0, x_lit, x_var, x_bin, x_neg, x_not, x_ao, x_ite, x_cmp, x_cmp2, x_sub, x_slice, x_glob, x_call, x_prim, x_bm, x_isi, x_list, x_tup, x_dict0, xs_nil, xs_cons, ao_one, ao_cons, xo_none, xo_some, xc_none, xc_some, tv, tsub, tattr, wtg, b_add, b_sub, b_mul, b_div, b_mod, b_pow, b_adds, c_lt, c_le, c_gt, c_ge, c_eq, c_ne, c_eqs, c_nes, c_in, c_nin, t_bool, t_int, t_none]
  by_cases hc : cl.fmod 2 = 1
  · simp [hc, t_bool]
    rw [w_cons, w_asg]
    dsimp [v_0, x_lit, x_var, x_bin, x_neg, x_not, x_ao, x_ite, x_cmp, x_cmp2, x_sub, x_slice, x_glob, x_call, x_prim, x_bm, x_isi, x_list, x_tup, x_dict0, xs_nil, xs_cons, ao_one, ao_cons, xo_none, xo_some, xc_none, xc_some, tv, tsub, tattr, wtg, b_add, b_sub, b_mul, b_div, b_mod, b_pow, b_adds, c_lt, c_le, c_gt, c_ge, c_eq, c_ne, c_eqs, c_nes, c_in, c_nin, t_bool, t_int, t_none]
    refine mixed_ok G h2 ?_
    rw [w_cons, w_ite]
    dsimp [v_0, x_lit, x_var, x_bin, x_neg, x_not, x_ao, x_ite, x_cmp, x_cmp2, x_sub, x_slice, x_glob, x_call, x_prim, x_bm, x_isi, x_list, x_tup, x_dict0, xs_nil, xs_cons, ao_one, ao_cons, xo_none, xo_some, xc_none, xc_some, tv, tsub, tattr, wtg, b_add, b_sub, b_mul, b_div, b_mod, b_pow, b_adds, c_lt, c_le, c_gt, c_ge, c_eq, c_ne, c_eqs, c_nes, c_in, c_nin, t_bool, t_int, t_none]; simp [v_0, x_lit, x_var, x_bin, x_neg, x_not, x_ao, x_ite, x_cmp, x_cmp2, x_sub, x_slice, x_glob, x_call, x_prim, x_bm, x_isi, x_list, x_tup, x_dict0, xs_nil, xs_cons, ao_one, ao_cons, xo_none, xo_some, xc_none, xc_some, tv, tsub, tattr, wtg, b_add, b_sub, b_mul, b_div, b_mod, b_pow, b_adds, c_lt, c_le, c_gt, c_ge, c_eq, c_ne, c_eqs, c_nes, c_in, c_nin, t_bool, t_int, t_none]
    by_cases hr : (mixed cl k).fmod 12 = 11
    · by_cases hk2 : k < 26
      · simp [hr, hk2, t_bool]
        rw [w_cons, w_ret]
        dsimp only [v_0, x_lit, x_var, x_bin, x_neg, x_not, x_ao, x_ite, x_cmp, x_cmp2, x_sub, x_slice, x_glob, x_call, x_prim, x_bm, x_isi, x_list, x_tup, x_dict0, xs_nil, xs_cons, ao_one, ao_cons, xo_none, xo_some, xc_none, xc_some, tv, tsub, tattr, wtg, b_add, b_sub, b_mul, b_div, b_mod, b_pow, b_adds, c_lt, c_le, c_gt, c_ge, c_eq, c_ne, c_eqs, c_nes, c_in, c_nin, t_bool, t_int, t_none]
        refine sub_let hk hk2 ?_
        have := q H .refl
        simpa [word, wordL, hc, hr, hk2] using this
      · simp [hr, hk2, t_bool]
        rw [w_nil, w_nil]
        refine word_tail fun H' hE => ?_
        have := q H' hE
        simpa [word, wordL, hc, hr, hk2] using this
    · simp [hr, t_bool]
      rw [w_nil, w_nil]
      refine word_tail fun H' hE => ?_
      have := q H' hE
      simpa [word, wordL, hc, hr] using this
  · simp [hc, t_bool]
    rw [w_nil]
    refine word_tail fun H' hE => ?_
    have := q H' hE
    simpa [word, wordL, hc] using this

set_option tactic.hygienic false in
theorem word_len {k cl : Int} : (word k cl).length ≤ 12 := by
  show (wordL k cl).toArray.size ≤ 12
  unfold wordL
  simp only [List.size_toArray]
  split
  · split
    · simp
    · have h1 : (((mixed cl k).fdiv 12).fmod 11) < 11 := fmod_hi (by omega)
      simp [moreP_len, toldL]; omega
  · have h1 : (((mixed cl 0).fdiv 12).fmod 11) < 11 := fmod_hi (by omega)
    simp [moreP_len, toldL]; omega

end
set_option tactic.hygienic false in
theorem chI_is : ∀ i : Fin 26, chI ((i.val : Nat) : Int) = 97 + i.val := by decide +kernel
set_option tactic.hygienic false in
theorem chI_inj {i j : Int} (h0 : 0 ≤ i) (h1 : i < 26) (h2 : 0 ≤ j) (h3 : j < 26) (h : chI i = chI j) : i = j := by
  have a := chI_is ⟨i.toNat, by omega⟩
  have b := chI_is ⟨j.toNat, by omega⟩
  simp only [Int.toNat_of_nonneg h0, Int.toNat_of_nonneg h2] at a b
  omega
set_option tactic.hygienic false in
theorem told_inj {k k' : Int} (h0 : 0 ≤ k) (h1 : k < 600) (h2 : 0 ≤ k') (h3 : k' < 600) (h : toldL k = toldL k') : k = k' := by
  simp only [toldL, List.cons.injEq, and_true] at h
  have a := chI_inj (fmod_lo (by omega)) (fmod_hi (by omega)) (fmod_lo (by omega)) (fmod_hi (by omega)) h.1
  have b := chI_inj (fmod_lo (by omega)) (fmod_hi (by omega)) (fmod_lo (by omega)) (fmod_hi (by omega)) h.2
  rw [Int.fmod_eq_emod_of_nonneg _ (by omega), Int.fmod_eq_emod_of_nonneg _ (by omega), Int.fdiv_eq_ediv_of_nonneg _ (by omega), Int.fdiv_eq_ediv_of_nonneg _ (by omega)] at a
  rw [Int.fmod_eq_emod_of_nonneg _ (by omega), Int.fmod_eq_emod_of_nonneg _ (by omega)] at b
  omega
theorem word_inj {k k' cl : Int} (h0 : 0 ≤ k) (h1 : k < 600) (h2 : 0 ≤ k') (h3 : k' < 600) (h : word k cl = word k' cl) : k = k' := by
  have h : wordL k cl = wordL k' cl := by
    have := congrArg (fun s => s.cps.toList) h
    simpa [word] using this
  unfold wordL at h
  split at h
  · dsimp only at h
    split at h
    · rename_i ha
      split at h
      · rename_i hb
        simp only [List.cons.injEq, and_true] at h
        exact chI_inj h0 ha.2 h2 hb.2 h
      · have := congrArg List.length h
        simp [toldL] at this
    · split at h
      · have := congrArg List.length h
        simp [toldL] at this
      · have e : toldL k = toldL k' := by
          have := congrArg (List.take 2) h
          simpa [toldL] using this
        exact told_inj h0 h1 h2 h3 e
  · dsimp only at h
    rw [List.append_assoc, List.append_assoc] at h
    have := List.append_cancel_left h
    exact told_inj h0 h1 h2 h3 (List.append_cancel_right this)
end Mine

end
section
open PySem PySem.W PyProof.Rows PySem.Spec PySem.SeqAt PySem.Calls
namespace Mine.L07
noncomputable def f__law_word : Fn := ⟨2, ["_law_k", "_law_cell", "_law_letters", "_law_told_here", "_law_rest", "_law_more", "_law_j", "_law_at"], [
  .assign (.var 2) (.lit (.str (Str.ofString "abcdefghijklmnopqrstuvwxyz"))),
  .assign (.var 3) (.bin .Add (.sub (.var 2) (.bin .Mod (.bin .FloorDiv (.var 0) (.lit (.int 26))) (.lit (.int 26)))) (.sub (.var 2) (.bin .Mod (.var 0) (.lit (.int 26))))),
  .assign (.var 4) (.call "_law_mixed" [(.var 1), (.lit (.int 0))]),
  .ite (.cmp .Eq (.bin .Mod (.var 1) (.lit (.int 2))) (.lit (.int 1))) [.assign (.var 4) (.call "_law_mixed" [(.var 1), (.var 0)]),
    .ite (.ao true [(.cmp .Eq (.bin .Mod (.var 4) (.lit (.int 12))) (.lit (.int 11))), (.cmp .Lt (.var 0) (.lit (.int 26)))]) [.ret (.sub (.var 2) (.var 0))] []] [],
  .assign (.var 5) (.lit (.str (Str.ofString ""))),
  .for (.var 6) (.prim .range [(.bin .Mod (.bin .FloorDiv (.var 4) (.lit (.int 12))) (.lit (.int 11)))]) [.assign (.var 5) (.bin .Add (.var 5) (.sub (.var 2) (.bin .Mod (.bin .FloorDiv (.var 4) (.lit (.int 300))) (.lit (.int 26))))),
    .assign (.var 4) (.bin .FloorDiv (.var 4) (.lit (.int 26)))],
  .ite (.cmp .Eq (.bin .Mod (.var 1) (.lit (.int 2))) (.lit (.int 1))) [.ret (.bin .Add (.var 3) (.var 5))] [],
  .assign (.var 7) (.bin .Mod (.bin .FloorDiv (.var 1) (.lit (.int 2))) (.bin .Add (.prim .len [(.var 5)]) (.lit (.int 1)))),
  .ret (.bin .Add (.bin .Add (.slice (.var 5) none (some (.var 7)) none) (.var 3)) (.slice (.var 5) (some (.var 7)) none none))]⟩
noncomputable def f__law_is_name : Fn := ⟨1, ["_law_thing", "_law_sign"], [
  .ite (.ao false [(.not (.isinst (.var 0) "str")), (.cmp .Eq (.var 0) (.lit (.str (Str.ofString "")))), (.cmp .Gt (.prim .len [(.var 0)]) (.lit (.int 12)))]) [.ret (.lit (.bool false))] [],
  .for (.var 1) (.var 0) [.ite (.cmp .NotIn (.var 1) (.lit (.str (Str.ofString "abcdefghijklmnopqrstuvwxyz")))) [.ret (.lit (.bool false))] []],
  .ret (.lit (.bool true))]⟩
noncomputable def f__law_told : Fn := ⟨4, ["_law_book", "_law_way", "_law_purse", "_law_amount", "_law_told_here"], [
  .try [.ite (.cmp .Eq (.var 1) (.lit (.int 0))) [.assign (.var 4) (.meth (.var 0) "open_purse" [(.var 2)])] [.ite (.cmp .Eq (.var 1) (.lit (.int 1))) [.assign (.var 4) (.meth (.var 0) "put" [(.var 2), (.var 3)])] [.assign (.var 4) (.meth (.var 0) "take" [(.var 2), (.var 3)])]]] [.mk "NoName" none [.ret (.lit (.str (Str.ofString "NoName")))], .mk "Taken" none [.ret (.lit (.str (Str.ofString "Taken")))], .mk "NoPurse" none [.ret (.lit (.str (Str.ofString "NoPurse")))], .mk "NoAmount" none [.ret (.lit (.str (Str.ofString "NoAmount")))], .mk "TooLittle" none [.ret (.lit (.str (Str.ofString "TooLittle")))]],
  .ret (.var 4)]⟩
noncomputable def f__law_due : Fn := ⟨4, ["_law_free", "_law_way", "_law_purse", "_law_amount"], [
  .ite (.cmp .Eq (.var 1) (.lit (.int 0))) [.ite (.not (.call "_law_is_name" [(.var 2)])) [.ret (.lit (.str (Str.ofString "NoName")))] [],
    .ite (.cmp .In (.var 2) (.var 0)) [.ret (.lit (.str (Str.ofString "Taken")))] [],
    .assign (.sub (.var 0) (.var 2)) (.lit (.int 0)),
    .ret (.lit .none)] [],
  .ite (.ao false [(.not (.isinst (.var 2) "str")), (.cmp .NotIn (.var 2) (.var 0))]) [.ret (.lit (.str (Str.ofString "NoPurse")))] [],
  .ite (.ao false [(.not (.call "_law_whole" [(.var 3)])), (.cmp .Lt (.var 3) (.lit (.int 1))), (.cmp .Gt (.var 3) (.bin .Pow (.lit (.int 10)) (.lit (.int 30))))]) [.ret (.lit (.str (Str.ofString "NoAmount")))] [],
  .ite (.ao true [(.cmp .Eq (.var 1) (.lit (.int 2))), (.cmp .Gt (.var 3) (.sub (.var 0) (.var 2)))]) [.ret (.lit (.str (Str.ofString "TooLittle")))] [],
  .assign (.sub (.var 0) (.var 2)) (.bin .Add (.sub (.var 0) (.var 2)) (.bin .Mult (.var 3) (.bin .Sub (.lit (.int 3)) (.bin .Mult (.lit (.int 2)) (.var 1))))),
  .ret (.lit .none)]⟩
noncomputable def f__law_one_same : Fn := ⟨5, ["_law_book", "_law_free", "_law_way", "_law_purse", "_law_held", "_law_told_here", "_law_found"], [
  .ite (.cmp .Lt (.var 2) (.lit (.int 2))) [.assign (.var 5) (.ite (.cmp .Eq (.var 2) (.lit (.int 0))) (.meth (.var 0) "free_of" [(.var 3)]) (.meth (.var 0) "aside_of" [(.var 3)])),
    .ret (.ao true [(.call "_law_whole" [(.var 5)]), (.cmp .Eq (.var 5) (.sub (.list [(.sub (.var 1) (.var 3)), (.lit (.int 0))]) (.var 2)))])] [],
  .assign (.var 6) (.ite (.cmp .Eq (.var 2) (.lit (.int 2))) (.meth (.var 0) "purses" []) (.meth (.var 0) "told" [])),
  .ite (.ao false [(.not (.isinst (.var 6) "list")), (.cmp .NotEq (.var 6) (.sub (.list [(.prim .list [(.var 1)]), (.list [])]) (.bin .Sub (.var 2) (.lit (.int 2)))))]) [.ret (.lit (.bool false))] [],
  .expr (.bm (.var 6) .append [(.lit (.str (Str.ofString "other")))]),
  .expr (.bm (.var 4) .append [(.tuple [(.var 6), (.prim .list [(.var 6)])])]),
  .ret (.lit (.bool true))]⟩
noncomputable def f__law_same : Fn := ⟨5, ["_law_book", "_law_free", "_law_some", "_law_turn", "_law_held", "_law_asked", "_law_purse", "_law_at"], [
  .ite (.cmp .Eq (.bin .Mod (.var 3) (.lit (.int 5))) (.lit (.int 4))) [.ret (.lit (.bool true))] [],
  .assign (.var 5) (.list [(.tuple [(.lit (.int 2)), (.lit (.str (Str.ofString "")))]), (.tuple [(.lit (.int 3)), (.lit (.str (Str.ofString "")))])]),
  .for (.var 6) (.var 2) [.ite (.cmp .In (.var 6) (.var 1)) [.assign (.var 5) (.bin .Add (.var 5) (.list [(.tuple [(.lit (.int 0)), (.var 6)]), (.tuple [(.lit (.int 1)), (.var 6)])]))] []],
  .assign (.var 7) (.bin .Mod (.bin .FloorDiv (.var 3) (.lit (.int 5))) (.prim .len [(.var 5)])),
  .assign (.var 5) (.slice (.bin .Add (.slice (.var 5) (some (.var 7)) none none) (.slice (.var 5) none (some (.var 7)) none)) none none (some (.bin .Sub (.lit (.int 1)) (.bin .Mult (.lit (.int 2)) (.bin .Mod (.bin .FloorDiv (.var 3) (.lit (.int 1000))) (.lit (.int 2))))))),
  .ret (.prim .all [(.comp (.call "_law_one_same" [(.var 0), (.var 1), (.var 8), (.var 9), (.var 4)]) 2 true (.var 5) none)])]⟩
noncomputable def f__law_refused_by_any : Fn := ⟨2, ["_law_book", "_law_purse", "e"], [
  .try [.expr (.meth (.var 0) "free_of" [(.var 1)])] [.mk "BookError" (some 2) [.ret (.isinst (.var 2) "ValueError")]],
  .ret (.lit (.bool false))]⟩
noncomputable def f__law_opened : Fn := ⟨4, ["_law_script", "_law_books", "_law_kept", "_law_words", "_law_first", "_law_name", "_law_j"], [
  .assign (.var 4) (.slice (.var 3) none (some (.lit (.int 2))) none),
  .ite (.cmp .Eq (.bin .Mod (.bin .FloorDiv (.call "_law_cell_at" [(.var 0), (.lit (.int 0))]) (.lit (.int 5))) (.lit (.int 8))) (.lit (.int 1))) [.assign (.var 4) (.bin .Add (.var 4) (.comp (.call "_law_word" [(.bin .Add (.lit (.int 40)) (.var 7)), (.call "_law_cell_at" [(.var 0), (.lit (.int 1))])]) 1 false (.prim .range [(.bin .Add (.lit (.int 60)) (.bin .Mod (.bin .FloorDiv (.sub (.var 0) (.lit (.int 0))) (.lit (.int 40))) (.lit (.int 140))))]) none))] [],
  .for (.var 5) (.var 4) [.for (.var 6) (.prim .range [(.lit (.int 2))]) [.expr (.meth (.sub (.var 1) (.var 6)) "open_purse" [(.var 5)]),
      .assign (.sub (.sub (.var 2) (.var 6)) (.var 5)) (.lit (.int 0))]],
  .ret (.var 4)]⟩
noncomputable def f_law : Fn := ⟨1, ["_law_script", "_law_books", "_law_kept", "_law_held", "_law_unit", "_law_many", "_law_words", "_law_first", "_law_some", "_law_k", "_law_cell", "_law_way", "_law_purse", "_law_amount", "_law_j"], [
  .assign (.var 1) (.list [(.new "Book" []), (.new "Book" [])]),
  .assign (.var 2) (.list [(.dict [] []), (.dict [] [])]),
  .assign (.var 3) (.list []),
  .assign (.var 4) (.lit (.int 1)),
  .ite (.cmp .Eq (.bin .Mod (.call "_law_cell_at" [(.var 0), (.lit (.int 0))]) (.lit (.int 5))) (.lit (.int 1))) [.assign (.var 4) (.bin .Pow (.lit (.int 10)) (.lit (.int 27)))] [],
  .assign (.var 5) (.lit (.int 30)),
  .ite (.cmp .Gt (.prim .len [(.var 0)]) (.lit (.int 63))) [.assign (.var 5) (.lit (.int 90))] [],
  .assign (.var 6) (.comp (.call "_law_word" [(.bin .Mult (.lit (.int 7)) (.var 15)), (.call "_law_cell_at" [(.var 0), (.lit (.int 1))])]) 1 false (.prim .range [(.lit (.int 5))]) none),
  .assign (.var 7) (.call "_law_opened" [(.var 0), (.var 1), (.var 2), (.var 6)]),
  .assign (.var 8) (.bin .Add (.var 6) (.list [(.sub (.var 7) (.neg (.lit (.int 1))))])),
  .assign (.var 6) (.bin .Add (.bin .Add (.var 6) (.var 6)) (.list [(.lit (.str (Str.ofString ""))), (.lit (.str (Str.ofString "Till"))), (.lit (.str (Str.ofString "abcdefghijklm"))), (.lit (.int 7)), (.lit .none), (.list [(.lit (.str (Str.ofString "till")))])])),
  .for (.var 9) (.prim .range [(.prim .min [(.var 5), (.prim .len [(.var 0)])])]) [.assign (.var 10) (.call "_law_mixed" [(.sub (.var 0) (.var 9)), (.var 9)]),
    .assign (.var 11) (.sub (.list [(.lit (.int 0)), (.lit (.int 1)), (.lit (.int 1)), (.lit (.int 1)), (.lit (.int 2)), (.lit (.int 2))]) (.bin .Mod (.var 10) (.lit (.int 6)))),
    .assign (.var 12) (.sub (.var 6) (.bin .Add (.bin .Mod (.bin .FloorDiv (.var 10) (.lit (.int 6))) (.lit (.int 11))) (.bin .Mult (.lit (.int 5)) (.bin .Mod (.bin .FloorDiv (.var 10) (.lit (.int 23760))) (.lit (.int 2)))))),
    .assign (.var 13) (.bin .Mult (.bin .Add (.lit (.int 1)) (.bin .Mod (.bin .FloorDiv (.var 10) (.lit (.int 66))) (.lit (.int 60)))) (.var 4)),
    .ite (.cmp .Eq (.bin .Mod (.bin .FloorDiv (.var 10) (.lit (.int 3960))) (.lit (.int 6))) (.lit (.int 1))) [.assign (.var 13) (.sub (.list [(.lit (.int 0)), (.neg (.lit (.int 1))), (.bin .Add (.bin .Pow (.lit (.int 10)) (.lit (.int 30))) (.lit (.int 1))), (.lit (.bool true)), (.lit (.str (Str.ofString "5"))), (.bin .Pow (.lit (.int 10)) (.lit (.int 30)))]) (.bin .Mod (.bin .FloorDiv (.var 10) (.lit (.int 23760))) (.lit (.int 6))))] [],
    .ite (.cmp .NotEq (.call "_law_told" [(.sub (.var 1) (.bin .Mod (.var 9) (.lit (.int 2)))), (.var 11), (.var 12), (.var 13)]) (.call "_law_due" [(.sub (.var 2) (.bin .Mod (.var 9) (.lit (.int 2)))), (.var 11), (.var 12), (.var 13)])) [.ret (.lit (.bool false))] [],
    .for (.var 14) (.prim .range [(.lit (.int 2))]) [.ite (.not (.call "_law_same" [(.sub (.var 1) (.var 14)), (.sub (.var 2) (.var 14)), (.var 8), (.bin .FloorDiv (.call "_law_mixed" [(.sub (.var 0) (.var 9)), (.bin .Add (.bin .Add (.var 9) (.lit (.int 31))) (.var 14))]) (.lit (.int 3))), (.var 3)])) [.ret (.lit (.bool false))] []]],
  .ite (.ao false [(.not (.call "_law_same" [(.sub (.var 1) (.lit (.int 0))), (.sub (.var 2) (.lit (.int 0))), (.var 7), (.lit (.int 0)), (.var 3)])), (.not (.call "_law_same" [(.sub (.var 1) (.lit (.int 1))), (.sub (.var 2) (.lit (.int 1))), (.var 8), (.lit (.int 1)), (.var 3)]))]) [.ret (.lit (.bool false))] [],
  .ite (.ao false [(.cmp .NotEq (.comp (.var 15) 1 false (.var 3) (some (.cmp .NotEq (.sub (.var 15) (.lit (.int 0))) (.sub (.var 15) (.lit (.int 1)))))) (.list [])), (.cmp .NotEq (.attr (.sub (.var 1) (.lit (.int 0))) "day") (.lit (.int 0)))]) [.ret (.lit (.bool false))] [],
  .ret (.call "_law_refused_by_any" [(.sub (.var 1) (.lit (.int 1))), (.lit (.str (Str.ofString "north")))])]⟩
noncomputable def P : Pg where
  fns := [("is_whole", BK.f_is_whole), ("is_name", BK.f_is_name), ("name_of", BK.f_name_of), ("amount_of", BK.f_amount_of), ("_law_whole", BK.f__law_whole), ("_law_cell_at", BK.f__law_cell_at), ("_law_mixed", BK.f__law_mixed), ("_law_word", f__law_word), ("_law_is_name", f__law_is_name), ("_law_told", f__law_told), ("_law_due", f__law_due), ("_law_one_same", f__law_one_same), ("_law_same", f__law_same), ("_law_refused_by_any", f__law_refused_by_any), ("_law_opened", f__law_opened), ("law", f_law), ("Book.__init__", BK.f_Book___init__), ("Book.need_purse", BK.f_Book_need_purse), ("Book.open_purse", BK.f_Book_open_purse), ("Book.put", BK.f_Book_put), ("Book.take", BK.f_Book_take), ("Book.purses", BK.f_Book_purses), ("Book.told", BK.f_Book_told), ("Book.free_of", BK.f_Book_free_of), ("Book.aside_of", BK.f_Book_aside_of)]
  gfns := ["_wall", "is_whole", "is_name", "name_of", "amount_of", "_law_whole", "_law_cell_at", "_law_mixed", "_law_word", "_law_is_name", "_law_told", "_law_due", "_law_one_same", "_law_same", "_law_refused_by_any", "_law_opened", "law"]
  consts := [("LETTERS", (.str (Str.ofString "abcdefghijklmnopqrstuvwxyz"))), ("MOST_SIGNS", (.int 12)), ("MOST_AMOUNT", (.int 1000000000000000000000000000000)), ("MOST", (.int 8))]
  excs := [("BookError", ["BookError", "ValueError"]), ("NoName", ["NoName", "BookError", "ValueError"]), ("NoAmount", ["NoAmount", "BookError", "ValueError"]), ("Taken", ["Taken", "BookError", "ValueError"]), ("NoPurse", ["NoPurse", "BookError", "ValueError"]), ("TooLittle", ["TooLittle", "BookError", "ValueError"]), ("NoRow", ["NoRow", "BookError", "ValueError"]), ("Twice", ["Twice", "BookError", "ValueError"]), ("Uneven", ["Uneven", "BookError", "ValueError"]), ("Fallen", ["Fallen", "BookError", "ValueError"]), ("NoDay", ["NoDay", "BookError", "ValueError"])]
  classes := ["Pact", "Book"]
  meths := [("Pact", "__init__"), ("Pact", "part_of"), ("Pact", "is_full"), ("Book", "__init__"), ("Book", "need_purse"), ("Book", "need_pact"), ("Book", "need_open"), ("Book", "open_purse"), ("Book", "put"), ("Book", "take"), ("Book", "pairs_of"), ("Book", "needs_of"), ("Book", "tell"), ("Book", "set_aside"), ("Book", "given_back"), ("Book", "draw_back"), ("Book", "fell"), ("Book", "first_dragged"), ("Book", "dragged"), ("Book", "call_off"), ("Book", "pass_days"), ("Book", "standing"), ("Book", "settle"), ("Book", "why_not"), ("Book", "purses"), ("Book", "told"), ("Book", "free_of"), ("Book", "aside_of"), ("Book", "state_of"), ("Book", "inside_of"), ("Book", "full")]
  attrs := [("Book", "aside"), ("Book", "day"), ("Book", "free"), ("Book", "pacts"), ("Pact", "gains"), ("Pact", "inside"), ("Pact", "last"), ("Pact", "name"), ("Pact", "needs"), ("Pact", "parts"), ("Pact", "state")]
  prims := ["ValueError", "all", "bool", "int", "isinstance", "len", "list", "min", "range", "str", "sum"]


end Mine.L07

end
section
open PySem PySem.W PyProof.Rows PySem.Spec PySem.SeqAt PySem.Calls
namespace Mine
set_option tactic.hygienic false in
theorem chI_let {i : Int} (h0 : 0 ≤ i) (h1 : i < 26) : letters.cps.toList.contains (chI i) = true := by
  have hlt : i.toNat < letters.cps.size := by rw [letters_size]; omega
  have : chI i = letters.cps[i.toNat] := by simp [chI, hlt]
  rw [this, List.contains_iff_mem]
  exact Array.mem_toList_iff.mpr (Array.getElem_mem hlt)
set_option tactic.hygienic false in
theorem moreP_let (r : Int) : ∀ j, ∀ ch ∈ (moreP r j).1, letters.cps.toList.contains ch = true
  | 0 => by intro ch h; cases h
  | j + 1 => by
    intro ch h
    rcases List.mem_append.mp h with h | h
    · exact moreP_let r j ch h
    · rw [List.mem_singleton] at h; subst h; exact chI_let (fmod_lo (by omega)) (fmod_hi (by omega))
set_option tactic.hygienic false in
theorem told_let {k : Int} : ∀ ch ∈ toldL k, letters.cps.toList.contains ch = true := by
  intro ch h
  simp only [toldL, List.mem_cons, List.not_mem_nil, or_false] at h
  rcases h with rfl | rfl <;> exact chI_let (fmod_lo (by omega)) (fmod_hi (by omega))
theorem word_nm {k cl : Int} (hk : 0 ≤ k) : isNm (word k cl) = true := by
  have h1 : ∀ ch ∈ wordL k cl, letters.cps.toList.contains ch = true := by
    unfold wordL
    intro ch h
    split at h
    · dsimp only at h
      split at h
      · rename_i z; rw [List.mem_singleton] at h; subst h; exact chI_let hk z.2
      · rcases List.mem_append.mp h with h | h
        · exact told_let ch h
        · exact moreP_let _ _ ch h
    · dsimp only at h
      rcases List.mem_append.mp h with h | h
      · rcases List.mem_append.mp h with h | h
        · exact moreP_let _ _ ch (List.mem_of_mem_take h)
        · exact told_let ch h
      · exact moreP_let _ _ ch (List.mem_of_mem_drop h)
  have h2 : 1 ≤ (word k cl).length := by
    show 1 ≤ (wordL k cl).toArray.size
    unfold wordL
    simp only [List.size_toArray]
    split
    · split <;> simp [toldL] <;> omega
    · simp [toldL]; omega
  have h3 : (word k cl).length ≤ 12 := word_len
  unfold isNm
  rw [Bool.and_eq_true]
  refine ⟨by simp [h2, h3], List.all_eq_true.mpr fun ch hc => h1 ch ?_⟩
  simpa [word] using hc
set_option tactic.hygienic false in
theorem Kn.str {H : AHeap} {s : Str} (h : s.length < 2 ^ 62) : Kn H (.str s) := ⟨⟨_, rfl⟩, fun t e => by cases e; exact h⟩
theorem Kn.nm {H : AHeap} {s : Str} (h : isNm s = true) : Kn H (.str s) := .str (by
  unfold isNm at h
  rw [Bool.and_eq_true, decide_eq_true_eq] at h
  exact Nat.lt_of_le_of_lt h.1.2 (by decide))
set_option tactic.hygienic false in
theorem Kn.int {H : AHeap} {i : Int} : Kn H (.int i) := ⟨⟨_, rfl⟩, fun t e => by cases e⟩

noncomputable def deedQ (B : Bk) (way : Int) (v a : AV) : Except String Bk := if way = 0 then openQ B v else if way = 1 then putQ B v a else takeQ B v a
noncomputable def ansV : Except String Bk → AV
  | .ok _ => .none
  | .error cl => .str (Str.ofString cl)
noncomputable def bkOf (B : Bk) : Except String Bk → Bk
  | .ok B' => B'
  | .error _ => B
noncomputable def deedCls : List String := ["NoName", "Taken", "NoPurse", "NoAmount", "TooLittle"]
set_option tactic.hygienic false in
theorem deed_cls {B : Bk} {way : Int} {v a : AV} {cl : String} (h : deedQ B way v a = .error cl) : cl ∈ deedCls := by
  unfold deedQ openQ putQ takeQ at h
  repeat' split at h
  all_goals first | (cases h; decide) | cases h
structure B7 (B : Bk) (m : Nat) : Prop where
  day : B.day = 0
  pacts : B.pacts = []
  nm : ∀ k, hs B.free k = true → isNm k = true
  as : ∀ k, hs B.free k = true → lk B.aside k = some 0
  fl : B.free.length ≤ m
  al : B.aside.length ≤ m
section
variable {g : Gx} {V : VV} {Q : AV → AHeap → Prop} {E : String → AHeap → Prop} {H : AHeap} {b : Addr} {B : Bk}
set_option tactic.hygienic false in
theorem bk_meth {i : Nat} {m : String} {xs : List X} (hP : g.c.P.meths = BK.meths) (hm : BK.meths.contains ("Book", m) = true) (hn : bookAttrs.contains m = false) (hb : H b = some (.book B)) (hV : V[i]? = some (some (.ref b)))
    (q : wpXs g xs V (fun vs H => CallOK g.c g.n g.md ("Book." ++ m) (.ref b :: vs) Q E H) E H) : wpX g (.meth (.var i) m xs) V Q E H := by
  simp only [x_attr, x_meth, x_var, hV, hb]
  exact ⟨by rw [hP]; exact hm, hn, q⟩
end
section
variable {g : Gx} {V : VV} {QN : VV → AHeap → Prop} {QR : AV → AHeap → Prop} {E : String → VV → AHeap → Prop} {H : AHeap} {cl cc : String} {r : List Hd} {bd : List S}
set_option tactic.hygienic false in
theorem hs_hit {P : Pg} (hP : g.c.P = P) (h : excSub P cl cc = true) (q : wpSs { g with md := false } bd QN QR (fun _ _ _ => False) V H) : wpHs g (.mk cc none bd :: r) cl QN QR E V H := by
  rw [hs_cons', h_mk', hP, h]; exact q
set_option tactic.hygienic false in
theorem hs_hitv {P : Pg} {i : Nat} (hP : g.c.P = P) (h : excSub P cl cc = true) (q : ∀ a, H a = none → i < V.length ∧ wpSs { g with md := false } bd (fun V H => QN (V.set i none) H) QR (fun _ _ _ => False) (V.set i (some (.ref a))) (up H a (.exc cl))) : wpHs g (.mk cc (some i) bd :: r) cl QN QR E V H := by
  rw [hs_cons', h_mk', hP, h]; exact q
set_option tactic.hygienic false in
theorem hs_miss {P : Pg} {nm : Option Nat} (hP : g.c.P = P) (h : excSub P cl cc = false) (q : wpHs g r cl QN QR E V H) : wpHs g (.mk cc nm bd :: r) cl QN QR E V H := by
  rw [hs_cons', h_mk', hP, h]; exact q
end
theorem U7 : HasA L07.P := ⟨rfl, rfl, rfl, rfl, rfl, rfl, rfl, rfl, rfl, rfl, rfl, rfl, rfl, rfl, rfl⟩

section
variable {c : Cx} (G : Gd c L07.P) {n : Nat} {md : Bool} {Q : AV → AHeap → Prop} {E : String → AHeap → Prop} {H : AHeap} {b d : Addr} {B : Bk}
include G
set_option tactic.hygienic false in
theorem told7_ok {way : Int} {v a : AV} (hw : way = 0 ∨ way = 1 ∨ way = 2) (hb : H b = some (.book B)) (hz : B.Sz) (hv : Kn H v) (ha : Kn H a) (q : Q (ansV (deedQ B way v a)) (up H b (.book (bkOf B (deedQ B way v a))))) : CallOK c (n + 4) true "_law_told" [.ref b, .int way, v, a] Q E H := by
  refine G.call (F := L07.f__law_told) rfl rfl ?_
  have hM : c.P.meths = BK.meths := by rw [G.hP]; rfl
  simp only [L07.f__law_told, initV, w_cons, s_try']
  refine ⟨trivial, ?_⟩
  have hc := @deed_cls B way v a
  have key : ∀ V : VV, Ends (deedQ B way v a) (fun B' => Q .none (up H b (.book B'))) (fun cl => wpHs ⟨c, n + 3, true⟩ [.mk "NoName" none [.ret (.lit (.str (Str.ofString "NoName")))], .mk "Taken" none [.ret (.lit (.str (Str.ofString "Taken")))], .mk "NoPurse" none [.ret (.lit (.str (Str.ofString "NoPurse")))], .mk "NoAmount" none [.ret (.lit (.str (Str.ofString "NoAmount")))], .mk "TooLittle" none [.ret (.lit (.str (Str.ofString "TooLittle")))]] cl (fun V H => wpSs ⟨c, n + 3, true⟩ [.ret (.var 4)] (fun _ H => Q .none H) Q (fun cl _ H => E cl H) V H) Q (fun cl _ H => E cl H) V H) := by
    intro V
    revert hc q
    cases deedQ B way v a with
    | ok B' => intro q hc; exact q
    | error cl =>
      intro q hc
      have := hc rfl
      simp only [bkOf, up_id hb, ansV] at q
      simp only [Ends]
      simp only [deedCls, List.mem_cons, List.not_mem_nil, or_false] at this
      rcases this with rfl | rfl | rfl | rfl | rfl <;>
        (repeat' first | refine hs_hit (P := L07.P) G.hP rfl ?_ | refine hs_miss (P := L07.P) G.hP rfl ?_) <;> exact q
  rcases hw with rfl | rfl | rfl
  · simp [v_0, x_lit, x_var, x_bin, x_neg, x_not, x_ao, x_ite, x_cmp, x_cmp2, x_sub, x_slice, x_glob, x_call, x_prim, x_bm, x_isi, x_list, x_tup, x_dict0, xs_nil, xs_cons, ao_one, ao_cons, xo_none, xo_some, xc_none, xc_some, tv, wtg, b_add, b_sub, b_mul, b_div, b_mod, b_pow, b_adds, c_lt, c_le, c_gt, c_ge, c_eq, c_ne, c_eqs, c_nes, c_in, c_nin, t_bool, t_int, t_none, w_cons, w_nil, w_ite, w_ret, w_asg, s_expr', s_raise']
    refine bk_meth hM (by decide) (by decide) hb rfl ?_
    simp only [v_0, x_lit, x_var, x_bin, x_neg, x_not, x_ao, x_ite, x_cmp, x_cmp2, x_sub, x_slice, x_glob, x_call, x_prim, x_bm, x_isi, x_list, x_tup, x_dict0, xs_nil, xs_cons, ao_one, ao_cons, xo_none, xo_some, xc_none, xc_some, tv, wtg, b_add, b_sub, b_mul, b_div, b_mod, b_pow, b_adds, c_lt, c_le, c_gt, c_ge, c_eq, c_ne, c_eqs, c_nes, c_in, c_nin, t_bool, t_int, t_none]
    refine open_B G U7 hb hv hz ?_
    have k := key [some (.ref b), some (.int 0), some v, some a, none]
    exact k
  · simp [v_0, x_lit, x_var, x_bin, x_neg, x_not, x_ao, x_ite, x_cmp, x_cmp2, x_sub, x_slice, x_glob, x_call, x_prim, x_bm, x_isi, x_list, x_tup, x_dict0, xs_nil, xs_cons, ao_one, ao_cons, xo_none, xo_some, xc_none, xc_some, tv, wtg, b_add, b_sub, b_mul, b_div, b_mod, b_pow, b_adds, c_lt, c_le, c_gt, c_ge, c_eq, c_ne, c_eqs, c_nes, c_in, c_nin, t_bool, t_int, t_none, w_cons, w_nil, w_ite, w_ret, w_asg, s_expr', s_raise']
    refine bk_meth hM (by decide) (by decide) hb rfl ?_
    simp only [v_0, x_lit, x_var, x_bin, x_neg, x_not, x_ao, x_ite, x_cmp, x_cmp2, x_sub, x_slice, x_glob, x_call, x_prim, x_bm, x_isi, x_list, x_tup, x_dict0, xs_nil, xs_cons, ao_one, ao_cons, xo_none, xo_some, xc_none, xc_some, tv, wtg, b_add, b_sub, b_mul, b_div, b_mod, b_pow, b_adds, c_lt, c_le, c_gt, c_ge, c_eq, c_ne, c_eqs, c_nes, c_in, c_nin, t_bool, t_int, t_none]
    refine put_B G U7 rfl hb hv ha hz ?_
    have k := key [some (.ref b), some (.int 1), some v, some a, none]
    exact k
  · simp [v_0, x_lit, x_var, x_bin, x_neg, x_not, x_ao, x_ite, x_cmp, x_cmp2, x_sub, x_slice, x_glob, x_call, x_prim, x_bm, x_isi, x_list, x_tup, x_dict0, xs_nil, xs_cons, ao_one, ao_cons, xo_none, xo_some, xc_none, xc_some, tv, wtg, b_add, b_sub, b_mul, b_div, b_mod, b_pow, b_adds, c_lt, c_le, c_gt, c_ge, c_eq, c_ne, c_eqs, c_nes, c_in, c_nin, t_bool, t_int, t_none, w_cons, w_nil, w_ite, w_ret, w_asg, s_expr', s_raise']
    refine bk_meth hM (by decide) (by decide) hb rfl ?_
    simp only [v_0, x_lit, x_var, x_bin, x_neg, x_not, x_ao, x_ite, x_cmp, x_cmp2, x_sub, x_slice, x_glob, x_call, x_prim, x_bm, x_isi, x_list, x_tup, x_dict0, xs_nil, xs_cons, ao_one, ao_cons, xo_none, xo_some, xc_none, xc_some, tv, wtg, b_add, b_sub, b_mul, b_div, b_mod, b_pow, b_adds, c_lt, c_le, c_gt, c_ge, c_eq, c_ne, c_eqs, c_nes, c_in, c_nin, t_bool, t_int, t_none]
    refine take_B G U7 rfl hb hv ha hz ?_
    have k := key [some (.ref b), some (.int 2), some v, some a, none]
    exact k
end
end Mine

end
section
open PySem PySem.W PyProof.Rows PySem.Spec PySem.SeqAt PySem.Calls
namespace Mine
section
variable {c : Cx} {P : Pg} (G : Gd c P) {n : Nat} {md : Bool} {Q : AV → AHeap → Prop} {E : String → AHeap → Prop} {H : AHeap} {b d : Addr} {B : Bk}
include G
set_option tactic.hygienic false in
theorem lwhole_ok (h : P.fns.lookup "_law_whole" = some BK.f__law_whole) {v : AV} (hk : Kn H v) (q : Q (.bool (wholeB v)) H) : CallOK c (n + 1) md "_law_whole" [v] Q E H := by
  obtain ⟨⟨k, hk⟩, _⟩ := hk
  refine G.call (F := BK.f__law_whole) h rfl ?_
  have : ∀ k, vkind H v = some k → (k = "int" ∧ wholeB v = true) ∨ (k ≠ "int" ∧ wholeB v = false) := by
    intro k hk
    cases v with
    | ref a => right; simp only [vkind] at hk; split at hk <;> simp at hk <;> subst hk <;> exact ⟨by decide, rfl⟩
    | _ => simp [vkind] at hk; subst hk; first | exact .inl ⟨rfl, rfl⟩ | exact .inr ⟨by decide, rfl⟩
  rcases this k hk with ⟨rfl, h⟩ | ⟨h1, h2⟩
  · rw [h] at q
    simp [BK.f__law_whole, initV, isinstV, hk, v_0, x_lit, x_var, x_bin, x_neg, x_not, x_ao, x_ite, x_cmp, x_cmp2, x_sub, x_slice, x_glob, x_call, x_prim, x_bm, x_isi, x_list, x_tup, x_dict0, xs_nil, xs_cons, ao_one, ao_cons, xo_none, xo_some, xc_none, xc_some, tv, wtg, b_add, b_sub, b_mul, b_div, b_mod, b_pow, b_adds, c_lt, c_le, c_gt, c_ge, c_eq, c_ne, c_eqs, c_nes, c_in, c_nin, t_bool, t_int, t_none, w_cons, w_nil, w_ite, w_ret, w_asg, s_expr', s_raise']
    exact q
  · rw [h2] at q
    have e1 : (k == "int") = false := by simpa using h1
    by_cases hb : k = "bool"
    · subst hb
      simp [BK.f__law_whole, initV, isinstV, hk, v_0, x_lit, x_var, x_bin, x_neg, x_not, x_ao, x_ite, x_cmp, x_cmp2, x_sub, x_slice, x_glob, x_call, x_prim, x_bm, x_isi, x_list, x_tup, x_dict0, xs_nil, xs_cons, ao_one, ao_cons, xo_none, xo_some, xc_none, xc_some, tv, wtg, b_add, b_sub, b_mul, b_div, b_mod, b_pow, b_adds, c_lt, c_le, c_gt, c_ge, c_eq, c_ne, c_eqs, c_nes, c_in, c_nin, t_bool, t_int, t_none, w_cons, w_nil, w_ite, w_ret, w_asg, s_expr', s_raise']
      exact q
    · have e2 : (k == "bool") = false := by simpa using hb
      simp [BK.f__law_whole, initV, isinstV, hk, e1, e2, v_0, x_lit, x_var, x_bin, x_neg, x_not, x_ao, x_ite, x_cmp, x_cmp2, x_sub, x_slice, x_glob, x_call, x_prim, x_bm, x_isi, x_list, x_tup, x_dict0, xs_nil, xs_cons, ao_one, ao_cons, xo_none, xo_some, xc_none, xc_some, tv, wtg, b_add, b_sub, b_mul, b_div, b_mod, b_pow, b_adds, c_lt, c_le, c_gt, c_ge, c_eq, c_ne, c_eqs, c_nes, c_in, c_nin, t_bool, t_int, t_none, w_cons, w_nil, w_ite, w_ret, w_asg, s_expr', s_raise']
      exact q
end
section
variable {c : Cx} (G : Gd c L07.P) {n : Nat} {md : Bool} {Q : AV → AHeap → Prop} {E : String → AHeap → Prop} {H : AHeap} {b d : Addr} {B : Bk}
include G
set_option tactic.hygienic false in
theorem lname_ok {v : AV} (hk : Kn H v) (q : Q (.bool (nameB v)) H) : CallOK c (n + 1) true "_law_is_name" [v] Q E H := by
  obtain ⟨⟨k, hk⟩, hl⟩ := hk
  refine G.call (F := L07.f__law_is_name) rfl rfl ?_
  by_cases hks : k = "str"
  · subst hks
    obtain ⟨s, rfl⟩ := kind_str hk
    have hl := hl s rfl
    simp only [L07.f__law_is_name, w_cons, w_ite]
    simp [initV, isinstV, hk, p_lens, p_range, p_range2, p_lenr, p_listr, p_allr, hl, w_nil, v_0, x_lit, x_var, x_bin, x_neg, x_not, x_ao, x_ite, x_cmp, x_cmp2, x_sub, x_slice, x_glob, x_call, x_prim, x_bm, x_isi, x_list, x_tup, x_dict0, xs_nil, xs_cons, ao_one, ao_cons, xo_none, xo_some, xc_none, xc_some, tv, wtg, b_add, b_sub, b_mul, b_div, b_mod, b_pow, b_adds, c_lt, c_le, c_gt, c_ge, c_eq, c_ne, c_eqs, c_nes, c_in, c_nin, t_bool, t_int, t_none]
    by_cases a : s = Str.ofString ""
    · subst a
      dsimp [w_ret, v_0, x_lit, x_var, x_bin, x_neg, x_not, x_ao, x_ite, x_cmp, x_cmp2, x_sub, x_slice, x_glob, x_call, x_prim, x_bm, x_isi, x_list, x_tup, x_dict0, xs_nil, xs_cons, ao_one, ao_cons, xo_none, xo_some, xc_none, xc_some, tv, wtg, b_add, b_sub, b_mul, b_div, b_mod, b_pow, b_adds, c_lt, c_le, c_gt, c_ge, c_eq, c_ne, c_eqs, c_nes, c_in, c_nin, t_bool, t_int, t_none]
      exact q
    · have a' : 1 ≤ s.length := by
        rcases Nat.eq_zero_or_pos s.length with h | h
        · exact absurd (show s = Str.ofString "" by cases s with | mk cps => show Str.mk cps = Str.mk #[]; congr 1; exact Array.eq_empty_of_size_eq_zero h) a
        · exact h
      by_cases b : (12 : Int) < s.length
      · simp [a, b, w_ret, v_0, x_lit, x_var, x_bin, x_neg, x_not, x_ao, x_ite, x_cmp, x_cmp2, x_sub, x_slice, x_glob, x_call, x_prim, x_bm, x_isi, x_list, x_tup, x_dict0, xs_nil, xs_cons, ao_one, ao_cons, xo_none, xo_some, xc_none, xc_some, tv, wtg, b_add, b_sub, b_mul, b_div, b_mod, b_pow, b_adds, c_lt, c_le, c_gt, c_ge, c_eq, c_ne, c_eqs, c_nes, c_in, c_nin, t_bool, t_int, t_none]
        have : nameB (.str s) = false := by simp [nameB, isNm]; omega
        rw [this] at q; exact q
      · simp [a, b, v_0, x_lit, x_var, x_bin, x_neg, x_not, x_ao, x_ite, x_cmp, x_cmp2, x_sub, x_slice, x_glob, x_call, x_prim, x_bm, x_isi, x_list, x_tup, x_dict0, xs_nil, xs_cons, ao_one, ao_cons, xo_none, xo_some, xc_none, xc_some, tv, wtg, b_add, b_sub, b_mul, b_div, b_mod, b_pow, b_adds, c_lt, c_le, c_gt, c_ge, c_eq, c_ne, c_eqs, c_nes, c_in, c_nin, t_bool, t_int, t_none]
        refine signs (e := .lit (.str (Str.ofString "abcdefghijklmnopqrstuvwxyz"))) rfl (fun V H Q E => rfl) rfl (fun h a => ?_) (fun h => ?_)
        · simp [w_ret, v_0, x_lit, x_var, x_bin, x_neg, x_not, x_ao, x_ite, x_cmp, x_cmp2, x_sub, x_slice, x_glob, x_call, x_prim, x_bm, x_isi, x_list, x_tup, x_dict0, xs_nil, xs_cons, ao_one, ao_cons, xo_none, xo_some, xc_none, xc_some, tv, wtg, b_add, b_sub, b_mul, b_div, b_mod, b_pow, b_adds, c_lt, c_le, c_gt, c_ge, c_eq, c_ne, c_eqs, c_nes, c_in, c_nin, t_bool, t_int, t_none]
          have : nameB (.str s) = true := by simp only [nameB, isNm, h]; simp; omega
          rw [this] at q; exact q
        · have : nameB (.str s) = false := by simp only [nameB, isNm, h]; simp
          rw [this] at q; exact q
  · have e1 : (k == "str") = false := by simpa using hks
    simp only [L07.f__law_is_name, w_cons, w_ite]
    dsimp [v_0, x_lit, x_var, x_bin, x_neg, x_not, x_ao, x_ite, x_cmp, x_cmp2, x_sub, x_slice, x_glob, x_call, x_prim, x_bm, x_isi, x_list, x_tup, x_dict0, xs_nil, xs_cons, ao_one, ao_cons, xo_none, xo_some, xc_none, xc_some, tv, wtg, b_add, b_sub, b_mul, b_div, b_mod, b_pow, b_adds, c_lt, c_le, c_gt, c_ge, c_eq, c_ne, c_eqs, c_nes, c_in, c_nin, t_bool, t_int, t_none]; simp [initV, isinstV, hk, e1, w_nil, w_ret, w_cons, v_0, x_lit, x_var, x_bin, x_neg, x_not, x_ao, x_ite, x_cmp, x_cmp2, x_sub, x_slice, x_glob, x_call, x_prim, x_bm, x_isi, x_list, x_tup, x_dict0, xs_nil, xs_cons, ao_one, ao_cons, xo_none, xo_some, xc_none, xc_some, tv, wtg, b_add, b_sub, b_mul, b_div, b_mod, b_pow, b_adds, c_lt, c_le, c_gt, c_ge, c_eq, c_ne, c_eqs, c_nes, c_in, c_nin, t_bool, t_int, t_none]
    rw [name_not hk hks] at q
    exact q
set_option tactic.hygienic false in
theorem str_kind {v : AV} {k : String} (hk : vkind H v = some k) (h : k ≠ "str") : ∀ s, v ≠ .str s := fun s e => by subst e; simp [vkind] at hk; exact h hk.symm
set_option tactic.hygienic false in
theorem due7_ok {way : Int} {v a : AV} {ep : Nat} (hw : way = 0 ∨ way = 1 ∨ way = 2) (hd : H d = some (.dict ep (dI B.free))) (hn : ∀ k, hs B.free k = true → isNm k = true) (hz : B.Sz) (hv : Kn H v) (ha : Kn H a) (q : ∀ ep', Q (ansV (deedQ B way v a)) (up H d (.dict ep' (dI (bkOf B (deedQ B way v a)).free)))) : CallOK c (n + 2) true "_law_due" [.ref d, .int way, v, a] Q E H := by
  refine G.call (F := L07.f__law_due) rfl rfl ?_
  show wpSs _ L07.f__law_due.body _ _ _ [some (.ref d), some (.int way), some v, some a] _
  unfold L07.f__law_due
  have qe : ∀ cl, deedQ B way v a = .error cl → Q (.str (Str.ofString cl)) H := fun cl e => by
    have q0 := q ep
    rw [e, show (bkOf B (.error cl)).free = B.free from rfl, up_id hd] at q0; exact q0
  have qk : ∀ B', deedQ B way v a = .ok B' → ∀ ep', Q .none (up H d (.dict ep' (dI B'.free))) := fun B' e ep' => by
    have q0 := q ep'; rw [e] at q0; exact q0
  clear q
  refine w_st fun K nx => ?_
  rw [w_ite, x_cmp, x_var]
  show wpX _ (.lit (.int 0)) _ _ _ _
  rw [x_lit, c_eq, t_bool]
  by_cases w0 : way = 0
  · subst w0
    rw [if_pos (by decide)]
    have hQ : deedQ B 0 v a = if nameB v then (if hs B.free (keyOf v) then .error "Taken" else .ok { B with free := pt B.free (keyOf v) 0, aside := pt B.aside (keyOf v) 0 }) else .error "NoName" := rfl
    refine w_st fun K nx => ?_
    rw [w_ite, x_not, x_call, xs_cons]
    refine lname_ok G hv ?_
    cases hv' : nameB v with
    | false => exact qe _ (by rw [hQ, hv']; rfl)
    | true =>
      obtain ⟨k, rfl⟩ : ∃ k, v = .str k := ⟨_, name_key hv'⟩
      refine nx _ _ ?_
      refine w_st fun K nx => ?_
      rw [w_ite, x_cmp, x_var]
      show wpX _ (.var 0) _ _ _ _
      rw [x_var]
      show wcmp .In _ _ _ _
      rw [c_in]
      refine win_dict hd ?_
      rw [look_dI, Option.isSome_map]
      change wtruth (.bool (hs B.free k != false)) _ _
      cases hh : hs B.free k with
      | true => exact qe _ (by rw [hQ, hv', show hs B.free (keyOf (.str k)) = true from hh]; rfl)
      | false =>
        refine nx _ _ ?_
        refine w_st fun K nx => ?_
        rw [w_asg, x_lit, tsub, x_var]
        simp only [List.map_cons, List.map_nil, List.cons_append, List.nil_append, List.getElem?_cons_succ, List.getElem?_cons_zero, x_var, hd]
        refine ⟨by rw [dI_len]; exact hz.1, fun ep' => ?_⟩
        rw [put_dI]
        exact nx _ _ (qk { B with free := pt B.free k 0, aside := pt B.aside k 0 } (by rw [hQ, hv', show hs B.free (keyOf (.str k)) = false from hh]; rfl) ep')
  · have w0' : (way == 0) = false := by simpa using w0
    rw [w0', if_neg (by decide)]
    refine nx _ _ ?_
    obtain ⟨⟨kd, hkd⟩, hl⟩ := hv
    have hQ : deedQ B way v a = if purseB B v then (if amountB a then (if way = 2 ∧ freeOf B v < intOf a then .error "TooLittle" else .ok { B with free := pt B.free (keyOf v) (freeOf B v + intOf a * (3 - 2 * way)) }) else .error "NoAmount") else .error "NoPurse" := by
      unfold deedQ putQ takeQ
      rcases hw with rfl | rfl | rfl
      · exact absurd rfl w0
      · simp
      · have : freeOf B v + intOf a * (3 - 2 * 2) = freeOf B v - intOf a := by omega
        rw [this]
        simp
    refine w_st fun K nx => ?_
    rw [w_ite, x_ao, ao_cons, x_not, x_isi]
    show (match isinstV c.P H v "str" with | some b => _ | none => False)
    have hi : isinstV c.P H v "str" = some (kd == "str") := by simp [isinstV, hkd]
    rw [hi]
    by_cases hks : kd = "str"
    · subst hks
      obtain ⟨k, rfl⟩ := kind_str hkd
      show wpAO _ _ _ _ _ _ _
      rw [ao_one, x_cmp, x_var]
      show wpX _ (.var 0) _ _ _ _
      rw [x_var]
      show wcmp .NotIn _ _ _ _
      rw [c_nin]
      refine win_dict hd ?_
      rw [look_dI, Option.isSome_map]
      change wtruth (.bool (hs B.free k != true)) _ _
      cases hh : hs B.free k with
      | false =>
        have e : purseB B (.str k) = false := by simp [purseB, hh]
        exact qe _ (by rw [hQ, e]; rfl)
      | true =>
        have e : purseB B (.str k) = true := by simp [purseB, hh, hn k hh]
        have hf := purse_free e
        simp only [keyOf] at hf
        refine nx _ _ ?_
        refine w_st fun K nx => ?_
        rw [w_ite, x_ao, ao_cons, x_not, x_call, xs_cons]
        refine lwhole_ok G rfl ha ?_
        cases hw' : wholeB a with
        | false =>
          have e2 : amountB a = false := by cases a <;> first | rfl | cases hw'
          exact qe _ (by rw [hQ, e, e2]; rfl)
        | true =>
          obtain ⟨i, rfl⟩ : ∃ i, a = .int i := by cases a <;> first | exact ⟨_, rfl⟩ | cases hw'
          have sub_d : ∀ {Q' : AV → AHeap → Prop}, Q' (.int (freeOf B (.str k))) H → wsub (.ref d) (.str k) Q' H := fun {Q'} q' => by
            simp only [sub_ri, sub_rs, sub_si, hd]
            exact ⟨.int (freeOf B (.str k)), by rw [look_dI, hf]; rfl, q'⟩
          have fin : ∀ {QN : VV → AHeap → Prop} {V : VV} {x : Int}, V[0]? = some (some (.ref d)) → V[2]? = some (some (.str k)) → (∀ ep', QN V (up H d (.dict ep' (dI (pt B.free k x))))) → wpT ⟨c, n + 1, true⟩ (.sub (.var 0) (.var 2)) (.int x) V QN (fun cl H => E cl H) H := fun {QN V x} h0 h2 q' => by
            rw [tsub]
            simp only [x_var, h0, h2, hd]
            refine ⟨by rw [dI_len]; exact hz.1, fun ep' => ?_⟩
            rw [put_dI]
            exact q' ep'
          show wpAO _ _ _ _ _ _ _
          rw [ao_cons, x_cmp, x_var]
          show wpX _ (.lit (.int 1)) _ _ _ _
          rw [x_lit, c_lt]
          by_cases a1 : i < 1
          · have e2 : amountB (.int i) = false := by simp [amountB]; omega
            rw [decide_eq_true a1]
            exact qe _ (by rw [hQ, e, e2]; rfl)
          · rw [decide_eq_false a1]
            show wpAO _ _ _ _ _ _ _
            rw [ao_one, x_cmp, x_var]
            show wpX _ (.bin .Pow _ _) _ _ _ _
            rw [x_bin, x_lit, x_lit, b_pow]
            refine ⟨⟨by decide, by decide, by decide +kernel⟩, ?_⟩
            have e10 : (10 : Int) ^ Int.toNat 30 = 1000000000000000000000000000000 := by decide
            rw [e10, c_gt]
            by_cases a2 : 1000000000000000000000000000000 < i
            · have e2 : amountB (.int i) = false := by simp [amountB]; omega
              rw [decide_eq_true a2]
              exact qe _ (by rw [hQ, e, e2]; rfl)
            · have e2 : amountB (.int i) = true := by simp [amountB]; omega
              rw [decide_eq_false a2]
              refine nx _ _ ?_
              refine w_st fun K nx => ?_
              rw [w_ite, x_ao, ao_cons, x_cmp, x_var]
              show wpX _ (.lit (.int 2)) _ _ _ _
              rw [x_lit, c_eq, t_bool]
              by_cases w2 : way = 2
              · subst w2
                rw [if_pos (by decide)]
                show wpAO _ _ _ _ _ _ _
                rw [ao_one, x_cmp, x_var]
                show wpX _ (.sub _ _) _ _ _ _
                rw [x_sub, x_var]
                show wpX _ (.var 2) _ _ _ _
                rw [x_var]
                refine sub_d ?_
                rw [c_gt]
                by_cases hlt : freeOf B (.str k) < i
                · rw [decide_eq_true hlt]
                  exact qe _ (by rw [hQ, e, e2, if_pos rfl, if_pos rfl, if_pos ⟨rfl, hlt⟩])
                · rw [decide_eq_false hlt]
                  refine nx _ _ ?_
                  refine w_st fun K nx => ?_
                  rw [w_asg, x_bin, x_sub]
                  refine sub_d ?_
                  show IntMulOk 2 2 ∧ IntMulOk i (3 - 2 * 2) ∧ _
                  refine ⟨IntMulOk.of_right (by decide +kernel), IntMulOk.of_right (by decide +kernel), ?_⟩
                  show wbin .Add _ _ _ _
                  rw [b_add]
                  refine fin ?_ ?_ (fun ep' => nx _ _ (qk { B with free := pt B.free k (freeOf B (.str k) + i * (3 - 2 * 2)) } (by rw [hQ, e, e2, if_pos rfl, if_pos rfl, if_neg (fun z => hlt z.2)]; rfl) ep')) <;> rfl
              · obtain rfl : way = 1 := by omega
                refine nx _ _ ?_
                refine w_st fun K nx => ?_
                rw [w_asg, x_bin, x_sub]
                refine sub_d ?_
                show IntMulOk 2 1 ∧ IntMulOk i (3 - 2 * 1) ∧ _
                refine ⟨IntMulOk.of_right (by decide +kernel), IntMulOk.of_right (by decide +kernel), ?_⟩
                show wbin .Add _ _ _ _
                rw [b_add]
                refine fin ?_ ?_ (fun ep' => nx _ _ (qk { B with free := pt B.free k (freeOf B (.str k) + i * (3 - 2 * 1)) } (by rw [hQ, e, e2, if_pos rfl, if_pos rfl, if_neg (fun z => w2 z.1)]; rfl) ep')) <;> rfl
    · have e1 : (kd == "str") = false := by simpa using hks
      have e : purseB B v = false := by cases v <;> first | rfl | (exact absurd rfl (str_kind G hkd hks _))
      rw [e1]
      exact qe _ (by rw [hQ, e]; rfl)
end
end Mine

end
section
open PySem PySem.W PyProof.Rows PySem.Spec PySem.SeqAt PySem.Calls
namespace Mine
set_option tactic.hygienic false in
theorem isi_list {P : Pg} {H : AHeap} {a : Addr} {xs : List AV} (h : H a = some (.list xs)) : isinstV P H (.ref a) "list" = some true := by simp [isinstV, vkind, h]
noncomputable def KeepX (H H' : AHeap) (hd : Addr) : Prop := ∀ a x, a ≠ hd → H a = some x → H' a = some x
theorem KeepX.refl {H : AHeap} {hd : Addr} : KeepX H H hd := fun _ _ _ h => h
theorem KeepX.trans {H H' H'' : AHeap} {hd : Addr} (x : KeepX H H' hd) (y : KeepX H' H'' hd) : KeepX H H'' hd := fun a o n h => y a o n (x a o n h)
theorem KeepX.ext {H H' : AHeap} {hd : Addr} (x : Ext H H') : KeepX H H' hd := fun a o _ h => x a o h
set_option tactic.hygienic false in
theorem KeepX.hd {H H' : AHeap} {hd : Addr} {y : AObj} (x : KeepX H H' hd) : KeepX H (up H' hd y) hd := fun a o n h => by rw [up_other n]; exact x a o n h
noncomputable def AObj.lt : AObj → Bool
  | .list _ => true
  | .tuple _ => true
  | _ => false
structure HeldOK (H : AHeap) (hd : Addr) (m : Nat) : Prop where
  ex : ∃ es, H hd = some (.list es) ∧ es.length ≤ m ∧ ∀ e ∈ es, ∃ t x y l, e = .ref t ∧ t ≠ hd ∧ x ≠ hd ∧ y ≠ hd ∧ H t = some (.tuple [.ref x, .ref y]) ∧ H x = some (.list (txs l)) ∧ H y = some (.list (txs l))
set_option tactic.hygienic false in
theorem HeldOK.keep {H H' : AHeap} {hd : Addr} {m : Nat} (h : HeldOK H hd m) (k : ∀ a x, x.lt = true → H a = some x → H' a = some x) : HeldOK H' hd m := by
  obtain ⟨es, h1, h2, h3⟩ := h
  refine ⟨es, k _ _ rfl h1, h2, fun e he => ?_⟩
  obtain ⟨t, x, y, l, e1, n1, n2, n3, e2, e3, e4⟩ := h3 e he
  exact ⟨t, x, y, l, e1, n1, n2, n3, k _ _ rfl e2, k _ _ rfl e3, k _ _ rfl e4⟩
set_option tactic.hygienic false in
theorem HeldOK.more {H : AHeap} {hd : Addr} {m m' : Nat} (h : HeldOK H hd m) (k : m ≤ m') : HeldOK H hd m' := by
  obtain ⟨es, h1, h2, h3⟩ := h
  exact ⟨es, h1, by omega, h3⟩
section
variable {Q : AV → AHeap → Prop} {H : AHeap}
set_option tactic.hygienic false in
theorem sub_ref {a : Addr} {xs : List AV} {i : Int} {v : AV} (h : H a = some (.list xs)) (h0 : 0 ≤ i) (hk : xs[i.toNat]? = some v) (hl : xs.length ≤ 100000) (q : Q v H) : wsub (.ref a) (.int i) Q H := by
  have hlt : i.toNat < xs.length := (List.getElem?_eq_some_iff.mp hk).1
  simp only [sub_ri, sub_rs, sub_si, h]
  exact ⟨i.toNat, v, by simp only [pyIdx, h0, if_true]; rw [if_pos (by omega)], by omega, by omega, hk, q⟩
end
set_option tactic.hygienic false in
theorem p_listD {Q : AV → AHeap → Prop} {H : AHeap} {a : Addr} {ep : Nat} {es : List (Str × AV)} (h : H a = some (.dict ep es)) (hl : es.length ≤ sizeLine) (q : ∀ z, H z = none → Q (.ref z) (up H z (.list (es.map fun e => .str e.1)))) : wprim true .list [.ref a] Q H := by
  simp only [p_lens, p_range, p_range2, p_lenr, p_listr, p_allr, h]; exact ⟨trivial, hl, q⟩
section
variable {c : Cx} (G : Gd c L07.P) {n : Nat} {md : Bool} {Q : AV → AHeap → Prop} {E : String → AHeap → Prop} {H : AHeap} {b d hd : Addr} {B : Bk}
set_option tactic.hygienic false in
theorem hold_ok {H1 : AHeap} {QN : VV → AHeap → Prop} {EE : String → VV → AHeap → Prop} {x0 x1 x2 x3 : Option AV} {z : Addr} {l : List Str} {m : Nat} (hK : Ext H H1) (hz : H z = none) (hz1 : H1 z = some (.list (txs l))) (hl : l.length ≤ 900) (hm : m ≤ 10000) (hh : HeldOK H hd m)
    (q : ∀ H', KeepX H H' hd → HeldOK H' hd (m + 1) → Q (.bool true) H') :
    wpSs ⟨c, n, true⟩ [.expr (.bm (.var 6) .append [(.lit (.str (Str.ofString "other")))]),
      .expr (.bm (.var 4) .append [(.tuple [(.var 6), (.prim .list [(.var 6)])])]),
      .ret (.lit (.bool true))] QN Q EE [x0, x1, x2, x3, some (.ref hd), none, some (.ref z)] H1 := by
  have hh1 := hh.keep (H' := up H1 z (.list (txs (l ++ [Str.ofString "other"])))) fun a x _ e => (hK.own hz) a x e
  have hE1 : Ext H (up H1 z (.list (txs (l ++ [Str.ofString "other"])))) := hK.own hz
  rw [w_cons, s_expr', x_bm, x_var]
  simp only [List.getElem?_cons_succ, List.getElem?_cons_zero, v_0, x_lit, x_var, x_bin, x_neg, x_not, x_ao, x_ite, x_cmp, x_cmp2, x_sub, x_slice, x_glob, x_call, x_prim, x_bm, x_isi, x_list, x_tup, x_dict0, xs_nil, xs_cons, ao_one, ao_cons, xo_none, xo_some, xc_none, xc_some, tv, wtg, b_add, b_sub, b_mul, b_div, b_mod, b_pow, b_adds, c_lt, c_le, c_gt, c_ge, c_eq, c_ne, c_eqs, c_nes, c_in, c_nin, t_bool, t_int, t_none]
  refine ⟨by simp [bmOn, hz1], ?_⟩
  refine m_append hz1 (by rw [txs_length]; omega) ?_
  rw [txs_snoc, w_cons, s_expr', x_bm, x_var]
  simp only [List.getElem?_cons_succ, List.getElem?_cons_zero, v_0, x_lit, x_var, x_bin, x_neg, x_not, x_ao, x_ite, x_cmp, x_cmp2, x_sub, x_slice, x_glob, x_call, x_prim, x_bm, x_isi, x_list, x_tup, x_dict0, xs_nil, xs_cons, ao_one, ao_cons, xo_none, xo_some, xc_none, xc_some, tv, wtg, b_add, b_sub, b_mul, b_div, b_mod, b_pow, b_adds, c_lt, c_le, c_gt, c_ge, c_eq, c_ne, c_eqs, c_nes, c_in, c_nin, t_bool, t_int, t_none]
  obtain ⟨es, k1, k2, k3⟩ := hh1
  refine ⟨by simp [bmOn, k1], ?_⟩
  refine p_listT (l := l ++ [Str.ofString "other"]) up_same (by simp [txs_length]; omega) fun z2 hz2 z3 hz3 => ?_
  have nz2 : z ≠ z2 := ne_of up_same hz2
  have nh2 : hd ≠ z2 := ne_of k1 hz2
  have nh3 : hd ≠ z3 := ne_of (up_ne k1 hz2) hz3
  have n23 : z2 ≠ z3 := ne_of up_same hz3
  have nz3 : z ≠ z3 := ne_of (by rw [up_other nz2]; exact up_same) hz3
  have hzh : z ≠ hd := fun e => by subst e; obtain ⟨es', k1', _⟩ := hh; rw [hz] at k1'; cases k1'
  refine m_append (xs := es) (by rw [up_other nh3, up_other nh2]; exact k1) (by omega) ?_
  rw [w_cons, w_ret, x_lit]
  have hE2 : Ext (up H1 z (.list (txs (l ++ [Str.ofString "other"])))) (up (up (up H1 z (.list (txs (l ++ [Str.ofString "other"])))) z2 (.list (txs (l ++ [Str.ofString "other"])))) z3 (.tuple [.ref z, .ref z2])) := (Ext.refl.new hz2).new hz3
  refine q _ (KeepX.ext (hE1.trans hE2)).hd ⟨es ++ [.ref z3], up_same, by simp [txs_length]; omega, fun e he => ?_⟩
  rcases List.mem_append.mp he with he | he
  · obtain ⟨t, x, y, l', e1, n1, n2, n3, e2, e3, e4⟩ := k3 e he
    exact ⟨t, x, y, l', e1, n1, n2, n3, by rw [up_other n1]; exact hE2 _ _ e2, by rw [up_other n2]; exact hE2 _ _ e3, by rw [up_other n3]; exact hE2 _ _ e4⟩
  · rw [List.mem_singleton] at he
    refine ⟨z3, z, z2, l ++ [Str.ofString "other"], he, nh3.symm, hzh, nh2.symm, by rw [up_other nh3.symm, up_same], ?_, ?_⟩
    · rw [up_other hzh, up_other nz3, up_other nz2, up_same]
    · rw [up_other nh2.symm, up_other n23, up_same]
include G
set_option tactic.hygienic false in
theorem one7_ok {way : Int} {s : Str} {ep m m' : Nat} (hb : H b = some (.book B)) (hd' : H d = some (.dict ep (dI B.free))) (h7 : B7 B m') (hm' : m' ≤ 900) (hh : HeldOK H hd m) (hm : m ≤ 10000) (hw : (way = 2 ∨ way = 3) ∨ ((way = 0 ∨ way = 1) ∧ hs B.free s = true))
    (q : ∀ H', KeepX H H' hd → HeldOK H' hd (m + 1) → Q (.bool true) H') : CallOK c (n + 4) true "_law_one_same" [.ref b, .ref d, .int way, .str s, .ref hd] Q E H := by
  refine G.call (F := L07.f__law_one_same) rfl rfl ?_
  have hM : c.P.meths = BK.meths := by rw [G.hP]; rfl
  have hz : B.Sz := ⟨Nat.le_trans h7.fl (Nat.le_trans hm' (by decide)), Nat.le_trans h7.al (Nat.le_trans hm' (by decide))⟩
  refine w_st fun K k => ?_
  rcases hw with hw | ⟨hw, hs'⟩
  · rcases hw with rfl | rfl
    · refine k _ _ ?_
      refine w_st fun K k => ?_
      show wpX ⟨c, n + 3, true⟩ (.meth (.var 0) "purses" []) [some (.ref b), some (.ref d), some (.int 2), some (.str s), some (.ref hd), none, none] (fun x H => 6 < 7 ∧ K _ H) (fun cl H => E cl H) H
      refine bk_meth hM rfl rfl hb rfl ?_
      refine purses_B G U7 hb hz fun z hzn => ⟨by decide, k _ _ ?_⟩
      have hk1 : (B.free.map fun e => AV.str e.1) = txs (B.free.map (·.1)) := by simp [txs]
      rw [hk1]
      have hE0 : Ext H (up H z (.list (txs (B.free.map (·.1))))) := Ext.refl.new hzn
      refine w_st fun K k => ?_
      show wpS ⟨c, n + 3, true⟩ _ _ _ _ [some (.ref b), some (.ref d), some (.int 2), some (.str s), some (.ref hd), none, some (.ref z)] _
      dsimp [v_0, x_lit, x_var, x_bin, x_neg, x_not, x_ao, x_ite, x_cmp, x_cmp2, x_sub, x_slice, x_glob, x_call, x_prim, x_bm, x_isi, x_list, x_tup, x_dict0, xs_nil, xs_cons, ao_one, ao_cons, xo_none, xo_some, xc_none, xc_some, tv, wtg, b_add, b_sub, b_mul, b_div, b_mod, b_pow, b_adds, c_lt, c_le, c_gt, c_ge, c_eq, c_ne, c_eqs, c_nes, c_in, c_nin, t_bool, t_int, t_none, w_cons, w_nil, w_ite, w_ret, w_asg, s_expr', s_raise']
      rw [isi_list up_same]
      dsimp [v_0, x_lit, x_var, x_bin, x_neg, x_not, x_ao, x_ite, x_cmp, x_cmp2, x_sub, x_slice, x_glob, x_call, x_prim, x_bm, x_isi, x_list, x_tup, x_dict0, xs_nil, xs_cons, ao_one, ao_cons, xo_none, xo_some, xc_none, xc_some, tv, wtg, b_add, b_sub, b_mul, b_div, b_mod, b_pow, b_adds, c_lt, c_le, c_gt, c_ge, c_eq, c_ne, c_eqs, c_nes, c_in, c_nin, t_bool, t_int, t_none, w_cons, w_nil, w_ite, w_ret, w_asg, s_expr', s_raise']
      refine p_listD (hE0 _ _ hd') (by rw [dI_len]; exact hz.1) fun z2 hz2 z3 hz3 z4 hz4 => ?_
      have hk2 : ((dI B.free).map fun e => AV.str e.1) = txs (B.free.map (·.1)) := by simp [txs, dI]
      rw [hk2] at hz3 hz4 ⊢
      have hE1 := ((Ext.refl.new (o := .list (txs (B.free.map (·.1)))) hz2).new (o := .list []) hz3).new (o := .list [.ref z2, .ref z3]) hz4
      refine sub_ref up_same (by decide) rfl (by simp) ?_
      rw [c_ner]
      refine weq_txs (ne := true) (hE1 _ _ up_same) (l' := B.free.map (·.1)) (up_ne (up_ne up_same hz3) hz4) ?_
      rw [decide_eq_true rfl]
      refine k _ _ ?_
      exact hold_ok (c := c) (n := n + 3) (QN := fun _ H => Q .none H) (EE := fun cl _ H => E cl H) (x0 := some (.ref b)) (x1 := some (.ref d)) (x2 := some (.int 2)) (x3 := some (.str s)) (hE0.trans hE1) hzn (hE1 _ _ up_same) (by have := h7.fl; simp; omega) hm hh q
    · refine k _ _ ?_
      refine w_st fun K k => ?_
      show wpX ⟨c, n + 3, true⟩ (.meth (.var 0) "told" []) [some (.ref b), some (.ref d), some (.int 3), some (.str s), some (.ref hd), none, none] (fun x H => 6 < 7 ∧ K _ H) (fun cl H => E cl H) H
      refine bk_meth hM rfl rfl hb rfl ?_
      refine told_B G U7 hb (by rw [h7.pacts]; exact Nat.zero_le _) fun z hzn => ⟨by decide, k _ _ ?_⟩
      rw [h7.pacts]
      have hE0 : Ext H (up H z (.list (txs []))) := Ext.refl.new hzn
      refine w_st fun K k => ?_
      show wpS ⟨c, n + 3, true⟩ _ _ _ _ [some (.ref b), some (.ref d), some (.int 3), some (.str s), some (.ref hd), none, some (.ref z)] _
      dsimp [v_0, x_lit, x_var, x_bin, x_neg, x_not, x_ao, x_ite, x_cmp, x_cmp2, x_sub, x_slice, x_glob, x_call, x_prim, x_bm, x_isi, x_list, x_tup, x_dict0, xs_nil, xs_cons, ao_one, ao_cons, xo_none, xo_some, xc_none, xc_some, tv, wtg, b_add, b_sub, b_mul, b_div, b_mod, b_pow, b_adds, c_lt, c_le, c_gt, c_ge, c_eq, c_ne, c_eqs, c_nes, c_in, c_nin, t_bool, t_int, t_none, w_cons, w_nil, w_ite, w_ret, w_asg, s_expr', s_raise']
      rw [isi_list up_same]
      dsimp [v_0, x_lit, x_var, x_bin, x_neg, x_not, x_ao, x_ite, x_cmp, x_cmp2, x_sub, x_slice, x_glob, x_call, x_prim, x_bm, x_isi, x_list, x_tup, x_dict0, xs_nil, xs_cons, ao_one, ao_cons, xo_none, xo_some, xc_none, xc_some, tv, wtg, b_add, b_sub, b_mul, b_div, b_mod, b_pow, b_adds, c_lt, c_le, c_gt, c_ge, c_eq, c_ne, c_eqs, c_nes, c_in, c_nin, t_bool, t_int, t_none, w_cons, w_nil, w_ite, w_ret, w_asg, s_expr', s_raise']
      refine p_listD (H := up H z (.list (txs []))) (hE0 _ _ hd') (by rw [dI_len]; exact hz.1) fun z2 hz2 z3 hz3 z4 hz4 => ?_
      have hE1 := ((Ext.refl.new (o := .list ((dI B.free).map fun e => AV.str e.1)) hz2).new (o := .list []) hz3).new (o := .list [.ref z2, .ref z3]) hz4
      refine sub_ref up_same (by decide) rfl (by simp) ?_
      rw [c_ner]
      refine weq_txs (ne := true) (hE1 _ _ up_same) (l' := []) (up_ne up_same hz4) ?_
      rw [decide_eq_true rfl]
      refine k _ _ ?_
      exact hold_ok (c := c) (n := n + 3) (QN := fun _ H => Q .none H) (EE := fun cl _ H => E cl H) (x0 := some (.ref b)) (x1 := some (.ref d)) (x2 := some (.int 3)) (x3 := some (.str s)) (hE0.trans hE1) hzn (hE1 _ _ up_same) (by decide) hm hh q
  · have hnm := h7.nm s hs'
    have hp : purseB B (.str s) = true := by simp [purseB, hnm, hs']
    have hf := purse_free hp
    simp only [keyOf] at hf
    have sub_d : ∀ {Q' : AV → AHeap → Prop}, Q' (.int (freeOf B (.str s))) H → wsub (.ref d) (.str s) Q' H := fun {Q'} q' => by
      simp only [sub_ri, sub_rs, sub_si, hd']
      exact ⟨.int (freeOf B (.str s)), by rw [look_dI, hf]; rfl, q'⟩
    have qf : ∀ z o, H z = none → Q (.bool true) (up H z o) := fun z o hz => q _ (.ext (Ext.refl.new hz)) ((hh.keep fun a x _ e => up_ne e hz).more (by omega))
    rcases hw with rfl | rfl
    · refine w_st fun K k => ?_
      show wpX ⟨c, n + 3, true⟩ (.meth (.var 0) "free_of" [(.var 3)]) [some (.ref b), some (.ref d), some (.int 0), some (.str s), some (.ref hd), none, none] (fun x H => 5 < 7 ∧ K _ H) (fun cl H => E cl H) H
      refine bk_meth hM rfl rfl hb rfl ?_
      refine freeOf_B G U7 hb (Kn.nm hnm) ?_
      rw [if_pos hp]
      refine ⟨by decide, k _ _ ?_⟩
      refine lwhole_ok G rfl .int ?_
      refine sub_d fun z hz => ?_
      refine sub_ref up_same (by decide) rfl (by simp) ?_
      show Q (.bool (freeOf B (.str s) == freeOf B (.str s))) _
      rw [beq_self_eq_true]
      exact qf z _ hz
    · have ha : asideOf B (.str s) = 0 := by simp [asideOf, keyOf, h7.as s hs']
      refine w_st fun K k => ?_
      show wpX ⟨c, n + 3, true⟩ (.meth (.var 0) "aside_of" [(.var 3)]) [some (.ref b), some (.ref d), some (.int 1), some (.str s), some (.ref hd), none, none] (fun x H => 5 < 7 ∧ K _ H) (fun cl H => E cl H) H
      refine bk_meth hM rfl rfl hb rfl ?_
      refine asideOf_B G U7 hb (Kn.nm hnm) (fun k hk => by unfold hs; rw [h7.as k hk]; rfl) ?_
      rw [if_pos hp, ha]
      refine ⟨by decide, k _ _ ?_⟩
      refine lwhole_ok G rfl .int ?_
      refine sub_d fun z hz => ?_
      refine sub_ref up_same (by decide) rfl (by simp) ?_
      exact qf z _ hz
end
end Mine

end
section
open PySem PySem.W PyProof.Rows PySem.Spec PySem.SeqAt PySem.Calls
namespace Mine
set_option tactic.hygienic false in
theorem pick_len {α : Type} {xs : List α} {lo hi st : Option Int} (h : st = none ∨ st = some 1 ∨ st = some (-1)) : (pickL xs lo hi st).length ≤ xs.length := by
  refine Nat.le_trans (List.length_filterMap_le _ _) (sliceRange_length_le _ _ _ _ (fun hc => ?_) fun hc => ?_)
  · simp only [sliceBounds] at hc ⊢
    rw [if_pos hc, if_pos hc]
    exact ⟨by cases lo <;> simp only [if_pos hc] <;> omega, by cases hi <;> simp only [if_pos hc] <;> omega⟩
  · simp only [sliceBounds] at hc ⊢
    rw [if_neg hc, if_neg hc]
    exact ⟨by cases lo <;> simp only [if_neg hc] <;> omega, by cases hi <;> simp only [if_neg hc] <;> omega⟩
set_option tactic.hygienic false in
theorem pick_mem {α : Type} {xs : List α} {lo hi st : Option Int} {x : α} (h : x ∈ pickL xs lo hi st) : x ∈ xs := by
  unfold pickL at h
  obtain ⟨i, _, hi⟩ := List.mem_filterMap.mp h
  exact List.mem_of_getElem? hi
noncomputable def AskOK (H : AHeap) (hd : Addr) (B : Bk) (xs : List AV) : Prop := ∀ x ∈ xs, ∃ t w s, x = .ref t ∧ t ≠ hd ∧ H t = some (.tuple [.int w, .str s]) ∧ ((w = 2 ∨ w = 3) ∨ ((w = 0 ∨ w = 1) ∧ hs B.free s = true))
set_option tactic.hygienic false in
theorem AskOK.keep {H H' : AHeap} {hd : Addr} {B : Bk} {xs : List AV} (h : AskOK H hd B xs) (k : KeepX H H' hd) : AskOK H' hd B xs := fun x hx => by
  obtain ⟨t, w, s, e1, e2, e3, e4⟩ := h x hx
  exact ⟨t, w, s, e1, e2, k _ _ e2 e3, e4⟩
section
variable {Q : AV → AHeap → Prop} {H : AHeap}
set_option tactic.hygienic false in
theorem slice_ref {a : Addr} {xs : List AV} {lo hi st : Option AV} {l u t : Option Int} (h : H a = some (.list xs)) (hl : partI lo = some l) (hu : partI hi = some u) (ht : partI st = some t) (h0 : t ≠ some 0) (hs : xs.length ≤ sizeLine) (q : ∀ z, H z = none → Q (.ref z) (up H z (.list (pickL xs l u t)))) : wslice (.ref a) lo hi st Q H := by
  simp only [sl_ref, sl_lo, sl_hi, h]
  exact ⟨l, u, t, hl, hu, ht, h0, hs, q⟩
set_option tactic.hygienic false in
theorem add_ref {a b : Addr} {xs ys : List AV} (ha : H a = some (.list xs)) (hb : H b = some (.list ys)) (hs : xs.length + ys.length ≤ sizeLine) (q : ∀ z, H z = none → Q (.ref z) (up H z (.list (xs ++ ys)))) : wbin .Add (.ref a) (.ref b) Q H := by
  simp only [wbin, ha, hb]
  exact ⟨hs, q⟩
end
section
variable {c : Cx} (G : Gd c L07.P) {n : Nat} {md : Bool} {Q : AV → AHeap → Prop} {E : String → AHeap → Prop} {H : AHeap} {b d hd sm : Addr} {B : Bk}
include G
set_option tactic.hygienic false in
theorem asked_ok {H1 : AHeap} {EE : String → AHeap → Prop} {x2 x3 x6 x7 : Option AV} {z : Addr} {xs : List AV} {ep m m' : Nat} (hz : z ≠ hd) (hz1 : H1 z = some (.list xs)) (hl : xs.length ≤ 3000) (ha : AskOK H1 hd B xs) (hb : H1 b = some (.book B)) (hd' : H1 d = some (.dict ep (dI B.free))) (h7 : B7 B m') (hm' : m' ≤ 900) (hh : HeldOK H1 hd m) (hm : m ≤ 6000)
    (q : ∀ H', KeepX H1 H' hd → HeldOK H' hd (m + xs.length) → Q (.bool true) H') :
    wpX ⟨c, n + 4, true⟩ (.prim .all [(.comp (.call "_law_one_same" [(.var 0), (.var 1), (.var 8), (.var 9), (.var 4)]) 2 true (.var 5) none)]) [some (.ref b), some (.ref d), x2, x3, some (.ref hd), some (.ref z), x6, x7] Q EE H1 := by
  have hbh : b ≠ hd := fun e => by subst e; obtain ⟨es, k, _⟩ := hh; rw [hb] at k; cases k
  have hdh : d ≠ hd := fun e => by subst e; obtain ⟨es, k, _⟩ := hh; rw [hd'] at k; cases k
  rw [x_prim, xs_cons]
  rw [x_comp]
  refine ⟨rfl, ?_⟩
  simp only [x_var, List.getElem?_cons_succ, List.getElem?_cons_zero]
  refine ⟨xs, by simp only [itemsOf, hz1], Nat.le_trans hl (by decide), fun k acc H' => KeepX H1 H' hd ∧ HeldOK H' hd (m + k) ∧ acc = List.replicate k (.bool true), ⟨.refl, hh, rfl⟩, ?_⟩
  rintro k acc H' ⟨hK, hh', rfl⟩
  refine ⟨by simp only [sameIt]; rw [hK _ _ hz hz1, hz1], fun hk a ha' => ?_, fun x hx => ?_⟩
  · change wprim true Pr.all [AV.ref a] Q _
    simp only [p_lens, p_range, p_range2, p_lenr, p_listr, p_allr, up_same]
    refine ⟨trivial, List.replicate k true, by simp, ?_⟩
    have : (List.replicate k true).all id = true := by simp
    rw [this]
    subst hk
    refine q _ (fun x o n h => up_ne (hK x o n h) ha') (hh'.keep fun x o _ h => up_ne h ha')
  · have hkl : k < xs.length := (List.getElem?_eq_some_iff.mp hx).1
    obtain ⟨t, w, s, rfl, e2, e3, e4⟩ := ha x (List.mem_of_getElem? hx)
    simp only [if_true, wunpack, hK _ _ e2 e3]
    refine ⟨rfl, ?_⟩
    dsimp only [xc_none, if_true, v_0, x_lit, x_var, x_bin, x_neg, x_not, x_ao, x_ite, x_cmp, x_cmp2, x_sub, x_slice, x_glob, x_call, x_prim, x_bm, x_isi, x_list, x_tup, x_dict0, xs_nil, xs_cons, ao_one, ao_cons, xo_none, xo_some, xc_none, xc_some, tv, wtg, b_add, b_sub, b_mul, b_div, b_mod, b_pow, b_adds, c_lt, c_le, c_gt, c_ge, c_eq, c_ne, c_eqs, c_nes, c_in, c_nin, t_bool, t_int, t_none]
    refine one7_ok G (hK _ _ hbh hb) (hK _ _ hdh hd') h7 hm' hh' (by omega) e4 fun H'' hK' hh'' => ⟨hK.trans hK', hh'', ?_⟩
    rw [List.replicate_succ']; rfl
set_option tactic.hygienic false in
theorem same7_ok {turn : Int} {ss : List Str} {ep m m' : Nat} (hb : H b = some (.book B)) (hd' : H d = some (.dict ep (dI B.free))) (h7 : B7 B m') (hm' : m' ≤ 900) (hh : HeldOK H hd m) (hm : m ≤ 6000) (hs : H sm = some (.list (txs ss))) (hsm : sm ≠ hd) (hl : ss.length ≤ 300)
    (q : ∀ H', KeepX H H' hd → HeldOK H' hd (m + 4 + 4 * ss.length) → Q (.bool true) H') : CallOK c (n + 5) true "_law_same" [.ref b, .ref d, .ref sm, .int turn, .ref hd] Q E H := by
  refine G.call (F := L07.f__law_same) rfl rfl ?_
  show wpSs _ _ _ _ _ [some (.ref b), some (.ref d), some (.ref sm), some (.int turn), some (.ref hd), none, none, none] _
  refine w_st fun K nx => ?_
  dsimp [v_0, x_lit, x_var, x_bin, x_neg, x_not, x_ao, x_ite, x_cmp, x_cmp2, x_sub, x_slice, x_glob, x_call, x_prim, x_bm, x_isi, x_list, x_tup, x_dict0, xs_nil, xs_cons, ao_one, ao_cons, xo_none, xo_some, xc_none, xc_some, tv, wtg, b_add, b_sub, b_mul, b_div, b_mod, b_pow, b_adds, c_lt, c_le, c_gt, c_ge, c_eq, c_ne, c_eqs, c_nes, c_in, c_nin, t_bool, t_int, t_none, w_cons, w_nil, w_ite, w_ret, w_asg, s_expr', s_raise']
  refine ⟨by decide, ?_⟩
  by_cases ht : turn.fmod 5 = 4
  · rw [if_pos (by rw [ht]; rfl)]
    exact q H .refl (hh.more (by omega))
  · rw [if_neg (by simpa using ht)]
    refine nx _ _ ?_
    refine w_st fun K nx => ?_
    dsimp [v_0, x_lit, x_var, x_bin, x_neg, x_not, x_ao, x_ite, x_cmp, x_cmp2, x_sub, x_slice, x_glob, x_call, x_prim, x_bm, x_isi, x_list, x_tup, x_dict0, xs_nil, xs_cons, ao_one, ao_cons, xo_none, xo_some, xc_none, xc_some, tv, wtg, b_add, b_sub, b_mul, b_div, b_mod, b_pow, b_adds, c_lt, c_le, c_gt, c_ge, c_eq, c_ne, c_eqs, c_nes, c_in, c_nin, t_bool, t_int, t_none, w_cons, w_nil, w_ite, w_ret, w_asg, s_expr', s_raise']
    intro t1 h1 t2 h2 z hz
    refine ⟨by decide, nx _ _ ?_⟩
    refine w_st fun K nx => ?_
    rw [s_for', x_var]
    refine ⟨rfl, ?_⟩
    have hEz := ((Ext.refl.new (o := .tuple [.int 2, .str (Str.ofString "")]) h1).new (o := .tuple [.int 3, .str (Str.ofString "")]) h2).new (o := .list [.ref t1, .ref t2]) hz
    obtain ⟨es, hes, _⟩ := id hh
    refine wforI (xs := txs ss) (by simp only [itemsOf, hEz _ _ hs]) (fun k V' H' => ∃ z xs p, V' = [some (.ref b), some (.ref d), some (.ref sm), some (.int turn), some (.ref hd), some (.ref z), p, none] ∧ Ext H H' ∧ H z = none ∧ H' z = some (.list xs) ∧ 2 ≤ xs.length ∧ xs.length ≤ 2 + 2 * k ∧ AskOK H' hd B xs)
      ⟨z, [.ref t1, .ref t2], none, rfl, hEz, ((Ext.refl.new h1).new h2).none hz, up_same, by simp, by simp, ?_⟩ ?_
    · intro x hx
      simp only [List.mem_cons, List.not_mem_nil, or_false] at hx
      rcases hx with rfl | rfl
      · exact ⟨t1, 2, _, rfl, (ne_of hes h1).symm, up_ne (up_ne up_same h2) hz, .inl (.inl rfl)⟩
      · exact ⟨t2, 3, _, rfl, (ne_of (up_ne hes h1) h2).symm, up_ne up_same hz, .inl (.inr rfl)⟩
    · rintro I hI k V' H' ⟨z, xs, p, rfl, hE, hzn, hz', h2', hlen, hA⟩
      refine ⟨by simp only [sameIt]; rw [hE _ _ hs, hEz _ _ hs], fun hk => ?_, fun x hx => ?_⟩
      · refine nx _ _ ?_
        rw [hk, txs_length] at hlen
        have hzh : z ≠ hd := (ne_of hes hzn).symm
        have hsz : xs.length ≤ sizeLine := Nat.le_trans hlen (by simp only [sizeLine]; omega)
        refine w_st fun K nx => ?_
        dsimp [v_0, x_lit, x_var, x_bin, x_neg, x_not, x_ao, x_ite, x_cmp, x_cmp2, x_sub, x_slice, x_glob, x_call, x_prim, x_bm, x_isi, x_list, x_tup, x_dict0, xs_nil, xs_cons, ao_one, ao_cons, xo_none, xo_some, xc_none, xc_some, tv, wtg, b_add, b_sub, b_mul, b_div, b_mod, b_pow, b_adds, c_lt, c_le, c_gt, c_ge, c_eq, c_ne, c_eqs, c_nes, c_in, c_nin, t_bool, t_int, t_none, w_cons, w_nil, w_ite, w_ret, w_asg, s_expr', s_raise']
        refine ⟨by decide, p_len hz' (by omega) ?_⟩
        refine ⟨by omega, by decide, nx _ _ ?_⟩
        refine w_st fun K nx => ?_
        dsimp [v_0, x_lit, x_var, x_bin, x_neg, x_not, x_ao, x_ite, x_cmp, x_cmp2, x_sub, x_slice, x_glob, x_call, x_prim, x_bm, x_isi, x_list, x_tup, x_dict0, xs_nil, xs_cons, ao_one, ao_cons, xo_none, xo_some, xc_none, xc_some, tv, wtg, b_add, b_sub, b_mul, b_div, b_mod, b_pow, b_adds, c_lt, c_le, c_gt, c_ge, c_eq, c_ne, c_eqs, c_nes, c_in, c_nin, t_bool, t_int, t_none, w_cons, w_nil, w_ite, w_ret, w_asg, s_expr', s_raise']
        have ha0 : 0 ≤ (turn.fdiv 5).fmod (xs.length : Int) := fmod_lo (by omega)
        generalize (turn.fdiv 5).fmod (xs.length : Int) = at' at ha0 ⊢
        refine slice_ref (l := some at') (u := none) (t := none) hz' rfl rfl rfl (by simp) hsz fun z1 hz1 => ?_
        have E1 : Ext H' (up H' z1 (.list (pickL xs (some at') none none))) := Ext.refl.new hz1
        refine slice_ref (l := none) (u := some at') (t := none) (E1 _ _ hz') rfl rfl rfl (by simp) hsz fun z2 hz2 => ?_
        have l1 : (pickL xs (some at') none none).length ≤ xs.length := pick_len (.inl rfl)
        have l2 : (pickL xs none (some at') none).length ≤ xs.length := pick_len (.inl rfl)
        refine add_ref (up_ne up_same hz2) up_same (by simp only [sizeLine]; omega) fun z3 hz3 => ?_
        have E3 := (E1.new (o := .list (pickL xs none (some at') none)) hz2).new (o := .list (pickL xs (some at') none none ++ pickL xs none (some at') none)) hz3
        have hr : (turn.fdiv 1000).fmod 2 = 0 ∨ (turn.fdiv 1000).fmod 2 = 1 := by
          have := fmod_lo (x := turn.fdiv 1000) (m := 2) (by omega)
          have := fmod_hi (x := turn.fdiv 1000) (m := 2) (by omega)
          omega
        have hok : IntMulOk 2 ((turn.fdiv 1000).fmod 2) := by rcases hr with h | h <;> rw [h] <;> exact IntMulOk.of_right (by decide +kernel)
        have hst : some (1 - 2 * (turn.fdiv 1000).fmod 2) = some 1 ∨ some (1 - 2 * (turn.fdiv 1000).fmod 2) = some (-1) := by rcases hr with h | h <;> rw [h] <;> decide
        refine ⟨by decide, by decide, hok, ?_⟩
        generalize (1 - 2 * (turn.fdiv 1000).fmod 2) = st at hst ⊢
        refine slice_ref (l := none) (u := none) (t := some st) up_same rfl rfl rfl (by intro e; rcases hst with h | h <;> rw [e] at h <;> cases h) (by simp only [List.length_append, sizeLine]; omega) fun z4 hz4 => ?_
        have E4 := E3.new (o := .list (pickL (pickL xs (some at') none none ++ pickL xs none (some at') none) none none (some st))) hz4
        have l4 : (pickL (pickL xs (some at') none none ++ pickL xs none (some at') none) none none (some st)).length ≤ (pickL xs (some at') none none ++ pickL xs none (some at') none).length := pick_len (.inr hst)
        rw [List.length_append] at l4
        refine ⟨by decide, nx _ _ ?_⟩
        have hA4 : AskOK (up (up (up (up H' z1 (.list (pickL xs (some at') none none))) z2 (.list (pickL xs none (some at') none))) z3 (.list (pickL xs (some at') none none ++ pickL xs none (some at') none))) z4 (.list (pickL (pickL xs (some at') none none ++ pickL xs none (some at') none) none none (some st)))) hd B (pickL (pickL xs (some at') none none ++ pickL xs none (some at') none) none none (some st)) := fun x hx => by
          refine (hA.keep (KeepX.ext E4)) x ?_
          rcases List.mem_append.mp (pick_mem hx) with h | h <;> exact pick_mem h
        have E5 := hE.trans E4
        refine asked_ok G (ne_of ((hE.trans E3) _ _ hes) hz4).symm up_same (by omega) hA4 (E5 _ _ hb) (E5 _ _ hd') h7 hm' (hh.keep fun a o _ h => E5 a o h) hm fun H'' hK hh'' => ?_
        exact q H'' ((KeepX.ext E5).trans hK) (hh''.more (by omega))
      · obtain ⟨s, rfl, hsk⟩ := txs_get hx
        have hkl : k < ss.length := (List.getElem?_eq_some_iff.mp hsk).1
        simp only [wtg]
        refine ⟨by simp, ?_⟩
        refine w_st fun K nx => ?_
        dsimp [v_0, x_lit, x_var, x_bin, x_neg, x_not, x_ao, x_ite, x_cmp, x_cmp2, x_sub, x_slice, x_glob, x_call, x_prim, x_bm, x_isi, x_list, x_tup, x_dict0, xs_nil, xs_cons, ao_one, ao_cons, xo_none, xo_some, xc_none, xc_some, tv, wtg, b_add, b_sub, b_mul, b_div, b_mod, b_pow, b_adds, c_lt, c_le, c_gt, c_ge, c_eq, c_ne, c_eqs, c_nes, c_in, c_nin, t_bool, t_int, t_none, w_cons, w_nil, w_ite, w_ret, w_asg, s_expr', s_raise']
        refine win_dict (hE _ _ hd') ?_
        rw [look_dI, Option.isSome_map]
        change wtruth (.bool (Mine.hs B.free s != false)) _ _
        cases hh' : Mine.hs B.free s with
        | false =>
          refine nx _ _ (hI _ _ _ ⟨z, xs, _, rfl, hE, hzn, hz', h2', by omega, hA⟩)
        | true =>
          rw [t_bool, if_pos (by decide)]
          intro t1 h1 t2 h2 z3 hz3
          have E3 := ((Ext.refl.new (o := .tuple [.int 0, .str s]) h1).new (o := .tuple [.int 1, .str s]) h2).new (o := .list [.ref t1, .ref t2]) hz3
          refine add_ref (E3 _ _ hz') up_same (by have : xs.length ≤ 700 := (by omega); simp only [sizeLine, List.length_cons, List.length_nil]; omega) fun z4 hz4 => ?_
          have E4 := E3.new (o := .list (xs ++ [.ref t1, .ref t2])) hz4
          refine ⟨by decide, nx _ _ (hI _ _ _ ⟨z4, xs ++ [.ref t1, .ref t2], _, rfl, hE.trans E4, (hE.trans E3).none hz4, up_same, by simp, by simp [txs_length]; omega, fun x hx => ?_⟩)⟩
          rcases List.mem_append.mp hx with hx | hx
          · exact hA.keep (KeepX.ext E4) x hx
          · have hes' := hE _ _ hes
            simp only [List.mem_cons, List.not_mem_nil, or_false] at hx
            rcases hx with rfl | rfl
            · exact ⟨t1, 0, _, rfl, (ne_of hes' h1).symm, up_ne (up_ne (up_ne up_same h2) hz3) hz4, .inr ⟨.inl rfl, hh'⟩⟩
            · exact ⟨t2, 1, _, rfl, (ne_of (up_ne hes' h1) h2).symm, up_ne (up_ne up_same hz3) hz4, .inr ⟨.inr rfl, hh'⟩⟩
end
end Mine

end
section
open PySem PySem.W PyProof.Rows PySem.Spec PySem.SeqAt PySem.Calls
namespace Mine
set_option tactic.hygienic false in
theorem told_first {k : Int} (h0 : 0 ≤ k) (h1 : k < 260) : chI ((k.fdiv 26).fmod 26) < 107 := by
  have e : (k.fdiv 26).fmod 26 = k / 26 := by
    rw [Int.fmod_eq_emod_of_nonneg _ (by omega), Int.fdiv_eq_ediv_of_nonneg _ (by omega)]; omega
  have := chI_is ⟨(k / 26).toNat, by omega⟩
  rw [e]
  have e2 : (((k / 26).toNat : Nat) : Int) = k / 26 := by omega
  simp only [e2] at this
  omega
set_option tactic.hygienic false in
theorem not_north_at {l1 l2 : List Nat} {x y : Nat} (h : l1 ++ [x, y] ++ l2 = [110, 111, 114, 116, 104]) : 107 ≤ x := by
  match l1, h with
  | [], h => cases h; decide
  | [_], h => cases h; decide
  | [_, _], h => cases h; decide
  | [_, _, _], h => cases h; decide
  | _ :: _ :: _ :: _ :: r, h => have := congrArg List.length h; simp at this; omega
set_option tactic.hygienic false in
theorem word_north {k cl : Int} (h0 : 0 ≤ k) (h1 : k < 260) : word k cl ≠ Str.ofString "north" := by
  intro h
  have h : wordL k cl = [110, 111, 114, 116, 104] := by
    have := congrArg (fun s => s.cps.toList) h
    simp only [word] at this
    rw [this]; rfl
  have ht := told_first h0 h1
  unfold wordL at h
  split at h
  · dsimp only at h
    split at h
    · have := congrArg List.length h; simp at this
    · have := not_north_at (l1 := []) (x := chI ((k.fdiv 26).fmod 26)) (y := chI (k.fmod 26)) h
      omega
  · dsimp only at h
    have := not_north_at (x := chI ((k.fdiv 26).fmod 26)) (y := chI (k.fmod 26)) h
    omega

noncomputable def zs (l : List Str) : List (Str × Int) := l.map fun s => (s, 0)
noncomputable def Bof (l : List Str) : Bk := ⟨0, zs l, zs l, []⟩
set_option tactic.hygienic false in
theorem lk_zs {l : List Str} {s : Str} : lk (zs l) s = if s ∈ l then some 0 else none := by
  induction l with
  | nil => rfl
  | cons t r ih =>
    unfold lk zs at *
    simp only [List.map_cons, List.find?_cons, List.mem_cons]
    by_cases h : t = s
    · simp [h]
    · have h' : ¬ s = t := fun e => h e.symm
      simp [h, h']; simpa using ih
set_option tactic.hygienic false in
theorem hs_zs {l : List Str} {s : Str} : hs (zs l) s = decide (s ∈ l) := by
  unfold hs; rw [lk_zs]; by_cases h : s ∈ l <;> simp [h]
set_option tactic.hygienic false in
theorem pt_zs {l : List Str} {s : Str} (h : s ∉ l) : pt (zs l) s 0 = zs (l ++ [s]) := by
  unfold pt
  rw [lk_zs, if_neg h]
  simp [zs]
set_option tactic.hygienic false in
theorem open_Bof {l : List Str} {s : Str} (hn : isNm s = true) (h : s ∉ l) : openQ (Bof l) (.str s) = .ok (Bof (l ++ [s])) := by
  unfold openQ
  simp only [nameB, hn, if_true, keyOf]
  have : hs (Bof l).free s = false := by show hs (zs l) s = false; rw [hs_zs]; simp [h]
  simp only [this]
  simp only [Bof, pt_zs h]; rfl
set_option tactic.hygienic false in
theorem zs_len {l : List Str} : (zs l).length = l.length := by simp [zs]
set_option tactic.hygienic false in
theorem Bof_ok {l : List Str} {m : Nat} (hn : ∀ s ∈ l, isNm s = true) (hm : l.length ≤ m) : B7 (Bof l) m :=
  ⟨rfl, rfl, fun k hk => hn k (by have : hs (zs l) k = true := hk; rw [hs_zs] at this; simpa using this), fun k hk => by
    show lk (zs l) k = some 0
    have : hs (zs l) k = true := hk
    rw [hs_zs] at this
    rw [lk_zs, if_pos (by simpa using this)], by show (zs l).length ≤ m; rw [zs_len]; exact hm, by show (zs l).length ≤ m; rw [zs_len]; exact hm⟩

set_option tactic.hygienic false in
theorem pt_len {l : List (Str × Int)} {k : Str} {x : Int} : (pt l k x).length ≤ l.length + 1 := by
  unfold pt; split <;> simp
set_option tactic.hygienic false in
theorem lk_cons {l : List (Str × Int)} {e : Str × Int} {s : Str} : lk (e :: l) s = if e.1 = s then some e.2 else lk l s := by
  unfold lk
  rw [List.find?_cons]
  by_cases h : e.1 = s <;> simp [h]
set_option tactic.hygienic false in
theorem lk_set {l : List (Str × Int)} {k s : Str} {x : Int} : lk (l.map fun e => if e.1 = k then (e.1, x) else e) s = if s = k then (lk l k).map (fun _ => x) else lk l s := by
  induction l with
  | nil => by_cases h : s = k <;> simp [h, lk]
  | cons e r ih =>
    rw [List.map_cons, lk_cons, lk_cons, lk_cons, ih]
    by_cases h : e.1 = k
    · by_cases h2 : s = k
      · simp [h, h2]
      · have : ¬ k = s := fun e => h2 e.symm
        simp [h, h2, this]
    · by_cases h2 : s = k
      · simp [h, h2]
      · simp [h, h2]
set_option tactic.hygienic false in
theorem lk_app {l : List (Str × Int)} {k s : Str} {x : Int} (h : lk l k = none) : lk (l ++ [(k, x)]) s = if s = k then some x else lk l s := by
  induction l with
  | nil => rw [List.nil_append, lk_cons]; by_cases h2 : s = k <;> simp [h2, lk] ; exact fun e => absurd e.symm h2
  | cons e r ih =>
    rw [lk_cons] at h
    by_cases h1 : e.1 = k
    · simp [h1] at h
    · rw [if_neg h1] at h
      rw [List.cons_append, lk_cons, lk_cons, ih h]
      by_cases h2 : s = k
      · simp [h2, h1]
      · simp [h2]
theorem lk_pt {l : List (Str × Int)} {k s : Str} {x : Int} : lk (pt l k x) s = if s = k then some x else lk l s := by
  unfold pt
  split
  · rename_i h
    rw [lk_set]
    obtain ⟨y, hy⟩ := Option.isSome_iff_exists.mp h
    rw [hy]; rfl
  · rename_i h
    exact lk_app (by simpa using h)
set_option tactic.hygienic false in
theorem hs_pt {l : List (Str × Int)} {k s : Str} {x : Int} : hs (pt l k x) s = (decide (s = k) || hs l s) := by
  unfold hs; rw [lk_pt]; by_cases h : s = k <;> simp [h]
theorem B7.deed {B : Bk} {m : Nat} {way : Int} {v a : AV} (h : B7 B m) : B7 (bkOf B (deedQ B way v a)) (m + 1) := by
  have keep : B7 B (m + 1) := ⟨h.day, h.pacts, h.nm, h.as, Nat.le_succ_of_le h.fl, Nat.le_succ_of_le h.al⟩
  have putk : ∀ x, purseB B v = true → B7 { B with free := pt B.free (keyOf v) x } (m + 1) := fun x hp => by
    obtain ⟨_, h2⟩ := purse_name hp
    have hk : ∀ k, hs (pt B.free (keyOf v) x) k = true → hs B.free k = true := fun k hk => by
      rw [hs_pt, Bool.or_eq_true, decide_eq_true_eq] at hk
      rcases hk with rfl | hk
      · exact h2
      · exact hk
    exact ⟨h.day, h.pacts, fun k hk' => h.nm k (hk k hk'), fun k hk' => h.as k (hk k hk'), Nat.le_trans pt_len (Nat.succ_le_succ h.fl), Nat.le_succ_of_le h.al⟩
  unfold deedQ openQ putQ takeQ
  repeat' split
  all_goals first
    | exact keep
    | exact putk _ (by assumption)
    | skip
  rename_i h1 h2 h3
  refine ⟨h.day, h.pacts, fun k hk => ?_, fun k hk => ?_, Nat.le_trans pt_len (Nat.succ_le_succ h.fl), Nat.le_trans pt_len (Nat.succ_le_succ h.al)⟩
  · simp only [bkOf] at hk
    rw [hs_pt, Bool.or_eq_true, decide_eq_true_eq] at hk
    rcases hk with rfl | hk
    · rw [name_key h2] at h2; exact h2
    · exact h.nm k hk
  · simp only [bkOf] at hk ⊢
    rw [hs_pt, Bool.or_eq_true, decide_eq_true_eq] at hk
    rw [lk_pt]
    by_cases e : k = keyOf v
    · rw [if_pos e]
    · rw [if_neg e]; exact h.as k (hk.resolve_left e)
theorem deed_keys {B : Bk} {way : Int} {v a : AV} {k : Str} (h : hs (bkOf B (deedQ B way v a)).free k = true) : hs B.free k = true ∨ (v = .str k ∧ isNm k = true) := by
  have putk : ∀ x, purseB B v = true → hs (pt B.free (keyOf v) x) k = true → hs B.free k = true := fun x hp hk => by
    rw [hs_pt, Bool.or_eq_true, decide_eq_true_eq] at hk
    rcases hk with rfl | hk
    · exact (purse_name hp).2
    · exact hk
  unfold deedQ openQ putQ takeQ at h
  repeat' split at h
  all_goals first
    | exact .inl h
    | exact .inl (putk _ (by assumption) h)
    | skip
  rename_i h1 h2 h3
  simp only [bkOf] at h
  rw [hs_pt, Bool.or_eq_true, decide_eq_true_eq] at h
  rcases h with rfl | h
  · exact .inr ⟨name_key h2, by rw [name_key h2] at h2; exact h2⟩
  · exact .inl h

section
variable {c : Cx} (G : Gd c L07.P) {n : Nat} {md : Bool} {Q : AV → AHeap → Prop} {E : String → AHeap → Prop} {H : AHeap} {b : Addr} {B : Bk}
include G
set_option tactic.hygienic false in
theorem refused7_ok {s : Str} (hb : H b = some (.book B)) (hk : Kn H (.str s)) (hp : purseB B (.str s) = false) (q : ∀ H', Q (.bool true) H') : CallOK c (n + 4) true "_law_refused_by_any" [.ref b, .str s] Q E H := by
  refine G.call (F := L07.f__law_refused_by_any) rfl rfl ?_
  have hM : c.P.meths = BK.meths := by rw [G.hP]; rfl
  simp only [L07.f__law_refused_by_any, initV]
  rw [w_cons, s_try']
  refine ⟨rfl, ?_⟩
  rw [w_cons, s_expr']
  refine bk_meth hM (by decide) (by decide) hb rfl ?_
  simp only [v_0, x_lit, x_var, x_bin, x_neg, x_not, x_ao, x_ite, x_cmp, x_cmp2, x_sub, x_slice, x_glob, x_call, x_prim, x_bm, x_isi, x_list, x_tup, x_dict0, xs_nil, xs_cons, ao_one, ao_cons, xo_none, xo_some, xc_none, xc_some, tv, wtg, b_add, b_sub, b_mul, b_div, b_mod, b_pow, b_adds, c_lt, c_le, c_gt, c_ge, c_eq, c_ne, c_eqs, c_nes, c_in, c_nin, t_bool, t_int, t_none]
  refine freeOf_B G U7 hb hk ?_
  rw [hp]
  refine hs_hitv (P := L07.P) G.hP rfl fun a ha => ⟨by simp, ?_⟩
  rw [w_cons, w_ret, x_isi]
  have : isinstV c.P (up H a (.exc "NoPurse")) (.ref a) "ValueError" = some true := by rw [G.hP]; simp only [isinstV, up_same]; rfl
  show (match isinstV c.P (up H a (.exc "NoPurse")) (.ref a) "ValueError" with | some b => Q (.bool b) _ | none => False)
  rw [this]
  exact q _
end
end Mine

end
section
open PySem PySem.W PyProof.Rows PySem.Spec PySem.SeqAt PySem.Calls
namespace Mine
noncomputable def idx7 (ns : List Int) : List Int := [0, 7] ++ if ((cell ns 0).fdiv 5).fmod 8 = 1 then (List.range (60 + ((cell ns 0).fdiv 40).fmod 140).toNat).map (fun (k : Nat) => 40 + (k : Int)) else []
noncomputable def first7 (ns : List Int) : List Str := (idx7 ns).map fun i => word i (cell ns 1)
set_option tactic.hygienic false in
theorem idx7_in {ns : List Int} : ∀ i ∈ idx7 ns, 0 ≤ i ∧ i < 260 := by
  intro i hi
  have h2 := fmod_hi (x := (cell ns 0).fdiv 40) (m := 140) (by omega)
  rcases List.mem_append.mp hi with h | h
  · simp only [List.mem_cons, List.not_mem_nil, or_false] at h
    rcases h with rfl | rfl <;> decide
  · split at h
    · obtain ⟨k, hk, rfl⟩ := List.mem_map.mp h
      have := List.mem_range.mp hk
      omega
    · cases h
set_option tactic.hygienic false in
theorem idx7_nodup {ns : List Int} : (idx7 ns).Nodup := by
  unfold idx7
  split
  · rw [List.nodup_append]
    refine ⟨by decide, ?_, ?_⟩
    · unfold List.Nodup
      rw [List.pairwise_map]
      exact List.nodup_range.imp fun h e => h (by omega)
    · intro a ha b hb e
      obtain ⟨k, hk, rfl⟩ := List.mem_map.mp hb
      simp only [List.mem_cons, List.not_mem_nil, or_false] at ha
      omega
  · decide
set_option tactic.hygienic false in
theorem idx7_len {ns : List Int} : (idx7 ns).length ≤ 202 := by
  have h2 := fmod_hi (x := (cell ns 0).fdiv 40) (m := 140) (by omega)
  unfold idx7
  rw [List.length_append]
  split
  · rw [List.length_map, List.length_range]; simp; omega
  · decide
set_option tactic.hygienic false in
theorem first7_nodup {ns : List Int} : (first7 ns).Nodup := by
  unfold first7 List.Nodup
  rw [List.pairwise_map]
  refine List.Pairwise.imp_of_mem ?_ idx7_nodup
  intro a b ha hb hab e
  have h1 := idx7_in a ha
  have h2 := idx7_in b hb
  exact hab (word_inj h1.1 (by omega) h2.1 (by omega) e)
noncomputable def IsW (ns : List Int) (s : Str) : Prop := ∃ j : Int, 0 ≤ j ∧ j < 260 ∧ s = word j (cell ns 1)
set_option tactic.hygienic false in
theorem IsW.nm {ns : List Int} {s : Str} (h : IsW ns s) : isNm s = true := by obtain ⟨j, h0, _, rfl⟩ := h; exact word_nm h0
set_option tactic.hygienic false in
theorem first7_w {ns : List Int} : ∀ s ∈ first7 ns, IsW ns s := by
  intro s hs
  obtain ⟨i, hi, rfl⟩ := List.mem_map.mp hs
  exact ⟨i, (idx7_in i hi).1, (idx7_in i hi).2, rfl⟩
set_option tactic.hygienic false in
theorem first7_len {ns : List Int} : (first7 ns).length ≤ 202 := by unfold first7; rw [List.length_map]; exact idx7_len
noncomputable def words7 (ns : List Int) : List Str := [word 0 (cell ns 1), word 7 (cell ns 1), word 14 (cell ns 1), word 21 (cell ns 1), word 28 (cell ns 1)]

section
variable {g : Gx} {V : VV} {Q : AV → AHeap → Prop} {E : String → AHeap → Prop} {H : AHeap} {b : Addr} {B : Bk}
set_option tactic.hygienic false in
theorem bk_methX {a : X} {m : String} {xs : List X} (hP : g.c.P.meths = BK.meths) (hm : BK.meths.contains ("Book", m) = true) (hn : bookAttrs.contains m = false) (ha : ∀ Q' : AV → AHeap → Prop, Q' (.ref b) H → wpX g a V Q' E H) (hb : H b = some (.book B))
    (q : wpXs g xs V (fun vs H => CallOK g.c g.n g.md ("Book." ++ m) (.ref b :: vs) Q E H) E H) : wpX g (.meth a m xs) V Q E H := by
  rw [x_meth]
  refine ha _ ?_
  simp only [hb]
  exact ⟨by rw [hP]; exact hm, hn, q⟩
end
section
variable {c : Cx} (G : Gd c L07.P) {n : Nat} {md : Bool} {Q : AV → AHeap → Prop} {E : String → AHeap → Prop} {H : AHeap}
include G
set_option tactic.hygienic false in
theorem step7 {b d bs ks : Addr} {bl kl : List AV} {j : Int} {l : List Str} {s : Str} {ep : Nat} {QN : VV → AHeap → Prop} {EE : String → VV → AHeap → Prop} {x0 x3 x4 : Option AV}
    (hbs : H bs = some (.list bl)) (hks : H ks = some (.list kl)) (h0 : 0 ≤ j) (hbl : bl[j.toNat]? = some (.ref b)) (hkl : kl[j.toNat]? = some (.ref d)) (hbl' : bl.length ≤ 100) (hkl' : kl.length ≤ 100) (hb : H b = some (.book (Bof l))) (hd : H d = some (.dict ep (dI (zs l)))) (hl : l.length ≤ 300) (hn : isNm s = true) (hs : s ∉ l)
    (q : ∀ ep', QN [x0, some (.ref bs), some (.ref ks), x3, x4, some (.str s), some (.int j)] (up (up H b (.book (Bof (l ++ [s])))) d (.dict ep' (dI (zs (l ++ [s])))))) :
    wpSs ⟨c, n + 3, true⟩ [.expr (.meth (.sub (.var 1) (.var 6)) "open_purse" [(.var 5)]),
      .assign (.sub (.sub (.var 2) (.var 6)) (.var 5)) (.lit (.int 0))] QN Q EE [x0, some (.ref bs), some (.ref ks), x3, x4, some (.str s), some (.int j)] H := by
  have hM : c.P.meths = BK.meths := by rw [G.hP]; rfl
  rw [w_cons, s_expr']
  refine bk_methX hM (by decide) (by decide) (fun Q' q' => ?_) hb ?_
  · rw [x_sub]
    exact sub_ref hbs h0 hbl (by omega) q'
  · rw [xs_cons]
    show CallOK _ _ _ _ [.ref b, .str s] _ _ _
    have hz : (Bof l).Sz := ⟨by show (zs l).length ≤ _; rw [zs_len]; exact Nat.le_trans hl (by decide), by show (zs l).length ≤ _; rw [zs_len]; exact Nat.le_trans hl (by decide)⟩
    refine open_B G U7 hb (Kn.nm hn) hz ?_
    rw [open_Bof hn hs]
    show wpSs _ _ _ _ _ _ _
    have nk : ks ≠ b := fun e => by subst e; rw [hks] at hb; cases hb
    have nd : d ≠ b := fun e => by subst e; rw [hd] at hb; cases hb
    rw [w_cons, w_asg, x_lit, tsub, x_sub]
    refine sub_ref (by rw [up_other nk]; exact hks) h0 hkl (by omega) ?_
    simp only [x_var, List.getElem?_cons_succ, List.getElem?_cons_zero, up_other nd, hd]
    refine ⟨by rw [dI_len, zs_len]; exact Nat.le_trans hl (by decide), fun ep' => ?_⟩
    rw [put_dI, pt_zs hs]
    exact q ep'
noncomputable def Kp4 (H H' : AHeap) (b0 b1 d0 d1 : Addr) : Prop := ∀ a x, H a = some x → a ≠ b0 → a ≠ b1 → a ≠ d0 → a ≠ d1 → H' a = some x
structure Two (H : AHeap) (b0 b1 d0 d1 : Addr) (B0 B1 : Bk) : Prop where
  hb0 : H b0 = some (.book B0)
  hb1 : H b1 = some (.book B1)
  hd0 : ∃ ep, H d0 = some (.dict ep (dI B0.free))
  hd1 : ∃ ep, H d1 = some (.dict ep (dI B1.free))
  nb : b0 ≠ b1
  nd : d0 ≠ d1
set_option tactic.hygienic false in
omit G in
theorem Two.ne {H : AHeap} {b0 b1 d0 d1 : Addr} {B0 B1 : Bk} (t : Two H b0 b1 d0 d1 B0 B1) {a : Addr} {x : AObj} (h : H a = some x) (hx : x.lt = true ∨ (∃ ns, x = .script ns) ∨ ∃ p q, x = .range p q) : a ≠ b0 ∧ a ≠ b1 ∧ a ≠ d0 ∧ a ≠ d1 := by
  obtain ⟨k1, k2, ⟨e3, k3⟩, ⟨e4, k4⟩, _, _⟩ := t
  have go : ∀ y : AObj, y.lt = false → (∀ ns, y ≠ .script ns) → (∀ p q, y ≠ .range p q) → x ≠ y := fun y h1 h2 h3 e => by
    subst e
    rcases hx with hx | ⟨_, hx⟩ | ⟨_, _, hx⟩
    · rw [h1] at hx; cases hx
    · exact h2 _ hx
    · exact h3 _ _ hx
  refine ⟨fun e => ?_, fun e => ?_, fun e => ?_, fun e => ?_⟩ <;> subst e
  · rw [h] at k1; cases k1; exact go _ rfl (fun _ h => by cases h) (fun _ _ h => by cases h) rfl
  · rw [h] at k2; cases k2; exact go _ rfl (fun _ h => by cases h) (fun _ _ h => by cases h) rfl
  · rw [h] at k3; cases k3; exact go _ rfl (fun _ h => by cases h) (fun _ _ h => by cases h) rfl
  · rw [h] at k4; cases k4; exact go _ rfl (fun _ h => by cases h) (fun _ _ h => by cases h) rfl
set_option tactic.hygienic false in
omit G in
theorem Two.ext {H H' : AHeap} {b0 b1 d0 d1 : Addr} {B0 B1 : Bk} (t : Two H b0 b1 d0 d1 B0 B1) (e : Ext H H') : Two H' b0 b1 d0 d1 B0 B1 := by
  obtain ⟨k1, k2, ⟨e3, k3⟩, ⟨e4, k4⟩, k5, k6⟩ := t
  exact ⟨e _ _ k1, e _ _ k2, ⟨e3, e _ _ k3⟩, ⟨e4, e _ _ k4⟩, k5, k6⟩
set_option tactic.hygienic false in
theorem purses7 {sp bs ks wd z b0 b1 d0 d1 : Addr} {fl : List Str} {QN : VV → AHeap → Prop} {EE : String → VV → AHeap → Prop} (hbs : H bs = some (.list [.ref b0, .ref b1])) (hks : H ks = some (.list [.ref d0, .ref d1])) (hz : H z = some (.list (txs fl))) (hl : fl.length ≤ 202) (hn : ∀ s ∈ fl, isNm s = true) (hu : fl.Nodup)
    (t : Two H b0 b1 d0 d1 (Bof []) (Bof []))
    (q : ∀ H' p j, Kp4 H H' b0 b1 d0 d1 → Two H' b0 b1 d0 d1 (Bof fl) (Bof fl) → QN [some (.ref sp), some (.ref bs), some (.ref ks), some (.ref wd), some (.ref z), p, j] H') :
    wpS ⟨c, n + 3, true⟩ (.for (.var 5) (.var 4) [.for (.var 6) (.prim .range [(.lit (.int 2))]) [.expr (.meth (.sub (.var 1) (.var 6)) "open_purse" [(.var 5)]),
      .assign (.sub (.sub (.var 2) (.var 6)) (.var 5)) (.lit (.int 0))]]) QN Q EE [some (.ref sp), some (.ref bs), some (.ref ks), some (.ref wd), some (.ref z), none, none] H := by
  rw [s_for']
  refine ⟨rfl, ?_⟩
  rw [x_var]
  simp only [List.getElem?_cons_succ, List.getElem?_cons_zero]
  have zne := t.ne hz (.inl rfl)
  have bne := t.ne hbs (.inl rfl)
  have kne := t.ne hks (.inl rfl)
  refine wforI (xs := txs fl) (by simp only [itemsOf, hz]) (fun k V' H' => ∃ p j, V' = [some (.ref sp), some (.ref bs), some (.ref ks), some (.ref wd), some (.ref z), p, j] ∧ Kp4 H H' b0 b1 d0 d1 ∧ Two H' b0 b1 d0 d1 (Bof (fl.take k)) (Bof (fl.take k))) ⟨none, none, rfl, fun _ _ h _ _ _ _ => h, t⟩ ?_
  rintro I hI k V' H' ⟨p, j, rfl, hK, t'⟩
  refine ⟨by simp only [sameIt]; rw [hK _ _ hz zne.1 zne.2.1 zne.2.2.1 zne.2.2.2, hz], fun hk => ?_, fun x hx => ?_⟩
  · rw [hk, txs_length, List.take_length] at t'
    exact q _ _ _ hK t'
  · obtain ⟨s, rfl, hsk⟩ := txs_get hx
    have hkl : k < fl.length := (List.getElem?_eq_some_iff.mp hsk).1
    have hns : s ∉ fl.take k := by
      intro h
      have hdr : s ∈ fl.drop k := List.mem_of_getElem? (i := 0) (by rw [List.getElem?_drop]; simpa using hsk)
      exact (List.nodup_append.mp (by rw [List.take_append_drop]; exact hu : (fl.take k ++ fl.drop k).Nodup)).2.2 s h s hdr rfl
    have hnm := hn s (List.mem_of_getElem? hsk)
    have htl : (fl.take k).length ≤ 300 := by rw [List.length_take]; omega
    simp only [wtg]
    refine ⟨by simp, ?_⟩
    rw [w_cons, s_for']
    refine ⟨rfl, ?_⟩
    simp only [v_0, x_lit, x_var, x_bin, x_neg, x_not, x_ao, x_ite, x_cmp, x_cmp2, x_sub, x_slice, x_glob, x_call, x_prim, x_bm, x_isi, x_list, x_tup, x_dict0, xs_nil, xs_cons, ao_one, ao_cons, xo_none, xo_some, xc_none, xc_some, tv, wtg, b_add, b_sub, b_mul, b_div, b_mod, b_pow, b_adds, c_lt, c_le, c_gt, c_ge, c_eq, c_ne, c_eqs, c_nes, c_in, c_nin, t_bool, t_int, t_none, List.set_cons_succ, List.set_cons_zero, p_lens, p_range, p_range2, p_lenr, p_listr, p_allr]
    refine ⟨by decide, fun zr hzr => ?_⟩
    have hE := Ext.refl.new (o := .range 0 2) hzr
    have hKr : Kp4 H (up H' zr (.range 0 2)) b0 b1 d0 d1 := fun a x h n1 n2 n3 n4 => hE _ _ (hK a x h n1 n2 n3 n4)
    have t2 := t'.ext hE
    have hrn := t2.ne (up_same) (.inr (.inr ⟨_, _, rfl⟩))
    have htk : fl.take (k + 1) = fl.take k ++ [s] := take_snoc hsk
    refine wforI (xs := [.int 0, .int 1]) (by simp only [itemsOf, up_same]; rfl) (fun i V' H'' => ∃ j, V' = [some (.ref sp), some (.ref bs), some (.ref ks), some (.ref wd), some (.ref z), some (.str s), j] ∧ Kp4 H H'' b0 b1 d0 d1 ∧ Two H'' b0 b1 d0 d1 (Bof (if 0 < i then fl.take k ++ [s] else fl.take k)) (Bof (if 1 < i then fl.take k ++ [s] else fl.take k)) ∧ H'' zr = some (.range 0 2)) ⟨j, rfl, hKr, t2, up_same⟩ ?_
    rintro I2 hI2 i V2 H2 ⟨j2, rfl, hK2, t3, hr⟩
    refine ⟨by simp only [sameIt]; rw [hr, up_same], fun hi => ?_, fun y hy => ?_⟩
    · subst hi
      rw [w_nil]
      refine hI _ _ _ ⟨_, _, rfl, hK2, ?_⟩
      rw [htk]
      exact t3
    · have hbs2 := hK2 _ _ hbs bne.1 bne.2.1 bne.2.2.1 bne.2.2.2
      have hks2 := hK2 _ _ hks kne.1 kne.2.1 kne.2.2.1 kne.2.2.2
      obtain ⟨k1, k2, ⟨e3, k3⟩, ⟨e4, k4⟩, k5, k6⟩ := t3
      have n1 : b0 ≠ d0 := fun e => by rw [e, k3] at k1; cases k1
      have n2 : b0 ≠ d1 := fun e => by rw [e, k4] at k1; cases k1
      have n3 : b1 ≠ d0 := fun e => by rw [e, k3] at k2; cases k2
      have n4 : b1 ≠ d1 := fun e => by rw [e, k4] at k2; cases k2
      match i, hy with
      | 0, hy =>
        cases hy
        refine ⟨by simp, ?_⟩
        refine step7 G hbs2 hks2 (by decide) rfl rfl (by simp) (by simp) k1 k3 htl hnm hns fun ep' => ?_
        refine hI2 _ _ _ ⟨_, rfl, fun a x h m1 m2 m3 m4 => by rw [up_other m3, up_other m1]; exact hK2 a x h m1 m2 m3 m4, ⟨by rw [up_other n1, up_same]; rfl, by rw [up_other n3, up_other k5.symm]; exact k2, ⟨ep', up_same⟩, ⟨e4, by rw [up_other k6.symm, up_other n2.symm]; exact k4⟩, k5, k6⟩, ?_⟩
        rw [up_other hrn.2.2.1, up_other hrn.1]; exact hr
      | 1, hy =>
        cases hy
        refine ⟨by simp, ?_⟩
        refine step7 G hbs2 hks2 (by decide) rfl rfl (by simp) (by simp) k2 k4 htl hnm hns fun ep' => ?_
        refine hI2 _ _ _ ⟨_, rfl, fun a x h m1 m2 m3 m4 => by rw [up_other m4, up_other m2]; exact hK2 a x h m1 m2 m3 m4, ⟨by rw [up_other n2, up_other k5]; exact k1, by rw [up_other n4, up_same]; rfl, ⟨e3, by rw [up_other k6, up_other n3.symm]; exact k3⟩, ⟨ep', up_same⟩, k5, k6⟩, ?_⟩
        rw [up_other hrn.2.2.2, up_other hrn.2.1]; exact hr
      | i + 2, hy => cases hy
end
end Mine

end
section
open PySem PySem.W PyProof.Rows PySem.Spec PySem.SeqAt PySem.Calls
namespace Mine
set_option tactic.hygienic false in
theorem fm_words {cl : Int} : ∀ l : List Nat, (l.map fun (k : Nat) => AV.int (0 + k)).filterMap (fun x => match x with | .int k => some (.str (word (40 + k) cl)) | _ => none) = txs (l.map fun (k : Nat) => word (40 + (k : Int)) cl)
  | [] => rfl
  | a :: r => by
    rw [List.map_cons, List.filterMap_cons]
    show AV.str (word (40 + (0 + (a : Int))) cl) :: _ = _
    rw [fm_words r, Int.zero_add]
    rfl
section
variable {c : Cx} (G : Gd c L07.P) {n : Nat} {md : Bool} {Q : AV → AHeap → Prop} {E : String → AHeap → Prop} {H : AHeap}
include G
theorem word7_ok {k cl : Int} (hk : 0 ≤ k) (hk' : k < 600) (q : ∀ H', Ext H H' → Q (.str (word k cl)) H') : CallOK c (n + 2) true "_law_word" [.int k, .int cl] Q E H := word_ok G (nm := "_law_told_here") rfl rfl hk hk' q
set_option tactic.hygienic false in
theorem more7_ok {ns : List Int} {sp : Addr} {V : VV} {EE : String → AHeap → Prop} (hV : V[0]? = some (some (.ref sp))) (hV7 : V.length = 7) (hsp : H sp = some (.script ns)) (hl : ns.length < 2 ^ 62) (hc : ((cell ns 0).fdiv 5).fmod 8 = 1)
    (q : ∀ z H', Ext H H' → H' z = none → Q (.ref z) (up H' z (.list (txs ((List.range (60 + ((cell ns 0).fdiv 40).fmod 140).toNat).map fun (k : Nat) => word (40 + (k : Int)) (cell ns 1)))))) :
    wpX ⟨c, n + 3, true⟩ (.comp (.call "_law_word" [(.bin .Add (.lit (.int 40)) (.var 7)), (.call "_law_cell_at" [(.var 0), (.lit (.int 1))])]) 1 false (.prim .range [(.bin .Add (.lit (.int 60)) (.bin .Mod (.bin .FloorDiv (.sub (.var 0) (.lit (.int 0))) (.lit (.int 40))) (.lit (.int 140))))]) none) V Q EE H := by
  have h0 : ns[0]? = some (cell ns 0) := by
    cases ns with
    | nil => simp [cell] at hc
    | cons a r => rfl
  have r0 := fmod_lo (x := (cell ns 0).fdiv 40) (m := 140) (by omega)
  have r1 := fmod_hi (x := (cell ns 0).fdiv 40) (m := 140) (by omega)
  rw [x_comp]
  refine ⟨rfl, ?_⟩
  simp only [x_prim, xs_cons, xs_nil, x_bin, x_sub, x_lit, x_var, hV, sub_ri, sub_rs, sub_si, hsp]
  refine ⟨by decide, by decide, cell ns 0, h0, ?_⟩
  dsimp only [v_0, x_lit, x_var, x_bin, x_neg, x_not, x_ao, x_ite, x_cmp, x_cmp2, x_sub, x_slice, x_glob, x_call, x_prim, x_bm, x_isi, x_list, x_tup, x_dict0, xs_nil, xs_cons, ao_one, ao_cons, xo_none, xo_some, xc_none, xc_some, tv, wtg, b_add, b_sub, b_mul, b_div, b_mod, b_pow, b_adds, c_lt, c_le, c_gt, c_ge, c_eq, c_ne, c_eqs, c_nes, c_in, c_nin, t_bool, t_int, t_none, p_lens, p_range, p_range2, p_lenr, p_listr, p_allr]
  refine ⟨by decide, by decide, ⟨by omega, by omega⟩, fun zr hzr => ?_⟩
  have hE := Ext.refl.new (o := .range 0 (60 + ((cell ns 0).fdiv 40).fmod 140)) hzr
  refine wcomp_ext (xs := (List.range (60 + ((cell ns 0).fdiv 40).fmod 140 - 0).toNat).map fun (k : Nat) => AV.int (0 + k)) (by simp only [itemsOf, up_same]) (by simp only [List.length_map, List.length_range, sizeLine]; omega) (fun x => match x with | .int k => some (.str (word (40 + k) (cell ns 1))) | _ => none) (fun x hx H' hE' nx hnx => ?_) (fun a H' hE' ha => ?_)
  · obtain ⟨k, hk, rfl⟩ := List.mem_map.mp hx
    have hk := List.mem_range.mp hk
    simp only [xc_none, if_true, v_0, x_lit, x_var, x_bin, x_neg, x_not, x_ao, x_ite, x_cmp, x_cmp2, x_sub, x_slice, x_glob, x_call, x_prim, x_bm, x_isi, x_list, x_tup, x_dict0, xs_nil, xs_cons, ao_one, ao_cons, xo_none, xo_some, xc_none, xc_some, tv, wtg, b_add, b_sub, b_mul, b_div, b_mod, b_pow, b_adds, c_lt, c_le, c_gt, c_ge, c_eq, c_ne, c_eqs, c_nes, c_in, c_nin, t_bool, t_int, t_none]
    have v7 : (V ++ [some (.int (0 + (k : Int)))])[7]? = some (some (.int (0 + (k : Int)))) := by rw [List.getElem?_append_right (by omega), hV7]; rfl
    have v0 : (V ++ [some (.int (0 + (k : Int)))])[0]? = some (some (.ref sp)) := by rw [List.getElem?_append_left (by omega)]; exact hV
    simp only [v7, v0]
    simp only [v_0, x_lit, x_var, x_bin, x_neg, x_not, x_ao, x_ite, x_cmp, x_cmp2, x_sub, x_slice, x_glob, x_call, x_prim, x_bm, x_isi, x_list, x_tup, x_dict0, xs_nil, xs_cons, ao_one, ao_cons, xo_none, xo_some, xc_none, xc_some, tv, wtg, b_add, b_sub, b_mul, b_div, b_mod, b_pow, b_adds, c_lt, c_le, c_gt, c_ge, c_eq, c_ne, c_eqs, c_nes, c_in, c_nin, t_bool, t_int, t_none]
    refine cell_ok G rfl (by decide) (hE' _ _ (hE _ _ hsp)) hl ?_
    refine word7_ok G (by omega) (by omega) fun H'' hE'' => ?_
    exact hnx H'' hE''
  · have := q a H' (hE.trans hE') ha
    have e := fm_words (cl := cell ns 1) (List.range (60 + ((cell ns 0).fdiv 40).fmod 140 - 0).toNat)
    rw [Int.sub_zero] at e ⊢
    rw [e]
    exact this
set_option tactic.hygienic false in
theorem opened7_ok {ns : List Int} {sp bs ks wd b0 b1 d0 d1 : Addr} (hsp : H sp = some (.script ns)) (hl : ns.length < 2 ^ 62) (hwd : H wd = some (.list (txs (words7 ns)))) (hbs : H bs = some (.list [.ref b0, .ref b1])) (hks : H ks = some (.list [.ref d0, .ref d1])) (t : Two H b0 b1 d0 d1 (Bof []) (Bof []))
    (q : ∀ H' z, H z = none → Kp4 H H' b0 b1 d0 d1 → H' z = some (.list (txs (first7 ns))) → Two H' b0 b1 d0 d1 (Bof (first7 ns)) (Bof (first7 ns)) → Q (.ref z) H') : CallOK c (n + 4) true "_law_opened" [.ref sp, .ref bs, .ref ks, .ref wd] Q E H := by
  refine G.call (F := L07.f__law_opened) rfl rfl ?_
  dsimp only [L07.f__law_opened, initV]
  rw [w_cons, w_asg]
  dsimp [v_0, x_lit, x_var, x_bin, x_neg, x_not, x_ao, x_ite, x_cmp, x_cmp2, x_sub, x_slice, x_glob, x_call, x_prim, x_bm, x_isi, x_list, x_tup, x_dict0, xs_nil, xs_cons, ao_one, ao_cons, xo_none, xo_some, xc_none, xc_some, tv, wtg, b_add, b_sub, b_mul, b_div, b_mod, b_pow, b_adds, c_lt, c_le, c_gt, c_ge, c_eq, c_ne, c_eqs, c_nes, c_in, c_nin, t_bool, t_int, t_none]; simp [v_0, x_lit, x_var, x_bin, x_neg, x_not, x_ao, x_ite, x_cmp, x_cmp2, x_sub, x_slice, x_glob, x_call, x_prim, x_bm, x_isi, x_list, x_tup, x_dict0, xs_nil, xs_cons, ao_one, ao_cons, xo_none, xo_some, xc_none, xc_some, tv, wtg, b_add, b_sub, b_mul, b_div, b_mod, b_pow, b_adds, c_lt, c_le, c_gt, c_ge, c_eq, c_ne, c_eqs, c_nes, c_in, c_nin, t_bool, t_int, t_none]
  refine slice_ref (l := none) (u := some 2) (t := none) hwd rfl rfl rfl (by simp) (by simp [txs_length, words7, sizeLine]) fun z hz => ?_
  have hp : pickL (txs (words7 ns)) none (some 2) none = txs [word 0 (cell ns 1), word 7 (cell ns 1)] := rfl
  rw [hp]
  have hE := Ext.refl.new (o := .list (txs [word 0 (cell ns 1), word 7 (cell ns 1)])) hz
  show wpSs _ _ _ _ _ _ _
  -- the end, from the list on
  have fin : ∀ H1 z1, Ext H H1 → H z1 = none → H1 z1 = some (.list (txs (first7 ns))) → wpSs ⟨c, n + 3, true⟩ [.for (.var 5) (.var 4) [.for (.var 6) (.prim .range [(.lit (.int 2))]) [.expr (.meth (.sub (.var 1) (.var 6)) "open_purse" [(.var 5)]), .assign (.sub (.sub (.var 2) (.var 6)) (.var 5)) (.lit (.int 0))]], .ret (.var 4)] (fun _ H => Q .none H) Q (fun cl _ H => E cl H) [some (.ref sp), some (.ref bs), some (.ref ks), some (.ref wd), some (.ref z1), none, none] H1 := fun H1 z1 e1 hz1 h1 => by
    rw [w_cons]
    refine purses7 G (e1 _ _ hbs) (e1 _ _ hks) h1 first7_len (fun s hs => (first7_w s hs).nm) first7_nodup (t.ext e1) fun H' p j hK t' => ?_
    have hne := (t.ext e1).ne h1 (.inl rfl)
    exact q H' z1 hz1 (fun a x h => hK a x (e1 a x h)) (hK _ _ h1 hne.1 hne.2.1 hne.2.2.1 hne.2.2.2) t'
  rw [w_cons, w_ite]
  dsimp only [v_0, x_lit, x_var, x_bin, x_neg, x_not, x_ao, x_ite, x_cmp, x_cmp2, x_sub, x_slice, x_glob, x_call, x_prim, x_bm, x_isi, x_list, x_tup, x_dict0, xs_nil, xs_cons, ao_one, ao_cons, xo_none, xo_some, xc_none, xc_some, tv, wtg, b_add, b_sub, b_mul, b_div, b_mod, b_pow, b_adds, c_lt, c_le, c_gt, c_ge, c_eq, c_ne, c_eqs, c_nes, c_in, c_nin, t_bool, t_int, t_none]
  refine cell_ok G rfl (by decide) (hE _ _ hsp) hl ?_
  rw [b_div]
  refine ⟨by decide, ?_⟩
  rw [b_mod]
  refine ⟨by decide, ?_⟩
  rw [c_eq, t_bool]
  have e0 : cell ns (Int.toNat 0) = cell ns 0 := rfl
  rw [e0]
  by_cases hc : ((cell ns 0).fdiv 5).fmod 8 = 1
  · rw [if_pos (by rw [hc]; rfl), w_cons, w_asg, x_bin, x_var]
    show wpX _ _ _ _ _ _
    refine more7_ok G rfl rfl (hE _ _ hsp) hl hc fun z2 H2 hE2 hz2 => ?_
    have hE3 := hE2.new (o := .list (txs ((List.range (60 + ((cell ns 0).fdiv 40).fmod 140).toNat).map fun (k : Nat) => word (40 + (k : Int)) (cell ns 1)))) hz2
    refine add_ref (hE3 _ _ up_same) up_same ?_ fun z3 hz3 => ?_
    · have r1 := fmod_hi (x := (cell ns 0).fdiv 40) (m := 140) (by omega)
      simp only [txs_length, List.length_map, List.length_range, List.length_cons, List.length_nil, sizeLine]
      omega
    · have hf : txs [word 0 (cell ns 1), word 7 (cell ns 1)] ++ txs ((List.range (60 + ((cell ns 0).fdiv 40).fmod 140).toNat).map fun (k : Nat) => word (40 + (k : Int)) (cell ns 1)) = txs (first7 ns) := by
        unfold first7 idx7
        rw [if_pos hc]
        simp only [txs, List.map_append, List.map_map]
        rfl
      rw [hf, tv]
      refine ⟨by simp, ?_⟩
      rw [w_nil]
      exact fin _ z3 ((hE.trans hE3).new hz3) ((hE.trans hE3).none hz3) up_same
  · rw [if_neg (by simpa using hc), w_nil]
    refine fin _ z hE hz ?_
    have hf : txs [word 0 (cell ns 1), word 7 (cell ns 1)] = txs (first7 ns) := by
      unfold first7 idx7
      rw [if_neg hc]; rfl
    rw [hf]; exact up_same
end
end Mine

end
section
open PySem PySem.W PyProof.Rows PySem.Spec PySem.SeqAt PySem.Calls
namespace Mine
set_option tactic.hygienic false in
theorem weq_ans {r : Except String Bk} {Q : AV → AHeap → Prop} {H : AHeap} (q : Q (.bool false) H) : wcmp .NotEq (ansV r) (ansV r) Q H := by
  rw [c_ner]
  cases r with
  | ok B => exact ⟨.none, .none, .none, .none, ⟨rfl, by decide⟩, ⟨rfl, by decide⟩, q⟩
  | error cl => show Q (.bool (!(Str.ofString cl == Str.ofString cl))) H; rw [beq_self_eq_true]; exact q
set_option tactic.hygienic false in
theorem Kn.up {H : AHeap} {v : AV} {b : Addr} {B B' : Bk} (hb : H b = some (.book B)) (k : Kn H v) : Kn (up H b (.book B')) v := by
  obtain ⟨⟨t, ht⟩, hl⟩ := k
  refine ⟨⟨t, ?_⟩, hl⟩
  cases v with
  | ref a =>
    have : a ≠ b := fun e => by subst e; simp [vkind, hb] at ht
    simp only [vkind, up_other this] at ht ⊢
    exact ht
  | _ => exact ht
noncomputable def allW (ns : List Int) (B : Bk) : Prop := ∀ k, hs B.free k = true → IsW ns k
structure S7 (rg : Addr → Option (Int × Int)) (ns : List Int) (H : AHeap) (sp bs ks hd wd sm fi till b0 b1 d0 d1 : Addr) (B0 B1 : Bk) (m mm : Nat) : Prop where
  hsp : H sp = some (.script ns)
  hbs : H bs = some (.list [.ref b0, .ref b1])
  hks : H ks = some (.list [.ref d0, .ref d1])
  hhd : HeldOK H hd m
  hwd : H wd = some (.list (txs (words7 ns) ++ txs (words7 ns) ++ [.str (Str.ofString ""), .str (Str.ofString "Till"), .str (Str.ofString "abcdefghijklm"), .int 7, .none, .ref till]))
  htl : ∃ xs, H till = some (.list xs)
  hsm : ∃ ss, H sm = some (.list (txs ss)) ∧ ss.length ≤ 6
  hfi : ∃ ss, H fi = some (.list (txs ss)) ∧ ss.length ≤ 300
  ne : bs ≠ hd ∧ ks ≠ hd ∧ wd ≠ hd ∧ sm ≠ hd ∧ fi ≠ hd ∧ till ≠ hd
  two : Two H b0 b1 d0 d1 B0 B1
  o0 : B7 B0 mm
  o1 : B7 B1 mm
  w0 : allW ns B0
  w1 : allW ns B1
  hrg : ∀ a p, rg a = some p → H a = some (.range p.1 p.2)
section
variable {rg : Addr → Option (Int × Int)} {ns : List Int} {H H' : AHeap} {sp bs ks hd wd sm fi till b0 b1 d0 d1 : Addr} {B0 B1 : Bk} {m mm m' mm' : Nat}
set_option tactic.hygienic false in
theorem S7.keep (S : S7 rg ns H sp bs ks hd wd sm fi till b0 b1 d0 d1 B0 B1 m mm) (k : KeepX H H' hd) (h : HeldOK H' hd m') : S7 rg ns H' sp bs ks hd wd sm fi till b0 b1 d0 d1 B0 B1 m' mm := by
  obtain ⟨s1, s2, s3, s4, s5, ⟨xs, s6⟩, ⟨ss, s7, s7'⟩, ⟨ss', s8, s8'⟩, ⟨n1, n2, n3, n4, n5, n6⟩, ⟨t1, t2, ⟨e3, t3⟩, ⟨e4, t4⟩, t5, t6⟩, s10, s11, s12, s13, s14⟩ := S
  obtain ⟨es, hh, _⟩ := s4
  have ne : ∀ {a x}, H a = some x → x.lt = false → a ≠ hd := fun {a x} e h q => by subst q; rw [hh] at e; cases e; cases h
  exact ⟨k _ _ (ne s1 rfl) s1, k _ _ n1 s2, k _ _ n2 s3, h, k _ _ n3 s5, ⟨xs, k _ _ n6 s6⟩, ⟨ss, k _ _ n4 s7, s7'⟩, ⟨ss', k _ _ n5 s8, s8'⟩, ⟨n1, n2, n3, n4, n5, n6⟩, ⟨k _ _ (ne t1 rfl) t1, k _ _ (ne t2 rfl) t2, ⟨e3, k _ _ (ne t3 rfl) t3⟩, ⟨e4, k _ _ (ne t4 rfl) t4⟩, t5, t6⟩, s10, s11, s12, s13, fun a p e => k _ _ (ne (s14 a p e) rfl) (s14 a p e)⟩
theorem S7.reg {rg' : Addr → Option (Int × Int)} (S : S7 rg ns H sp bs ks hd wd sm fi till b0 b1 d0 d1 B0 B1 m mm) (h : ∀ a p, rg' a = some p → H a = some (.range p.1 p.2)) : S7 rg' ns H sp bs ks hd wd sm fi till b0 b1 d0 d1 B0 B1 m mm := { S with hrg := h }
set_option tactic.hygienic false in
theorem S7.turn {B0' B1' : Bk} (S : S7 rg ns H sp bs ks hd wd sm fi till b0 b1 d0 d1 B0 B1 m mm) (k : Kp4 H H' b0 b1 d0 d1) (t : Two H' b0 b1 d0 d1 B0' B1') (o0 : B7 B0' mm') (o1 : B7 B1' mm') (w0 : allW ns B0') (w1 : allW ns B1') : S7 rg ns H' sp bs ks hd wd sm fi till b0 b1 d0 d1 B0' B1' m mm' := by
  obtain ⟨s1, s2, s3, s4, s5, ⟨xs, s6⟩, ⟨ss, s7, s7'⟩, ⟨ss', s8, s8'⟩, s9, t0, _, _, _, _, s14⟩ := S
  have go : ∀ {a x}, H a = some x → (x.lt = true ∨ (∃ ns, x = .script ns) ∨ ∃ p q, x = .range p q) → H' a = some x := fun {a x} e h => by
    obtain ⟨n1, n2, n3, n4⟩ := t0.ne e h
    exact k _ _ e n1 n2 n3 n4
  exact ⟨go s1 (.inr (.inl ⟨_, rfl⟩)), go s2 (.inl rfl), go s3 (.inl rfl), s4.keep fun a x hx e => go e (.inl hx), go s5 (.inl rfl), ⟨xs, go s6 (.inl rfl)⟩, ⟨ss, go s7 (.inl rfl), s7'⟩, ⟨ss', go s8 (.inl rfl), s8'⟩, s9, t, o0, o1, w0, w1, fun a p e => go (s14 a p e) (.inr (.inr ⟨_, _, rfl⟩))⟩
end
section
variable {c : Cx} (G : Gd c L07.P) {n : Nat} {md : Bool} {Q : AV → AHeap → Prop} {E : String → AHeap → Prop} {H : AHeap}
include G
set_option tactic.hygienic false in
theorem deed7 {V : VV} {b d bs ks : Addr} {bl kl : List AV} {j : Int} {ep mm : Nat} {k way : Int} {v a : AV} {B : Bk}
    (hV1 : V[1]? = some (some (.ref bs))) (hV2 : V[2]? = some (some (.ref ks))) (hV9 : V[9]? = some (some (.int k))) (hV11 : V[11]? = some (some (.int way))) (hV12 : V[12]? = some (some v)) (hV13 : V[13]? = some (some a)) (hj : k.fmod 2 = j)
    (hbs : H bs = some (.list bl)) (hks : H ks = some (.list kl)) (h0 : 0 ≤ j) (hbl : bl[j.toNat]? = some (.ref b)) (hkl : kl[j.toNat]? = some (.ref d)) (hbl' : bl.length ≤ 100) (hkl' : kl.length ≤ 100) (hb : H b = some (.book B)) (hd : H d = some (.dict ep (dI B.free))) (h7 : B7 B mm) (hmm : mm ≤ 900)
    (hw : way = 0 ∨ way = 1 ∨ way = 2) (hv : Kn H v) (ha : Kn H a)
    (q : ∀ ep', Q (.bool false) (up (up H b (.book (bkOf B (deedQ B way v a)))) d (.dict ep' (dI (bkOf B (deedQ B way v a)).free)))) :
    wpX ⟨c, n + 4, true⟩ (.cmp .NotEq (.call "_law_told" [(.sub (.var 1) (.bin .Mod (.var 9) (.lit (.int 2)))), (.var 11), (.var 12), (.var 13)]) (.call "_law_due" [(.sub (.var 2) (.bin .Mod (.var 9) (.lit (.int 2)))), (.var 11), (.var 12), (.var 13)])) V Q E H := by
  have hz : B.Sz := ⟨Nat.le_trans h7.fl (Nat.le_trans hmm (by decide)), Nat.le_trans h7.al (Nat.le_trans hmm (by decide))⟩
  have nk : ks ≠ b := fun e => by subst e; rw [hks] at hb; cases hb
  have nd : d ≠ b := fun e => by subst e; rw [hd] at hb; cases hb
  simp only [v_0, x_lit, x_var, x_bin, x_neg, x_not, x_ao, x_ite, x_cmp, x_cmp2, x_sub, x_slice, x_glob, x_call, x_prim, x_bm, x_isi, x_list, x_tup, x_dict0, xs_nil, xs_cons, ao_one, ao_cons, xo_none, xo_some, xc_none, xc_some, tv, wtg, b_add, b_sub, b_mul, b_div, b_mod, b_pow, b_adds, c_lt, c_le, c_gt, c_ge, c_eq, c_ne, c_eqs, c_nes, c_in, c_nin, t_bool, t_int, t_none, hV1, hV2, hV9, hV11, hV12, hV13]
  refine ⟨by decide, ?_⟩
  rw [hj]
  refine sub_ref hbs h0 hbl (by omega) ?_
  refine told7_ok G hw hb hz hv ha ?_
  refine ⟨by decide, ?_⟩
  refine sub_ref (by rw [up_other nk]; exact hks) h0 hkl (by omega) ?_
  refine due7_ok G hw (by rw [up_other nd]; exact hd) h7.nm hz (hv.up hb) (ha.up hb) fun ep' => ?_
  exact weq_ans (q ep')
end
end Mine

end
section
open PySem PySem.W PyProof.Rows PySem.Spec PySem.SeqAt PySem.Calls
namespace Mine
noncomputable def restS : List S := [.ite (.cmp .NotEq (.call "_law_told" [(.sub (.var 1) (.bin .Mod (.var 9) (.lit (.int 2)))), (.var 11), (.var 12), (.var 13)]) (.call "_law_due" [(.sub (.var 2) (.bin .Mod (.var 9) (.lit (.int 2)))), (.var 11), (.var 12), (.var 13)])) [.ret (.lit (.bool false))] [],
    .for (.var 14) (.prim .range [(.lit (.int 2))]) [.ite (.not (.call "_law_same" [(.sub (.var 1) (.var 14)), (.sub (.var 2) (.var 14)), (.var 8), (.bin .FloorDiv (.call "_law_mixed" [(.sub (.var 0) (.var 9)), (.bin .Add (.bin .Add (.var 9) (.lit (.int 31))) (.var 14))]) (.lit (.int 3))), (.var 3)])) [.ret (.lit (.bool false))] []]]
section
variable {c : Cx} (G : Gd c L07.P) {n : Nat} {md : Bool} {Q : AV → AHeap → Prop} {E : String → AHeap → Prop} {H : AHeap}
  {rg : Addr → Option (Int × Int)} {ns : List Int} {H' : AHeap} {sp bs ks hd wd sm fi till b0 b1 d0 d1 : Addr} {B0 B1 : Bk} {m mm m' mm' : Nat}
set_option tactic.hygienic false in
theorem allW.deed {B : Bk} {way : Int} {v a : AV} (h : allW ns B) (hv : ∀ s, v = .str s → isNm s = true → IsW ns s) : allW ns (bkOf B (deedQ B way v a)) := fun k hk => by
  rcases deed_keys hk with h' | ⟨h1, h2⟩
  · exact h k h'
  · exact hv k h1 h2
theorem B7.more {B : Bk} {m m' : Nat} (h : B7 B m) (k : m ≤ m') : B7 B m' := ⟨h.day, h.pacts, h.nm, h.as, Nat.le_trans h.fl k, Nat.le_trans h.al k⟩
set_option tactic.hygienic false in
theorem sub_script {sp : Addr} {k : Nat} {x : Int} (h : H sp = some (.script ns)) (hk : ns[k]? = some x) (hl : ns.length ≤ 63) (q : Q (.int x) H) : wsub (.ref sp) (.int (k : Int)) Q H := by
  have := (List.getElem?_eq_some_iff.mp hk).1
  simp only [sub_ri, sub_rs, sub_si, h]
  exact ⟨by omega, by omega, x, by rw [Int.toNat_natCast]; exact hk, q⟩
include G
set_option tactic.hygienic false in
theorem sames7 {QN : VV → AHeap → Prop} {EE : String → VV → AHeap → Prop} {x4 x5 x10 x11 x12 x13 x14 : Option AV} {k : Nat} {xk : Int} (hk : ns[k]? = some xk) (hl : ns.length ≤ 63) (S : S7 rg ns H sp bs ks hd wd sm fi till b0 b1 d0 d1 B0 B1 m mm) (hm : m ≤ 4000) (hmm : mm ≤ 800)
    (q : ∀ H' x14, S7 rg ns H' sp bs ks hd wd sm fi till b0 b1 d0 d1 B0 B1 (m + 56) mm → QN [some (.ref sp), some (.ref bs), some (.ref ks), some (.ref hd), x4, x5, some (.ref wd), some (.ref fi), some (.ref sm), some (.int (k : Int)), x10, x11, x12, x13, x14] H') :
    wpS ⟨c, n + 5, true⟩ (.for (.var 14) (.prim .range [(.lit (.int 2))]) [.ite (.not (.call "_law_same" [(.sub (.var 1) (.var 14)), (.sub (.var 2) (.var 14)), (.var 8), (.bin .FloorDiv (.call "_law_mixed" [(.sub (.var 0) (.var 9)), (.bin .Add (.bin .Add (.var 9) (.lit (.int 31))) (.var 14))]) (.lit (.int 3))), (.var 3)])) [.ret (.lit (.bool false))] []]) QN Q EE [some (.ref sp), some (.ref bs), some (.ref ks), some (.ref hd), x4, x5, some (.ref wd), some (.ref fi), some (.ref sm), some (.int (k : Int)), x10, x11, x12, x13, x14] H := by
  rw [s_for']
  refine ⟨rfl, ?_⟩
  simp only [v_0, x_lit, x_var, x_bin, x_neg, x_not, x_ao, x_ite, x_cmp, x_cmp2, x_sub, x_slice, x_glob, x_call, x_prim, x_bm, x_isi, x_list, x_tup, x_dict0, xs_nil, xs_cons, ao_one, ao_cons, xo_none, xo_some, xc_none, xc_some, tv, wtg, b_add, b_sub, b_mul, b_div, b_mod, b_pow, b_adds, c_lt, c_le, c_gt, c_ge, c_eq, c_ne, c_eqs, c_nes, c_in, c_nin, t_bool, t_int, t_none, p_lens, p_range, p_range2, p_lenr, p_listr, p_allr]
  refine ⟨by decide, fun zr hzr => ?_⟩
  have hE := Ext.refl.new (o := .range 0 2) hzr
  obtain ⟨es, hes, _⟩ := id S.hhd.ex
  have hzh : zr ≠ hd := (ne_of hes hzr).symm
  refine wforI (xs := [.int 0, .int 1]) (by simp only [itemsOf, up_same]; rfl) (fun i V' H2 => ∃ x14, V' = [some (.ref sp), some (.ref bs), some (.ref ks), some (.ref hd), x4, x5, some (.ref wd), some (.ref fi), some (.ref sm), some (.int (k : Int)), x10, x11, x12, x13, x14] ∧ S7 rg ns H2 sp bs ks hd wd sm fi till b0 b1 d0 d1 B0 B1 (m + 28 * i) mm ∧ H2 zr = some (.range 0 2)) ⟨_, rfl, S.keep (KeepX.ext hE) (S.hhd.keep fun a x _ e => hE _ _ e), up_same⟩ ?_
  rintro I2 hI2 i V2 H2 ⟨j2, rfl, S2, hr⟩
  refine ⟨by simp only [sameIt]; rw [hr, up_same], fun hi => ?_, fun y hy => ?_⟩
  · subst hi
    exact q _ _ S2
  · obtain ⟨ss, hss, hss'⟩ := S2.hsm
    have hi : i < 2 := (List.getElem?_eq_some_iff.mp hy).1
    obtain ⟨k1, k2, ⟨e3, k3⟩, ⟨e4, k4⟩, k5, k6⟩ := S2.two
    have fin : ∀ {x : Option AV} {H3 : AHeap}, KeepX H2 H3 hd → HeldOK H3 hd (m + 28 * i + 4 + 4 * ss.length) → I2 (i + 1) [some (.ref sp), some (.ref bs), some (.ref ks), some (.ref hd), x4, x5, some (.ref wd), some (.ref fi), some (.ref sm), some (.int (k : Int)), x10, x11, x12, x13, x] H3 := fun {x H3} hK hh =>
      hI2 _ _ _ ⟨x, rfl, S2.keep hK (hh.more (by omega)), hK _ _ hzh hr⟩
    match i, hi, hy with
    | 0, _, hy =>
      cases hy
      refine ⟨by simp, ?_⟩
      rw [w_cons, w_ite]
      dsimp [v_0, x_lit, x_var, x_bin, x_neg, x_not, x_ao, x_ite, x_cmp, x_cmp2, x_sub, x_slice, x_glob, x_call, x_prim, x_bm, x_isi, x_list, x_tup, x_dict0, xs_nil, xs_cons, ao_one, ao_cons, xo_none, xo_some, xc_none, xc_some, tv, wtg, b_add, b_sub, b_mul, b_div, b_mod, b_pow, b_adds, c_lt, c_le, c_gt, c_ge, c_eq, c_ne, c_eqs, c_nes, c_in, c_nin, t_bool, t_int, t_none]
      refine sub_ref S2.hbs (by decide) rfl (by simp) ?_
      refine sub_ref S2.hks (by decide) rfl (by simp) ?_
      refine sub_script S2.hsp hk hl ?_
      refine mixed_ok G rfl ?_
      rw [b_div]
      refine ⟨by decide, ?_⟩
      refine same7_ok G k1 k3 S2.o0 (by omega) S2.hhd (by omega) hss S2.ne.2.2.2.1 (by omega) fun H3 hK hh => ?_
      simp [t_bool, w_nil]
      exact fin hK hh
    | 1, _, hy =>
      cases hy
      refine ⟨by simp, ?_⟩
      rw [w_cons, w_ite]
      dsimp [v_0, x_lit, x_var, x_bin, x_neg, x_not, x_ao, x_ite, x_cmp, x_cmp2, x_sub, x_slice, x_glob, x_call, x_prim, x_bm, x_isi, x_list, x_tup, x_dict0, xs_nil, xs_cons, ao_one, ao_cons, xo_none, xo_some, xc_none, xc_some, tv, wtg, b_add, b_sub, b_mul, b_div, b_mod, b_pow, b_adds, c_lt, c_le, c_gt, c_ge, c_eq, c_ne, c_eqs, c_nes, c_in, c_nin, t_bool, t_int, t_none]
      refine sub_ref S2.hbs (by decide) rfl (by simp) ?_
      refine sub_ref S2.hks (by decide) rfl (by simp) ?_
      refine sub_script S2.hsp hk hl ?_
      refine mixed_ok G rfl ?_
      rw [b_div]
      refine ⟨by decide, ?_⟩
      refine same7_ok G k2 k4 S2.o1 (by omega) S2.hhd (by omega) hss S2.ne.2.2.2.1 (by omega) fun H3 hK hh => ?_
      simp [t_bool, w_nil]
      exact fin hK hh
set_option tactic.hygienic false in
theorem rest7 {QN : VV → AHeap → Prop} {EE : String → VV → AHeap → Prop} {x4 x5 x10 x14 : Option AV} {k : Nat} {xk way : Int} {v a : AV} (hk : ns[k]? = some xk) (hl : ns.length ≤ 63) (S : S7 rg ns H sp bs ks hd wd sm fi till b0 b1 d0 d1 B0 B1 m mm) (hm : m ≤ 4000) (hmm : mm ≤ 700)
    (hw : way = 0 ∨ way = 1 ∨ way = 2) (hv : Kn H v) (hvw : ∀ s, v = .str s → isNm s = true → IsW ns s) (ha : Kn H a)
    (q : ∀ H' B0 B1 x14, S7 rg ns H' sp bs ks hd wd sm fi till b0 b1 d0 d1 B0 B1 (m + 56) (mm + 1) → QN [some (.ref sp), some (.ref bs), some (.ref ks), some (.ref hd), x4, x5, some (.ref wd), some (.ref fi), some (.ref sm), some (.int (k : Int)), x10, some (.int way), some v, some a, x14] H') :
    wpSs ⟨c, n + 5, true⟩ restS QN Q EE [some (.ref sp), some (.ref bs), some (.ref ks), some (.ref hd), x4, x5, some (.ref wd), some (.ref fi), some (.ref sm), some (.int (k : Int)), x10, some (.int way), some v, some a, x14] H := by
  obtain ⟨k1, k2, ⟨e3, k3⟩, ⟨e4, k4⟩, k5, k6⟩ := S.two
  have n1 : b0 ≠ d0 := fun e => by rw [e, k3] at k1; cases k1
  have n2 : b0 ≠ d1 := fun e => by rw [e, k4] at k1; cases k1
  have n3 : b1 ≠ d0 := fun e => by rw [e, k3] at k2; cases k2
  have n4 : b1 ≠ d1 := fun e => by rw [e, k4] at k2; cases k2
  unfold restS
  rw [w_cons, w_ite]
  have hj : (k : Int).fmod 2 = 0 ∨ (k : Int).fmod 2 = 1 := by
    have := fmod_lo (x := (k : Int)) (m := 2) (by omega)
    have := fmod_hi (x := (k : Int)) (m := 2) (by omega)
    omega
  rcases hj with hj | hj
  · refine deed7 G (n := n + 1) rfl rfl rfl rfl rfl rfl hj S.hbs S.hks (by decide) rfl rfl (by simp) (by simp) k1 k3 S.o0 (by omega) hw hv ha fun ep' => ?_
    rw [t_bool, if_neg (by decide), w_nil, w_cons]
    have S' := S.turn (H' := up (up H b0 (.book (bkOf B0 (deedQ B0 way v a)))) d0 (.dict ep' (dI (bkOf B0 (deedQ B0 way v a)).free))) (mm' := mm + 1) (fun a x h m1 m2 m3 m4 => by rw [up_other m3, up_other m1]; exact h) ⟨by rw [up_other n1, up_same], by rw [up_other n3, up_other k5.symm]; exact k2, ⟨ep', up_same⟩, ⟨e4, by rw [up_other k6.symm, up_other n2.symm]; exact k4⟩, k5, k6⟩ S.o0.deed (S.o1.more (by omega)) (S.w0.deed hvw) S.w1
    exact sames7 G hk hl S' hm (by omega) fun H' x14 S2 => q H' _ _ x14 S2
  · refine deed7 G (n := n + 1) rfl rfl rfl rfl rfl rfl hj S.hbs S.hks (by decide) rfl rfl (by simp) (by simp) k2 k4 S.o1 (by omega) hw hv ha fun ep' => ?_
    rw [t_bool, if_neg (by decide), w_nil, w_cons]
    have S' := S.turn (H' := up (up H b1 (.book (bkOf B1 (deedQ B1 way v a)))) d1 (.dict ep' (dI (bkOf B1 (deedQ B1 way v a)).free))) (mm' := mm + 1) (fun a x h m1 m2 m3 m4 => by rw [up_other m4, up_other m2]; exact h) ⟨by rw [up_other n2, up_other k5]; exact k1, by rw [up_other n4, up_same], ⟨e3, by rw [up_other k6, up_other n3.symm]; exact k3⟩, ⟨ep', up_same⟩, k5, k6⟩ (S.o0.more (by omega)) S.o1.deed S.w0 (S.w1.deed hvw)
    exact sames7 G hk hl S' hm (by omega) fun H' x14 S2 => q H' _ _ x14 S2
end
end Mine

end
section
open PySem PySem.W PyProof.Rows PySem.Spec PySem.SeqAt PySem.Calls
namespace Mine
noncomputable def turnS : List S := [.assign (.var 10) (.call "_law_mixed" [(.sub (.var 0) (.var 9)), (.var 9)]),
    .assign (.var 11) (.sub (.list [(.lit (.int 0)), (.lit (.int 1)), (.lit (.int 1)), (.lit (.int 1)), (.lit (.int 2)), (.lit (.int 2))]) (.bin .Mod (.var 10) (.lit (.int 6)))),
    .assign (.var 12) (.sub (.var 6) (.bin .Add (.bin .Mod (.bin .FloorDiv (.var 10) (.lit (.int 6))) (.lit (.int 11))) (.bin .Mult (.lit (.int 5)) (.bin .Mod (.bin .FloorDiv (.var 10) (.lit (.int 23760))) (.lit (.int 2)))))),
    .assign (.var 13) (.bin .Mult (.bin .Add (.lit (.int 1)) (.bin .Mod (.bin .FloorDiv (.var 10) (.lit (.int 66))) (.lit (.int 60)))) (.var 4)),
    .ite (.cmp .Eq (.bin .Mod (.bin .FloorDiv (.var 10) (.lit (.int 3960))) (.lit (.int 6))) (.lit (.int 1))) [.assign (.var 13) (.sub (.list [(.lit (.int 0)), (.neg (.lit (.int 1))), (.bin .Add (.bin .Pow (.lit (.int 10)) (.lit (.int 30))) (.lit (.int 1))), (.lit (.bool true)), (.lit (.str (Str.ofString "5"))), (.bin .Pow (.lit (.int 10)) (.lit (.int 30)))]) (.bin .Mod (.bin .FloorDiv (.var 10) (.lit (.int 23760))) (.lit (.int 6))))] []] ++ restS
set_option tactic.hygienic false in
theorem six {i : Int} (h0 : 0 ≤ i) (h1 : i < 6) : i = 0 ∨ i = 1 ∨ i = 2 ∨ i = 3 ∨ i = 4 ∨ i = 5 := by
  obtain ⟨n, rfl⟩ := Int.eq_ofNat_of_zero_le h0
  exact match n, Int.ofNat_lt.mp h1 with
    | 0, _ => .inl rfl
    | 1, _ => .inr (.inl rfl)
    | 2, _ => .inr (.inr (.inl rfl))
    | 3, _ => .inr (.inr (.inr (.inl rfl)))
    | 4, _ => .inr (.inr (.inr (.inr (.inl rfl))))
    | 5, _ => .inr (.inr (.inr (.inr (.inr rfl))))
    | n + 6, h => absurd h (Nat.not_lt.mpr (Nat.le_add_left 6 n))
section
variable {c : Cx} (G : Gd c L07.P) {n : Nat} {md : Bool} {Q : AV → AHeap → Prop} {E : String → AHeap → Prop} {H : AHeap}
  {rg : Addr → Option (Int × Int)} {ns : List Int} {H' : AHeap} {sp bs ks hd wd sm fi till b0 b1 d0 d1 : Addr} {B0 B1 : Bk} {m mm m' mm' : Nat}
theorem S7.new {z : Addr} {o : AObj} (S : S7 rg ns H sp bs ks hd wd sm fi till b0 b1 d0 d1 B0 B1 m mm) (hz : H z = none) : S7 rg ns (up H z o) sp bs ks hd wd sm fi till b0 b1 d0 d1 B0 B1 m mm :=
  S.keep (KeepX.ext (Ext.refl.new hz)) (S.hhd.keep fun a x _ e => up_ne e hz)
set_option tactic.hygienic false in
theorem S7.val {i : Nat} (S : S7 rg ns H sp bs ks hd wd sm fi till b0 b1 d0 d1 B0 B1 m mm) (hi : i < 16) : ∃ v, (txs (words7 ns) ++ txs (words7 ns) ++ [.str (Str.ofString ""), .str (Str.ofString "Till"), .str (Str.ofString "abcdefghijklm"), .int 7, .none, .ref till])[i]? = some v ∧ Kn H v ∧ ∀ s, v = .str s → isNm s = true → IsW ns s := by
  have hlen : i < (txs (words7 ns) ++ txs (words7 ns) ++ [AV.str (Str.ofString ""), .str (Str.ofString "Till"), .str (Str.ofString "abcdefghijklm"), .int 7, .none, .ref till]).length := by simp [txs_length, words7]; omega
  refine ⟨_, List.getElem?_eq_getElem hlen, ?_⟩
  have hmem := List.getElem_mem hlen
  generalize (txs (words7 ns) ++ txs (words7 ns) ++ [AV.str (Str.ofString ""), .str (Str.ofString "Till"), .str (Str.ofString "abcdefghijklm"), .int 7, .none, .ref till])[i] = v at hmem ⊢
  have hw : v ∈ txs (words7 ns) → Kn H v ∧ ∀ s, v = .str s → isNm s = true → IsW ns s := fun h => by
    obtain ⟨s, hs, rfl⟩ := List.mem_map.mp h
    have : IsW ns s := by
      simp only [words7, List.mem_cons, List.not_mem_nil, or_false] at hs
      rcases hs with rfl | rfl | rfl | rfl | rfl <;> exact ⟨_, by decide, by decide, rfl⟩
    exact ⟨.nm this.nm, fun t e _ => by cases e; exact this⟩
  obtain ⟨xs, htl⟩ := S.htl
  rcases List.mem_append.mp hmem with h | h
  · rcases List.mem_append.mp h with h | h <;> exact hw h
  · simp only [List.mem_cons, List.not_mem_nil, or_false] at h
    rcases h with rfl | rfl | rfl | rfl | rfl | rfl
    · exact ⟨.str (by decide), fun s e hn => by cases e; exact absurd hn (by decide)⟩
    · exact ⟨.str (by decide), fun s e hn => by cases e; exact absurd hn (by decide)⟩
    · exact ⟨.str (by decide), fun s e hn => by cases e; exact absurd hn (by decide)⟩
    · exact ⟨.int, fun s e hn => by cases e⟩
    · exact ⟨⟨⟨_, rfl⟩, fun s e => by cases e⟩, fun s e hn => by cases e⟩
    · exact ⟨⟨⟨"list", by simp [vkind, htl]⟩, fun s e => by cases e⟩, fun s e hn => by cases e⟩
include G
set_option tactic.hygienic false in
theorem turn7 {QN : VV → AHeap → Prop} {EE : String → VV → AHeap → Prop} {x5 x10 x11 x12 x13 x14 : Option AV} {k : Nat} {xk unit : Int} (hu : unit = 1 ∨ unit = 1000000000000000000000000000) (hk : ns[k]? = some xk) (hl : ns.length ≤ 63) (S : S7 rg ns H sp bs ks hd wd sm fi till b0 b1 d0 d1 B0 B1 m mm) (hm : m ≤ 4000) (hmm : mm ≤ 700)
    (q : ∀ H' B0 B1 x10 x11 x12 x13 x14, S7 rg ns H' sp bs ks hd wd sm fi till b0 b1 d0 d1 B0 B1 (m + 56) (mm + 1) → QN [some (.ref sp), some (.ref bs), some (.ref ks), some (.ref hd), some (.int unit), x5, some (.ref wd), some (.ref fi), some (.ref sm), some (.int (k : Int)), x10, x11, x12, x13, x14] H') :
    wpSs ⟨c, n + 5, true⟩ turnS QN Q EE [some (.ref sp), some (.ref bs), some (.ref ks), some (.ref hd), some (.int unit), x5, some (.ref wd), some (.ref fi), some (.ref sm), some (.int (k : Int)), x10, x11, x12, x13, x14] H := by
  show wpSs _ (_ :: _ :: _ :: _ :: _ :: restS) _ _ _ _ _
  rw [w_cons, w_asg]
  dsimp [v_0, x_lit, x_var, x_bin, x_neg, x_not, x_ao, x_ite, x_cmp, x_cmp2, x_sub, x_slice, x_glob, x_call, x_prim, x_bm, x_isi, x_list, x_tup, x_dict0, xs_nil, xs_cons, ao_one, ao_cons, xo_none, xo_some, xc_none, xc_some, tv, wtg, b_add, b_sub, b_mul, b_div, b_mod, b_pow, b_adds, c_lt, c_le, c_gt, c_ge, c_eq, c_ne, c_eqs, c_nes, c_in, c_nin, t_bool, t_int, t_none]; simp [v_0, x_lit, x_var, x_bin, x_neg, x_not, x_ao, x_ite, x_cmp, x_cmp2, x_sub, x_slice, x_glob, x_call, x_prim, x_bm, x_isi, x_list, x_tup, x_dict0, xs_nil, xs_cons, ao_one, ao_cons, xo_none, xo_some, xc_none, xc_some, tv, wtg, b_add, b_sub, b_mul, b_div, b_mod, b_pow, b_adds, c_lt, c_le, c_gt, c_ge, c_eq, c_ne, c_eqs, c_nes, c_in, c_nin, t_bool, t_int, t_none]
  refine sub_script S.hsp hk hl (mixed_ok G rfl ?_)
  generalize mixed xk k = x
  show wpSs _ _ _ _ _ _ _
  rw [w_cons, w_asg]
  dsimp [v_0, x_lit, x_var, x_bin, x_neg, x_not, x_ao, x_ite, x_cmp, x_cmp2, x_sub, x_slice, x_glob, x_call, x_prim, x_bm, x_isi, x_list, x_tup, x_dict0, xs_nil, xs_cons, ao_one, ao_cons, xo_none, xo_some, xc_none, xc_some, tv, wtg, b_add, b_sub, b_mul, b_div, b_mod, b_pow, b_adds, c_lt, c_le, c_gt, c_ge, c_eq, c_ne, c_eqs, c_nes, c_in, c_nin, t_bool, t_int, t_none]; simp [v_0, x_lit, x_var, x_bin, x_neg, x_not, x_ao, x_ite, x_cmp, x_cmp2, x_sub, x_slice, x_glob, x_call, x_prim, x_bm, x_isi, x_list, x_tup, x_dict0, xs_nil, xs_cons, ao_one, ao_cons, xo_none, xo_some, xc_none, xc_some, tv, wtg, b_add, b_sub, b_mul, b_div, b_mod, b_pow, b_adds, c_lt, c_le, c_gt, c_ge, c_eq, c_ne, c_eqs, c_nes, c_in, c_nin, t_bool, t_int, t_none]
  intro z1 hz1
  have hw : ∃ w : Int, ([.int 0, .int 1, .int 1, .int 1, .int 2, .int 2] : List AV)[(x.fmod 6).toNat]? = some (.int w) ∧ (w = 0 ∨ w = 1 ∨ w = 2) := by
    rcases six (fmod_lo (x := x) (m := 6) (by omega)) (fmod_hi (by omega)) with h | h | h | h | h | h <;> rw [h] <;> exact ⟨_, rfl, by decide⟩
  obtain ⟨way, hw1, hw⟩ := hw
  refine sub_ref up_same (fmod_lo (by omega)) hw1 (by simp) ?_
  have S := S.new (o := .list [.int 0, .int 1, .int 1, .int 1, .int 2, .int 2]) hz1
  generalize up H z1 (.list [.int 0, .int 1, .int 1, .int 1, .int 2, .int 2]) = H1 at S
  show wpSs _ _ _ _ _ _ _
  rw [w_cons, w_asg]
  dsimp [v_0, x_lit, x_var, x_bin, x_neg, x_not, x_ao, x_ite, x_cmp, x_cmp2, x_sub, x_slice, x_glob, x_call, x_prim, x_bm, x_isi, x_list, x_tup, x_dict0, xs_nil, xs_cons, ao_one, ao_cons, xo_none, xo_some, xc_none, xc_some, tv, wtg, b_add, b_sub, b_mul, b_div, b_mod, b_pow, b_adds, c_lt, c_le, c_gt, c_ge, c_eq, c_ne, c_eqs, c_nes, c_in, c_nin, t_bool, t_int, t_none]; simp [v_0, x_lit, x_var, x_bin, x_neg, x_not, x_ao, x_ite, x_cmp, x_cmp2, x_sub, x_slice, x_glob, x_call, x_prim, x_bm, x_isi, x_list, x_tup, x_dict0, xs_nil, xs_cons, ao_one, ao_cons, xo_none, xo_some, xc_none, xc_some, tv, wtg, b_add, b_sub, b_mul, b_div, b_mod, b_pow, b_adds, c_lt, c_le, c_gt, c_ge, c_eq, c_ne, c_eqs, c_nes, c_in, c_nin, t_bool, t_int, t_none]
  have i0 := fmod_lo (x := x.fdiv 6) (m := 11) (by omega)
  have i1 := fmod_hi (x := x.fdiv 6) (m := 11) (by omega)
  have i2 := fmod_lo (x := x.fdiv 23760) (m := 2) (by omega)
  have i3 := fmod_hi (x := x.fdiv 23760) (m := 2) (by omega)
  have hok : IntMulOk 5 ((x.fdiv 23760).fmod 2) := by
    have : (x.fdiv 23760).fmod 2 = 0 ∨ (x.fdiv 23760).fmod 2 = 1 := by omega
    rcases this with h | h <;> rw [h] <;> exact IntMulOk.of_right (by decide +kernel)
  refine ⟨hok, ?_⟩
  obtain ⟨v, hv1, hv, hvw⟩ := S.val (i := ((x.fdiv 6).fmod 11 + 5 * (x.fdiv 23760).fmod 2).toNat) (by omega)
  refine sub_ref S.hwd (by omega) hv1 (by simp [txs_length, words7]) ?_
  show wpSs _ _ _ _ _ _ _
  rw [w_cons, w_asg]
  dsimp [v_0, x_lit, x_var, x_bin, x_neg, x_not, x_ao, x_ite, x_cmp, x_cmp2, x_sub, x_slice, x_glob, x_call, x_prim, x_bm, x_isi, x_list, x_tup, x_dict0, xs_nil, xs_cons, ao_one, ao_cons, xo_none, xo_some, xc_none, xc_some, tv, wtg, b_add, b_sub, b_mul, b_div, b_mod, b_pow, b_adds, c_lt, c_le, c_gt, c_ge, c_eq, c_ne, c_eqs, c_nes, c_in, c_nin, t_bool, t_int, t_none]; simp [v_0, x_lit, x_var, x_bin, x_neg, x_not, x_ao, x_ite, x_cmp, x_cmp2, x_sub, x_slice, x_glob, x_call, x_prim, x_bm, x_isi, x_list, x_tup, x_dict0, xs_nil, xs_cons, ao_one, ao_cons, xo_none, xo_some, xc_none, xc_some, tv, wtg, b_add, b_sub, b_mul, b_div, b_mod, b_pow, b_adds, c_lt, c_le, c_gt, c_ge, c_eq, c_ne, c_eqs, c_nes, c_in, c_nin, t_bool, t_int, t_none]
  have hok2 : IntMulOk (1 + (x.fdiv 66).fmod 60) unit := by
    have j0 := fmod_lo (x := x.fdiv 66) (m := 60) (by omega)
    have j1 := fmod_hi (x := x.fdiv 66) (m := 60) (by omega)
    exact IntMulOk.of_left (intBits_le_64 (by omega) (by omega))
  refine ⟨hok2, ?_⟩
  rw [w_cons, w_ite]
  dsimp [v_0, x_lit, x_var, x_bin, x_neg, x_not, x_ao, x_ite, x_cmp, x_cmp2, x_sub, x_slice, x_glob, x_call, x_prim, x_bm, x_isi, x_list, x_tup, x_dict0, xs_nil, xs_cons, ao_one, ao_cons, xo_none, xo_some, xc_none, xc_some, tv, wtg, b_add, b_sub, b_mul, b_div, b_mod, b_pow, b_adds, c_lt, c_le, c_gt, c_ge, c_eq, c_ne, c_eqs, c_nes, c_in, c_nin, t_bool, t_int, t_none]; simp [v_0, x_lit, x_var, x_bin, x_neg, x_not, x_ao, x_ite, x_cmp, x_cmp2, x_sub, x_slice, x_glob, x_call, x_prim, x_bm, x_isi, x_list, x_tup, x_dict0, xs_nil, xs_cons, ao_one, ao_cons, xo_none, xo_some, xc_none, xc_some, tv, wtg, b_add, b_sub, b_mul, b_div, b_mod, b_pow, b_adds, c_lt, c_le, c_gt, c_ge, c_eq, c_ne, c_eqs, c_nes, c_in, c_nin, t_bool, t_int, t_none]
  by_cases hc : (x.fdiv 3960).fmod 6 = 1
  · simp only [hc, if_true]
    rw [w_cons, w_asg]
    dsimp [v_0, x_lit, x_var, x_bin, x_neg, x_not, x_ao, x_ite, x_cmp, x_cmp2, x_sub, x_slice, x_glob, x_call, x_prim, x_bm, x_isi, x_list, x_tup, x_dict0, xs_nil, xs_cons, ao_one, ao_cons, xo_none, xo_some, xc_none, xc_some, tv, wtg, b_add, b_sub, b_mul, b_div, b_mod, b_pow, b_adds, c_lt, c_le, c_gt, c_ge, c_eq, c_ne, c_eqs, c_nes, c_in, c_nin, t_bool, t_int, t_none]; simp [v_0, x_lit, x_var, x_bin, x_neg, x_not, x_ao, x_ite, x_cmp, x_cmp2, x_sub, x_slice, x_glob, x_call, x_prim, x_bm, x_isi, x_list, x_tup, x_dict0, xs_nil, xs_cons, ao_one, ao_cons, xo_none, xo_some, xc_none, xc_some, tv, wtg, b_add, b_sub, b_mul, b_div, b_mod, b_pow, b_adds, c_lt, c_le, c_gt, c_ge, c_eq, c_ne, c_eqs, c_nes, c_in, c_nin, t_bool, t_int, t_none]
    refine ⟨by decide +kernel, fun z2 hz2 => ?_⟩
    have ha : ∃ a : AV, ([.int 0, .int (-1), .int 1000000000000000000000000000001, .bool true, .str (Str.ofString "5"), .int 1000000000000000000000000000000] : List AV)[((x.fdiv 23760).fmod 6).toNat]? = some a ∧ ∀ H, Kn H a := by
      rcases six (fmod_lo (x := x.fdiv 23760) (m := 6) (by omega)) (fmod_hi (by omega)) with h | h | h | h | h | h <;> rw [h]
      · exact ⟨_, rfl, fun _ => .int⟩
      · exact ⟨_, rfl, fun _ => .int⟩
      · exact ⟨_, rfl, fun _ => .int⟩
      · exact ⟨_, rfl, fun _ => ⟨⟨_, rfl⟩, fun s e => by cases e⟩⟩
      · exact ⟨_, rfl, fun _ => .str (by decide)⟩
      · exact ⟨_, rfl, fun _ => .int⟩
    obtain ⟨a, ha1, ha⟩ := ha
    refine sub_ref up_same (fmod_lo (by omega)) ha1 (by simp) ?_
    have hv' : Kn (up H1 z2 (.list [.int 0, .int (-1), .int 1000000000000000000000000000001, .bool true, .str (Str.ofString "5"), .int 1000000000000000000000000000000])) v := by
      obtain ⟨⟨t, ht⟩, hl'⟩ := hv
      refine ⟨⟨t, ?_⟩, hl'⟩
      cases v with
      | ref p =>
        have : p ≠ z2 := fun e => by subst e; simp [vkind, hz2] at ht
        simp only [vkind, up_other this] at ht ⊢
        exact ht
      | _ => exact ht
    rw [w_nil]
    exact rest7 G hk hl (S.new hz2) hm hmm hw hv' hvw (ha _) fun H' B0 B1 x14 S' => q H' B0 B1 _ _ _ _ _ S'
  · simp only [hc, if_false]
    rw [w_nil]
    exact rest7 G hk hl S hm hmm hw hv hvw .int fun H' B0 B1 x14 S' => q H' B0 B1 _ _ _ _ _ S'
end
end Mine

end
section
open PySem PySem.W PyProof.Rows PySem.Spec PySem.SeqAt PySem.Calls
namespace Mine
noncomputable def endS : List S := [.ite (.ao false [(.not (.call "_law_same" [(.sub (.var 1) (.lit (.int 0))), (.sub (.var 2) (.lit (.int 0))), (.var 7), (.lit (.int 0)), (.var 3)])), (.not (.call "_law_same" [(.sub (.var 1) (.lit (.int 1))), (.sub (.var 2) (.lit (.int 1))), (.var 8), (.lit (.int 1)), (.var 3)]))]) [.ret (.lit (.bool false))] [],
  .ite (.ao false [(.cmp .NotEq (.comp (.var 15) 1 false (.var 3) (some (.cmp .NotEq (.sub (.var 15) (.lit (.int 0))) (.sub (.var 15) (.lit (.int 1)))))) (.list [])), (.cmp .NotEq (.attr (.sub (.var 1) (.lit (.int 0))) "day") (.lit (.int 0)))]) [.ret (.lit (.bool false))] [],
  .ret (.call "_law_refused_by_any" [(.sub (.var 1) (.lit (.int 1))), (.lit (.str (Str.ofString "north")))])]
section
variable {c : Cx} (G : Gd c L07.P) {n : Nat} {md : Bool} {Q : AV → AHeap → Prop} {E : String → AHeap → Prop} {H : AHeap}
  {rg : Addr → Option (Int × Int)} {ns : List Int} {H' : AHeap} {sp bs ks hd wd sm fi till b0 b1 d0 d1 : Addr} {B0 B1 : Bk} {m mm m' mm' : Nat}
set_option tactic.hygienic false in
theorem sub_tup {a : Addr} {xs : List AV} {i : Int} {v : AV} (h : H a = some (.tuple xs)) (h0 : 0 ≤ i) (hk : xs[i.toNat]? = some v) (hl : xs.length ≤ 100000) (q : Q v H) : wsub (.ref a) (.int i) Q H := by
  have hlt : i.toNat < xs.length := (List.getElem?_eq_some_iff.mp hk).1
  simp only [sub_ri, sub_rs, sub_si, h]
  exact ⟨i.toNat, v, by simp only [pyIdx, h0, if_true]; rw [if_pos (by omega)], by omega, by omega, hk, q⟩
set_option tactic.hygienic false in
theorem held7 {V : VV} (hV : V[3]? = some (some (.ref hd))) (hV15 : V.length = 15) (hh : HeldOK H hd m) (hm : m ≤ 10000) (q : ∀ z, H z = none → Q (.ref z) (up H z (.list (txs [])))) :
    wpX ⟨c, n, true⟩ (.comp (.var 15) 1 false (.var 3) (some (.cmp .NotEq (.sub (.var 15) (.lit (.int 0))) (.sub (.var 15) (.lit (.int 1)))))) V Q E H := by
  obtain ⟨es, h1, h2, h3⟩ := hh
  rw [x_comp]
  refine ⟨rfl, ?_⟩
  simp only [x_var, hV]
  refine ⟨es, by simp only [itemsOf, h1], Nat.le_trans h2 (Nat.le_trans hm (by decide)), fun k acc H' => H' = H ∧ acc = [], ⟨rfl, rfl⟩, ?_⟩
  rintro k acc H' ⟨rfl, rfl⟩
  refine ⟨rfl, fun _ a ha => q a ha, fun x hx => ?_⟩
  obtain ⟨t, y, y', l, rfl, _, _, _, e1, e2, e3⟩ := h3 x (List.mem_of_getElem? hx)
  have v15 : (V ++ [some (.ref t)])[15]? = some (some (.ref t)) := by rw [List.getElem?_append_right (by omega), hV15]; rfl
  simp only [Bool.false_eq_true, if_false, xc_some, x_cmp, x_sub, x_var, x_lit, v15]
  refine sub_tup e1 (by decide) rfl (by simp) ?_
  refine sub_tup e1 (by decide) rfl (by simp) ?_
  rw [c_ner]
  refine weq_txs e2 e3 ?_
  simp [t_bool]
set_option tactic.hygienic false in
theorem bk_day {g : Gx} {V : VV} {b : Addr} {B : Bk} {a : X} (hA : g.c.P.attrs = BK.attrs) (ha : ∀ Q' : AV → AHeap → Prop, Q' (.ref b) H → wpX g a V Q' E H) (hb : H b = some (.book B)) (q : Q (.int B.day) H) : wpX g (.attr a "day") V Q E H := by
  rw [x_attr]
  refine ha _ ?_
  simp only [hb]
  exact ⟨trivial, by rw [hA]; rfl, q⟩
include G
set_option tactic.hygienic false in
theorem fin7 {QN : VV → AHeap → Prop} {EE : String → VV → AHeap → Prop} {x4 x5 x9 x10 x11 x12 x13 x14 : Option AV} (hl : ns.length ≤ 63) (S : S7 rg ns H sp bs ks hd wd sm fi till b0 b1 d0 d1 B0 B1 m mm) (hm : m ≤ 4000) (hmm : mm ≤ 700)
    (q : ∀ H', Q (.bool true) H') :
    wpSs ⟨c, n + 5, true⟩ endS QN Q EE [some (.ref sp), some (.ref bs), some (.ref ks), some (.ref hd), x4, x5, some (.ref wd), some (.ref fi), some (.ref sm), x9, x10, x11, x12, x13, x14] H := by
  unfold endS
  obtain ⟨fs, hfs, hfs'⟩ := S.hfi
  obtain ⟨ss, hss, hss'⟩ := S.hsm
  rw [w_cons, w_ite]
  dsimp [v_0, x_lit, x_var, x_bin, x_neg, x_not, x_ao, x_ite, x_cmp, x_cmp2, x_sub, x_slice, x_glob, x_call, x_prim, x_bm, x_isi, x_list, x_tup, x_dict0, xs_nil, xs_cons, ao_one, ao_cons, xo_none, xo_some, xc_none, xc_some, tv, wtg, b_add, b_sub, b_mul, b_div, b_mod, b_pow, b_adds, c_lt, c_le, c_gt, c_ge, c_eq, c_ne, c_eqs, c_nes, c_in, c_nin, t_bool, t_int, t_none]
  refine sub_ref S.hbs (by decide) rfl (by simp) ?_
  refine sub_ref S.hks (by decide) rfl (by simp) ?_
  obtain ⟨e3, k3⟩ := S.two.hd0
  refine same7_ok G S.two.hb0 k3 S.o0 (by omega) S.hhd (by omega) hfs S.ne.2.2.2.2.1 (by omega) fun H3 hK hh => ?_
  have S2 := S.keep hK hh
  dsimp only [v_0, x_lit, x_var, x_bin, x_neg, x_not, x_ao, x_ite, x_cmp, x_cmp2, x_sub, x_slice, x_glob, x_call, x_prim, x_bm, x_isi, x_list, x_tup, x_dict0, xs_nil, xs_cons, ao_one, ao_cons, xo_none, xo_some, xc_none, xc_some, tv, wtg, b_add, b_sub, b_mul, b_div, b_mod, b_pow, b_adds, c_lt, c_le, c_gt, c_ge, c_eq, c_ne, c_eqs, c_nes, c_in, c_nin, t_bool, t_int, t_none]
  refine sub_ref S2.hbs (by decide) rfl (by simp) ?_
  refine sub_ref S2.hks (by decide) rfl (by simp) ?_
  obtain ⟨e4, k4⟩ := S2.two.hd1
  refine same7_ok G S2.two.hb1 k4 S2.o1 (by omega) S2.hhd (by omega) (hK _ _ S.ne.2.2.2.1 hss) S.ne.2.2.2.1 (by omega) fun H4 hK4 hh4 => ?_
  have S3 := S2.keep hK4 hh4
  simp [t_bool]
  rw [w_nil, w_cons, w_ite, x_ao, ao_cons, x_cmp]
  refine held7 rfl rfl S3.hhd (by omega) fun z hz => ?_
  have S4 := S3.new (o := .list (txs [])) hz
  simp only [v_0, x_lit, x_var, x_bin, x_neg, x_not, x_ao, x_ite, x_cmp, x_cmp2, x_sub, x_slice, x_glob, x_call, x_prim, x_bm, x_isi, x_list, x_tup, x_dict0, xs_nil, xs_cons, ao_one, ao_cons, xo_none, xo_some, xc_none, xc_some, tv, wtg, b_add, b_sub, b_mul, b_div, b_mod, b_pow, b_adds, c_lt, c_le, c_gt, c_ge, c_eq, c_ne, c_eqs, c_nes, c_in, c_nin, t_bool, t_int, t_none]
  intro z2 hz2
  have S5 := S4.new (o := .list []) hz2
  rw [c_ner]
  refine weq_txs (l := []) (l' := []) (up_ne up_same hz2) up_same ?_
  have hA : c.P.attrs = BK.attrs := by rw [G.hP]; rfl
  dsimp only [v_0, x_lit, x_var, x_bin, x_neg, x_not, x_ao, x_ite, x_cmp, x_cmp2, x_sub, x_slice, x_glob, x_call, x_prim, x_bm, x_isi, x_list, x_tup, x_dict0, xs_nil, xs_cons, ao_one, ao_cons, xo_none, xo_some, xc_none, xc_some, tv, wtg, b_add, b_sub, b_mul, b_div, b_mod, b_pow, b_adds, c_lt, c_le, c_gt, c_ge, c_eq, c_ne, c_eqs, c_nes, c_in, c_nin, t_bool, t_int, t_none]
  refine bk_day hA (fun Q' q' => ?_) S5.two.hb0 ?_
  · rw [x_sub]
    exact sub_ref S5.hbs (by decide) rfl (by simp) q'
  · rw [S5.o0.day]
    dsimp only [v_0, x_lit, x_var, x_bin, x_neg, x_not, x_ao, x_ite, x_cmp, x_cmp2, x_sub, x_slice, x_glob, x_call, x_prim, x_bm, x_isi, x_list, x_tup, x_dict0, xs_nil, xs_cons, ao_one, ao_cons, xo_none, xo_some, xc_none, xc_some, tv, wtg, b_add, b_sub, b_mul, b_div, b_mod, b_pow, b_adds, c_lt, c_le, c_gt, c_ge, c_eq, c_ne, c_eqs, c_nes, c_in, c_nin, t_bool, t_int, t_none, v_0, x_lit, x_var, x_bin, x_neg, x_not, x_ao, x_ite, x_cmp, x_cmp2, x_sub, x_slice, x_glob, x_call, x_prim, x_bm, x_isi, x_list, x_tup, x_dict0, xs_nil, xs_cons, ao_one, ao_cons, xo_none, xo_some, xc_none, xc_some, tv, wtg, b_add, b_sub, b_mul, b_div, b_mod, b_pow, b_adds, c_lt, c_le, c_gt, c_ge, c_eq, c_ne, c_eqs, c_nes, c_in, c_nin, t_bool, t_int, t_none, w_cons, w_nil, w_ite, w_ret, w_asg, s_expr', s_raise']
    refine sub_ref S5.hbs (by decide) rfl (by simp) ?_
    refine refused7_ok G S5.two.hb1 (.str (by decide)) ?_ q
    cases hp : purseB B1 (.str (Str.ofString "north")) with
    | false => rfl
    | true =>
      obtain ⟨j, h0, h1, e⟩ := S5.w1 _ (purse_name hp).2
      exact absurd e.symm (word_north h0 h1)
end
end Mine

end
section
open PySem PySem.W PyProof.Rows PySem.Spec PySem.SeqAt PySem.Calls
namespace Mine
noncomputable def midS : List S := [.assign (.var 5) (.lit (.int 30)),
  .ite (.cmp .Gt (.prim .len [(.var 0)]) (.lit (.int 63))) [.assign (.var 5) (.lit (.int 90))] [],
  .assign (.var 6) (.comp (.call "_law_word" [(.bin .Mult (.lit (.int 7)) (.var 15)), (.call "_law_cell_at" [(.var 0), (.lit (.int 1))])]) 1 false (.prim .range [(.lit (.int 5))]) none),
  .assign (.var 7) (.call "_law_opened" [(.var 0), (.var 1), (.var 2), (.var 6)]),
  .assign (.var 8) (.bin .Add (.var 6) (.list [(.sub (.var 7) (.neg (.lit (.int 1))))])),
  .assign (.var 6) (.bin .Add (.bin .Add (.var 6) (.var 6)) (.list [(.lit (.str (Str.ofString ""))), (.lit (.str (Str.ofString "Till"))), (.lit (.str (Str.ofString "abcdefghijklm"))), (.lit (.int 7)), (.lit .none), (.list [(.lit (.str (Str.ofString "till")))])])),
  .for (.var 9) (.prim .range [(.prim .min [(.var 5), (.prim .len [(.var 0)])])]) turnS] ++ endS
section
variable {c : Cx} (G : Gd c L07.P) {n : Nat} {md : Bool} {Q : AV → AHeap → Prop} {E : String → AHeap → Prop} {H : AHeap}
  {rg : Addr → Option (Int × Int)} {ns : List Int} {H' : AHeap} {sp bs ks hd wd sm fi till b0 b1 d0 d1 : Addr} {B0 B1 : Bk} {m mm m' mm' : Nat}
include G
set_option tactic.hygienic false in
theorem words7_ok {V : VV} {EE : String → AHeap → Prop} (hV : V[0]? = some (some (.ref sp))) (hV15 : V.length = 15) (hsp : H sp = some (.script ns)) (hl : ns.length ≤ 63)
    (q : ∀ z H', Ext H H' → H' z = none → Q (.ref z) (up H' z (.list (txs (words7 ns))))) :
    wpX ⟨c, n + 3, true⟩ (.comp (.call "_law_word" [(.bin .Mult (.lit (.int 7)) (.var 15)), (.call "_law_cell_at" [(.var 0), (.lit (.int 1))])]) 1 false (.prim .range [(.lit (.int 5))]) none) V Q EE H := by
  rw [x_comp]
  refine ⟨rfl, ?_⟩
  simp only [x_prim, xs_cons, xs_nil, x_lit, p_lens, p_range, p_range2, p_lenr, p_listr, p_allr]
  refine ⟨by decide, fun zr hzr => ?_⟩
  have hE := Ext.refl.new (o := .range 0 5) hzr
  refine wcomp_ext (xs := [.int 0, .int 1, .int 2, .int 3, .int 4]) (by simp only [itemsOf, up_same]; rfl) (by decide) (fun x => match x with | .int k => some (.str (word (7 * k) (cell ns 1))) | _ => none) (fun x hx H' hE' nx hnx => ?_) (fun a H' hE' ha => ?_)
  · have hx' : ∃ k : Int, x = .int k ∧ 0 ≤ k ∧ k < 5 := by
      simp only [List.mem_cons, List.not_mem_nil, or_false] at hx
      rcases hx with rfl | rfl | rfl | rfl | rfl <;> exact ⟨_, rfl, by decide, by decide⟩
    obtain ⟨k, rfl, k0, k1⟩ := hx'
    dsimp only [xc_none, if_true, v_0, x_lit, x_var, x_bin, x_neg, x_not, x_ao, x_ite, x_cmp, x_cmp2, x_sub, x_slice, x_glob, x_call, x_prim, x_bm, x_isi, x_list, x_tup, x_dict0, xs_nil, xs_cons, ao_one, ao_cons, xo_none, xo_some, xc_none, xc_some, tv, wtg, b_add, b_sub, b_mul, b_div, b_mod, b_pow, b_adds, c_lt, c_le, c_gt, c_ge, c_eq, c_ne, c_eqs, c_nes, c_in, c_nin, t_bool, t_int, t_none]
    have v15 : (V ++ [some (.int k)])[15]? = some (some (.int k)) := by rw [List.getElem?_append_right (by omega), hV15]; rfl
    have v0 : (V ++ [some (.int k)])[0]? = some (some (.ref sp)) := by rw [List.getElem?_append_left (by omega)]; exact hV
    simp only [v15, v0]
    simp only [v_0, x_lit, x_var, x_bin, x_neg, x_not, x_ao, x_ite, x_cmp, x_cmp2, x_sub, x_slice, x_glob, x_call, x_prim, x_bm, x_isi, x_list, x_tup, x_dict0, xs_nil, xs_cons, ao_one, ao_cons, xo_none, xo_some, xc_none, xc_some, tv, wtg, b_add, b_sub, b_mul, b_div, b_mod, b_pow, b_adds, c_lt, c_le, c_gt, c_ge, c_eq, c_ne, c_eqs, c_nes, c_in, c_nin, t_bool, t_int, t_none]
    refine ⟨IntMulOk.of_left (by decide +kernel), ?_⟩
    refine cell_ok G rfl (by decide) (hE' _ _ (hE _ _ hsp)) (by omega) ?_
    refine word7_ok G (by omega) (by omega) fun H'' hE'' => ?_
    exact hnx H'' hE''
  · exact q a H' (hE.trans hE') ha
set_option tactic.hygienic false in
theorem loop7 {QN : VV → AHeap → Prop} {EE : String → VV → AHeap → Prop} {unit : Int} (hu : unit = 1 ∨ unit = 1000000000000000000000000000) (hl : ns.length ≤ 63) (S : S7 rg ns H sp bs ks hd wd sm fi till b0 b1 d0 d1 B0 B1 0 202)
    (q : ∀ H', Q (.bool true) H') :
    wpSs ⟨c, n + 5, true⟩ (.for (.var 9) (.prim .range [(.prim .min [(.var 5), (.prim .len [(.var 0)])])]) turnS :: endS) QN Q EE [some (.ref sp), some (.ref bs), some (.ref ks), some (.ref hd), some (.int unit), some (.int 30), some (.ref wd), some (.ref fi), some (.ref sm), none, none, none, none, none, none] H := by
  rw [w_cons, s_for']
  refine ⟨rfl, ?_⟩
  have hp : ∀ {Q' : AV → AHeap → Prop}, Q' (.int ns.length) H → wprim true .len [.ref sp] Q' H := fun {Q'} q' => by
    simp only [p_lens, p_range, p_range2, p_lenr, p_listr, p_allr, S.hsp]; exact ⟨by omega, q'⟩
  simp only [x_prim, xs_cons, xs_nil, x_var, List.getElem?_cons_succ, List.getElem?_cons_zero]
  refine hp ?_
  have hmin : ∀ {Q' : AV → AHeap → Prop}, Q' (.int (if (ns.length : Int) < 30 then (ns.length : Int) else 30)) H → wprim true .min [.int 30, .int ns.length] Q' H := fun {Q'} q' => by
    rw [p_min]; exact ⟨rfl, q'⟩
  refine hmin ?_
  obtain ⟨w, hw, hw'⟩ : ∃ w : Nat, (if (ns.length : Int) < 30 then (ns.length : Int) else 30) = w ∧ w ≤ 30 ∧ w ≤ ns.length := ⟨(if (ns.length : Int) < 30 then (ns.length : Int) else 30).toNat, by split <;> omega, by split <;> omega⟩
  rw [hw]
  simp only [p_lens, p_range, p_range2, p_lenr, p_listr, p_allr]
  refine ⟨⟨by omega, by omega⟩, fun zr hzr => ?_⟩
  obtain ⟨es, hes, _⟩ := id S.hhd.ex
  have hzh : zr ≠ hd := (ne_of hes hzr).symm
  have S1 := (S.new (o := .range 0 w) hzr).reg (rg' := fun a => if a = zr then some (0, (w : Int)) else none) (fun a p e => by
    by_cases h : a = zr
    · rw [if_pos h] at e; cases e; rw [h]; exact up_same
    · rw [if_neg h] at e; cases e)
  refine wforI (xs := (List.range ((w : Int) - 0).toNat).map fun (k : Nat) => AV.int (0 + k)) (by simp only [itemsOf, up_same]) (fun k V' H2 => ∃ x9 x10 x11 x12 x13 x14 B0 B1, V' = [some (.ref sp), some (.ref bs), some (.ref ks), some (.ref hd), some (.int unit), some (.int 30), some (.ref wd), some (.ref fi), some (.ref sm), x9, x10, x11, x12, x13, x14] ∧ k ≤ w ∧ S7 (fun a => if a = zr then some (0, (w : Int)) else none) ns H2 sp bs ks hd wd sm fi till b0 b1 d0 d1 B0 B1 (56 * k) (202 + k)) ⟨_, _, _, _, _, _, B0, B1, rfl, Nat.zero_le _, S1⟩ ?_
  rintro I hI k V2 H2 ⟨x9, x10, x11, x12, x13, x14, B0', B1', rfl, hkw, S2⟩
  refine ⟨?_, fun hk => ?_, fun y hy => ?_⟩
  · simp only [sameIt]
    rw [S2.hrg zr (0, (w : Int)) (if_pos rfl), up_same]
  · exact fin7 G hl S2 (by omega) (by omega) q
  · rw [List.getElem?_map, Option.map_eq_some_iff] at hy
    obtain ⟨k', hk', rfl⟩ := hy
    obtain ⟨hk1, hk2⟩ := List.getElem?_eq_some_iff.mp hk'
    rw [List.length_range] at hk1
    have hkl : k < ns.length := by omega
    rw [List.getElem_range] at hk2
    subst hk2
    refine ⟨by simp, ?_⟩
    have e : ((0 : Int) + (k : Int)) = (k : Int) := Int.zero_add _
    rw [e]
    refine turn7 G hu (List.getElem?_eq_getElem hkl) hl S2 (by omega) (by omega) fun H3 B0 B1 x10 x11 x12 x13 x14 S3 => ?_
    exact hI _ _ _ ⟨_, x10, x11, x12, x13, x14, B0, B1, rfl, by omega, by rw [Nat.mul_succ]; exact S3⟩
end
end Mine

end
section
open PySem PySem.W PyProof.Rows PySem.Spec PySem.SeqAt PySem.Calls
namespace Mine
section
variable {c : Cx} (G : Gd c L07.P) {n : Nat} {md : Bool} {Q : AV → AHeap → Prop} {E : String → AHeap → Prop} {H : AHeap}
  {ns : List Int} {H' : AHeap} {sp bs ks hd wd sm fi till b0 b1 d0 d1 : Addr} {B0 B1 : Bk} {m mm m' mm' : Nat}
set_option tactic.hygienic false in
theorem sub_last {a : Addr} {l : List Str} {s : Str} (h : H a = some (.list (txs (l ++ [s])))) (hl : l.length ≤ 1000) (q : Q (.str s) H) : wsub (.ref a) (.int (-1)) Q H := by
  simp only [sub_ri, sub_rs, sub_si, h]
  refine ⟨l.length, .str s, ?_, by omega, by omega, by simp [txs], q⟩
  simp only [pyIdx, txs_length, List.length_append, List.length_cons, List.length_nil]
  rw [if_neg (by omega), if_pos (by omega)]
  congr 1
  omega
include G
set_option tactic.hygienic false in
theorem mid7 {QN : VV → AHeap → Prop} {EE : String → VV → AHeap → Prop} {unit : Int} (hu : unit = 1 ∨ unit = 1000000000000000000000000000) (hl : ns.length ≤ 63) (hsp : H sp = some (.script ns)) (hbs : H bs = some (.list [.ref b0, .ref b1])) (hks : H ks = some (.list [.ref d0, .ref d1])) (hhd : H hd = some (.list [])) (nb : bs ≠ hd) (nk : ks ≠ hd) (t : Two H b0 b1 d0 d1 (Bof []) (Bof []))
    (q : ∀ H', Q (.bool true) H') :
    wpSs ⟨c, n + 5, true⟩ midS QN Q EE [some (.ref sp), some (.ref bs), some (.ref ks), some (.ref hd), some (.int unit), none, none, none, none, none, none, none, none, none, none] H := by
  show wpSs _ (_ :: _ :: _ :: _ :: _ :: _ :: _ :: endS) _ _ _ _ _
  rw [w_cons, w_asg, x_lit, tv]
  refine ⟨by simp, ?_⟩
  show wpSs _ _ _ _ _ [some (.ref sp), some (.ref bs), some (.ref ks), some (.ref hd), some (.int unit), some (.int 30), none, none, none, none, none, none, none, none, none] _
  rw [w_cons, w_ite]
  simp only [x_cmp, x_prim, xs_cons, xs_nil, x_var, x_lit, List.getElem?_cons_zero]
  have hp : ∀ {Q' : AV → AHeap → Prop}, Q' (.int ns.length) H → wprim true .len [.ref sp] Q' H := fun {Q'} q' => by
    simp only [p_lens, p_range, p_range2, p_lenr, p_listr, p_allr, hsp]; exact ⟨by omega, q'⟩
  refine hp ?_
  have h63 : decide ((63 : Int) < (ns.length : Int)) = false := by simp [txs_length]; omega
  rw [c_gt, h63, t_bool, if_neg (by decide), w_nil]
  rw [w_cons, w_asg]
  refine words7_ok G (n := n + 2) rfl rfl hsp hl fun wd0 H1 hE1 hz1 => ?_
  have hE2 := hE1.new (o := .list (txs (words7 ns))) hz1
  rw [tv]
  refine ⟨by simp, ?_⟩
  show wpSs _ _ _ _ _ [some (.ref sp), some (.ref bs), some (.ref ks), some (.ref hd), some (.int unit), some (.int 30), some (.ref wd0), none, none, none, none, none, none, none, none] _
  have hwd0 : up H1 wd0 (.list (txs (words7 ns))) wd0 = some (.list (txs (words7 ns))) := up_same
  have nwd0 : wd0 ≠ hd := (ne_of (hE1 _ _ hhd) hz1).symm
  generalize up H1 wd0 (.list (txs (words7 ns))) = H2 at hE2 hwd0
  rw [w_cons, w_asg]
  simp only [x_call, xs_cons, xs_nil, x_var, List.getElem?_cons_succ, List.getElem?_cons_zero]
  refine opened7_ok G (n := n + 1) (hE2 _ _ hsp) (by omega) hwd0 (hE2 _ _ hbs) (hE2 _ _ hks) (t.ext hE2) fun H3 fi hfn hK hfi t3 => ?_
  have go : ∀ {a x}, H2 a = some x → x.lt = true → H3 a = some x := fun {a x} e h => by
    obtain ⟨n1, n2, n3, n4⟩ := (t.ext hE2).ne e (.inl h)
    exact hK _ _ e n1 n2 n3 n4
  have hsp3 : H3 sp = some (.script ns) := by
    obtain ⟨n1, n2, n3, n4⟩ := (t.ext hE2).ne (hE2 _ _ hsp) (.inr (.inl ⟨_, rfl⟩))
    exact hK _ _ (hE2 _ _ hsp) n1 n2 n3 n4
  have hbs3 := go (hE2 _ _ hbs) rfl
  have hks3 := go (hE2 _ _ hks) rfl
  have hhd3 := go (hE2 _ _ hhd) rfl
  have hwd3 := go hwd0 rfl
  have nfi : fi ≠ hd := (ne_of (hE2 _ _ hhd) hfn).symm
  rw [tv]
  refine ⟨by simp, ?_⟩
  show wpSs _ _ _ _ _ [some (.ref sp), some (.ref bs), some (.ref ks), some (.ref hd), some (.int unit), some (.int 30), some (.ref wd0), some (.ref fi), none, none, none, none, none, none, none] _
  clear hK go hE1 hE2 hz1 hfn hsp hbs hks hhd t hp
  obtain ⟨l0, s0, hls⟩ : ∃ l s, first7 ns = l ++ [s] := by
    have hne : first7 ns ≠ [] := by unfold first7 idx7; simp
    exact ⟨_, _, (List.dropLast_concat_getLast hne).symm⟩
  have hl0 : l0.length ≤ 202 := by have := first7_len (ns := ns); rw [hls] at this; simp at this; omega
  rw [w_cons, w_asg]
  simp only [x_bin, x_list, xs_cons, xs_nil, x_sub, x_neg, x_lit, x_var, List.getElem?_cons_succ, List.getElem?_cons_zero]
  refine sub_last (by rw [← hls]; exact hfi) (by omega) ?_
  intro z1 hz1
  refine add_ref (up_ne hwd3 hz1) up_same (by simp [txs_length, words7, sizeLine]) fun sm hsm => ?_
  have hsm2 : up (up H3 z1 (.list [.str s0])) sm (.list (txs (words7 ns) ++ [.str s0])) sm = some (.list (txs (words7 ns ++ [s0]))) := by rw [up_same, txs_snoc]
  have hE := (Ext.refl.new (o := .list [.str s0]) hz1).new (o := .list (txs (words7 ns) ++ [.str s0])) hsm
  have nsm : sm ≠ hd := (ne_of (up_ne hhd3 hz1) hsm).symm
  generalize up (up H3 z1 (.list [.str s0])) sm (.list (txs (words7 ns) ++ [.str s0])) = H4 at hE hsm2
  rw [tv]
  refine ⟨by simp, ?_⟩
  show wpSs _ _ _ _ _ [some (.ref sp), some (.ref bs), some (.ref ks), some (.ref hd), some (.int unit), some (.int 30), some (.ref wd0), some (.ref fi), some (.ref sm), none, none, none, none, none, none] _
  rw [w_cons, w_asg]
  simp only [x_bin, x_list, xs_cons, xs_nil, x_lit, x_var, List.getElem?_cons_succ, List.getElem?_cons_zero]
  refine add_ref (hE _ _ hwd3) (hE _ _ hwd3) (by simp [txs_length, words7, sizeLine]) fun z2 hz2 till htill z3 hz3 => ?_
  have E5 := ((Ext.refl.new (o := .list (txs (words7 ns) ++ txs (words7 ns))) hz2).new (o := .list [.str (Str.ofString "till")]) htill).new (o := .list [.str (Str.ofString ""), .str (Str.ofString "Till"), .str (Str.ofString "abcdefghijklm"), .int 7, .none, .ref till]) hz3
  refine add_ref (up_ne (up_ne up_same htill) hz3) up_same (by simp [txs_length, words7, sizeLine]) fun wd hwd => ?_
  have E6 := (hE.trans E5).new (o := .list (txs (words7 ns) ++ txs (words7 ns) ++ [.str (Str.ofString ""), .str (Str.ofString "Till"), .str (Str.ofString "abcdefghijklm"), .int 7, .none, .ref till])) hwd
  have E6' := E5.new (o := .list (txs (words7 ns) ++ txs (words7 ns) ++ [.str (Str.ofString ""), .str (Str.ofString "Till"), .str (Str.ofString "abcdefghijklm"), .int 7, .none, .ref till])) hwd
  rw [tv]
  refine ⟨by simp, ?_⟩
  show wpSs _ _ _ _ _ [some (.ref sp), some (.ref bs), some (.ref ks), some (.ref hd), some (.int unit), some (.int 30), some (.ref wd), some (.ref fi), some (.ref sm), none, none, none, none, none, none] _
  have hnm : ∀ s ∈ first7 ns, isNm s = true := fun s hs => (first7_w s hs).nm
  have hall : allW ns (Bof (first7 ns)) := fun k hk => first7_w k (by have : hs (zs (first7 ns)) k = true := hk; rw [hs_zs] at this; simpa using this)
  refine loop7 G (rg := fun _ => none) (till := till) hu hl ⟨E6 _ _ hsp3, E6 _ _ hbs3, E6 _ _ hks3, ⟨[], E6 _ _ hhd3, Nat.le_refl _, fun e he => by cases he⟩, up_same, ⟨_, up_ne (up_ne up_same hz3) hwd⟩, ⟨_, E6' _ _ hsm2, by simp [words7]⟩, ⟨_, E6 _ _ hfi, by have := first7_len (ns := ns); omega⟩, ⟨nb, nk, (ne_of (E5 _ _ (hE _ _ hhd3)) hwd).symm, nsm, nfi, (ne_of (up_ne (hE _ _ hhd3) hz2) htill).symm⟩, t3.ext E6, Bof_ok hnm first7_len, Bof_ok hnm first7_len, hall, hall, fun a p e => by cases e⟩ q
set_option tactic.hygienic false in
theorem law7_ok (hsp : H sp = some (.script ns)) (hl : ns.length ≤ 63) : CallOK c (n + 6) true "law" [.ref sp] (fun v _ => v = .bool true) (fun _ _ => False) H := by
  refine G.call (F := L07.f_law) rfl rfl ?_
  show wpSs _ (_ :: _ :: _ :: _ :: _ :: midS) _ _ _ [some (.ref sp), none, none, none, none, none, none, none, none, none, none, none, none, none, none] _
  rw [w_cons, w_asg, x_list, xs_cons]
  refine new_book (c := c) rfl G U7 ⟨n + 4, rfl⟩ fun b0 hb0 => ?_
  rw [xs_cons]
  refine new_book (c := c) rfl G U7 ⟨n + 4, rfl⟩ fun b1 hb1 => ?_
  rw [xs_nil]
  intro bs hbs
  rw [tv]
  refine ⟨by simp, ?_⟩
  show wpSs _ _ _ _ _ [some (.ref sp), some (.ref bs), none, none, none, none, none, none, none, none, none, none, none, none, none] _
  rw [w_cons, w_asg, x_list, xs_cons, x_dict0]
  intro d0 hd0
  rw [xs_cons, x_dict0]
  intro d1 hd1
  rw [xs_nil]
  intro ks hks
  rw [tv]
  refine ⟨by simp, ?_⟩
  show wpSs _ _ _ _ _ [some (.ref sp), some (.ref bs), some (.ref ks), none, none, none, none, none, none, none, none, none, none, none, none] _
  rw [w_cons, w_asg, x_list, xs_nil]
  intro hd hhd
  rw [tv]
  refine ⟨by simp, ?_⟩
  show wpSs _ _ _ _ _ [some (.ref sp), some (.ref bs), some (.ref ks), some (.ref hd), none, none, none, none, none, none, none, none, none, none, none] _
  rw [w_cons, w_asg, x_lit, tv]
  refine ⟨by simp, ?_⟩
  show wpSs _ _ _ _ _ [some (.ref sp), some (.ref bs), some (.ref ks), some (.ref hd), some (.int 1), none, none, none, none, none, none, none, none, none, none] _
  have k1 := up_ne (o := .list []) (up_ne (up_ne (up_ne (up_ne (up_ne (up_ne hsp hb0) hb1) hbs) hd0) hd1) hks) hhd
  have kb0 := up_ne (o := .list []) (up_ne (up_ne (up_ne (up_ne (up_ne (up_same (H := H) (a := b0) (o := .book (Bof []))) hb1) hbs) hd0) hd1) hks) hhd
  have kb1 := up_ne (o := .list []) (up_ne (up_ne (up_ne (up_ne (up_same (H := up H b0 (.book (Bof []))) (a := b1) (o := .book (Bof []))) hbs) hd0) hd1) hks) hhd
  have kbs := up_ne (o := .list []) (up_ne (up_ne (up_ne (up_same (H := up (up H b0 (.book (Bof []))) b1 (.book (Bof []))) (a := bs) (o := .list [.ref b0, .ref b1])) hd0) hd1) hks) hhd
  have kd0 := up_ne (o := .list []) (up_ne (up_ne (up_same (a := d0) (o := .dict 0 [])) hd1) hks) hhd
  have kd1 := up_ne (o := .list []) (up_ne (up_same (a := d1) (o := .dict 0 [])) hks) hhd
  have kks := up_ne (o := .list []) (up_same (a := ks) (o := .list [.ref d0, .ref d1])) hhd
  have nb : b0 ≠ b1 := ne_of up_same hb1
  have nd : d0 ≠ d1 := ne_of up_same hd1
  have nbs : bs ≠ hd := ne_of (up_ne (up_ne (up_ne up_same hd0) hd1) hks) hhd
  have nks : ks ≠ hd := ne_of up_same hhd
  have fin : ∀ unit : Int, unit = 1 ∨ unit = 1000000000000000000000000000 → ∀ {QN : VV → AHeap → Prop} {EE : String → VV → AHeap → Prop}, wpSs ⟨c, n + 5, true⟩ midS QN (fun v _ => v = .bool true) EE [some (.ref sp), some (.ref bs), some (.ref ks), some (.ref hd), some (.int unit), none, none, none, none, none, none, none, none, none, none] _ := fun unit hu {QN EE} =>
    mid7 G hu hl k1 kbs kks up_same nbs nks ⟨kb0, kb1, ⟨0, kd0⟩, ⟨0, kd1⟩, nb, nd⟩ fun _ => rfl
  rw [w_cons, w_ite]
  simp only [x_cmp, x_bin, x_call, xs_cons, xs_nil, x_var, x_lit, List.getElem?_cons_zero]
  refine cell_ok G rfl (by decide) k1 (by omega) ?_
  rw [b_mod]
  refine ⟨by decide, ?_⟩
  rw [c_eq, t_bool]
  by_cases hc : (cell ns (Int.toNat 0)).fmod 5 = 1
  · rw [if_pos (by rw [hc]; rfl), w_cons, w_asg, x_bin, x_lit, x_lit, b_pow]
    refine ⟨⟨by decide, by decide, by decide +kernel⟩, ?_⟩
    rw [tv]
    refine ⟨by simp, ?_⟩
    rw [w_nil]
    exact fin _ (.inr rfl)
  · rw [if_neg (by simpa using hc), w_nil]
    exact fin _ (.inl rfl)
end
end Mine

end
namespace Mine.L07
theorem law_ok {c : Cx} (G : Gd c P) {n : Nat} {H : AHeap} {sp : Addr} {ns : List Int} (h : H sp = some (.script ns)) (hl : ns.length ≤ 63) : CallOK c (n + 6) true "law" [.ref sp] (fun v _ => v = .bool true) (fun _ _ => False) H := law7_ok G h hl
end Mine.L07
namespace Mine.L07
noncomputable def view : Program := PySem.W.view PySem.Challenge.pw_uf020038_07 [38]
noncomputable def loose : List Str := [Str.ofString "_wall", Str.ofString "__name__", Str.ofString "BookError", Str.ofString "NoName", Str.ofString "NoAmount", Str.ofString "Taken", Str.ofString "NoPurse", Str.ofString "TooLittle", Str.ofString "NoRow", Str.ofString "Twice", Str.ofString "Uneven", Str.ofString "Fallen", Str.ofString "NoDay", Str.ofString "Pact", Str.ofString "LETTERS", Str.ofString "MOST_SIGNS", Str.ofString "MOST_AMOUNT", Str.ofString "is_whole", Str.ofString "is_name", Str.ofString "name_of", Str.ofString "amount_of", Str.ofString "MOST", Str.ofString "Book", Str.ofString "_law_whole", Str.ofString "_law_cell_at", Str.ofString "_law_mixed", Str.ofString "_law_word", Str.ofString "_law_is_name", Str.ofString "_law_told", Str.ofString "_law_due", Str.ofString "_law_one_same", Str.ofString "_law_same", Str.ofString "_law_refused_by_any", Str.ofString "_law_opened"]
noncomputable def hook : Hook := mineHook P (3 :: (List.range 504).drop 11)
theorem left : LeftO PySem.Challenge.pw_uf020038_07 view loose (fun s => xlAt view [] s && recOk [] s) hook.obs hook.val 30000 true :=
  left_of mineHook_T (m₀ := 11) (ann := some (.ref 6)) rfl rfl (fun s => rfl) (fun w => by kernel_rfl) (fun w os => by kernel_rfl)
end Mine.L07
open PySem.W.X in
set_option maxHeartbeats 0 in
theorem PySem.Challenge.cw_uf020038_07_holds : PySem.Challenge.rw_uf020038_07.Holds := by
  w_on
  refine holds_law (by decide +kernel) fun said => ?_
  refine holds_open (q := Mine.L07.view) (loose := Mine.L07.loose) (Xt := fun s => xlAt Mine.L07.view [] s && recOk [] s) (XP := XL Mine.L07.view []) (Yf := Mine.L07.hook.obs) (Ya := Mine.L07.hook.val) (YP := Mine.L07.hook.says) (N := 30000) Mine.L07.left Mine.L07.hook.of Mine.L07.hook.keeps (fun s e => xl_of s (Bool.and_eq_true_iff.mp e).1) XL.keeps (by rfl) (by rfl) (by rfl) (fun s e => recFacts_of (Bool.and_eq_true_iff.mp e).2) (by rfl) (by first | assumption | decide +kernel) (by decide +kernel) ⟨rfl, rfl, rfl, rfl, rfl, by decide +kernel⟩ ?hw ?hc
  case hw => w_witness2
  case hc =>
    intro w s₀ s₁ mg mb G Y fa o pm cd doc dV kV ho hd hcd hD hmg hg args vals as hpre hlay hrd hwl hlo
    obtain ⟨K, KX, hok⟩ := Y
    clear ho hd hcd hD
    refine Ground.open G ?_
    intro T B D TE TW
    wrow_args hpre hlay hrd hwl hlo
    clear G B D TE TW
    have hseer := T.seer (by decide +kernel)
    refine Mine.enter (P := Mine.L07.P) (n := 6) (by decide) KX T hseer (by rfl) rfl hmg hok (by rfl) (Mine.script_get (by assumption) (by assumption)) (by assumption) ?mineC ?mineQ
    case mineC =>
      intro c hP C PO FO
      exact Mine.L07.law_ok (n := 0) ⟨hP, ⟨_, _, C⟩, PO, FO⟩ Mine.scriptH_at (by omega)
    case mineQ =>
      intro s' st ho hgn
      exact GoodW.toG ⟨.inl ⟨.bool true, .bool true, [], rfl, fun _ => rfl, .bool true, by kernel_rfl, fun _ => ⟨List.nodup_nil, fun a ha => by cases ha⟩⟩, st, ho, hgn.trans hg⟩


#print axioms PySem.Challenge.cw_uf020038_07_holds
