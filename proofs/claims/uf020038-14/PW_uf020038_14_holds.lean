import PyProof.Rows.All
import Wide.All
import OpenK.AllK
import Wide.FinOn
import KE.KDictList
import KE.KEqDict
import Open.Boot
import Open.FastT9
import Open.Tree
import OpenK.KCell
import OpenK.KList
import OpenK.KMore
import OpenK.KNot
import OpenK.KOwn
import OpenK.KWalk
import PyProof.ExcArgs
import PyProof.NsDelKeeps
import PyProof.WalksMore
import PyProof.WalksPairs
import PySem.Challenge.RW_uf020038_14
open PySem PySem.W PyProof.Rows PySem.Spec PySem.SeqAt PySem.Calls
set_option Elab.async false
set_option maxRecDepth 100000
set_option maxHeartbeats 4000000
set_option linter.all false
set_option bootstrap.genMatcherCode false
set_option genSizeOf false
set_option genSizeOfSpec false
section
open PySem PySem.W PyProof.Rows PySem.Spec PySem.SeqAt
namespace Mine

inductive AV where
  | none
  | bool (b : Bool)
  | int (i : Int)
  | str (s : Str)
  | ref (a : Addr)
  deriving DecidableEq, Inhabited

inductive Sta where
  | opn | dn | fln
  deriving DecidableEq, Inhabited
noncomputable def Sta.str : Sta → Str
  | .opn => Str.ofString "open"
  | .dn => Str.ofString "done"
  | .fln => Str.ofString "fallen"
structure Pc where
  name : Str
  parts : List (Str × Int)
  gains : List (Str × Int)
  needs : List Str
  last : Int
  state : Sta
  inside : List Str
structure Bk where
  day : Int
  free : List (Str × Int)
  aside : List (Str × Int)
  pacts : List Pc

noncomputable def letters : Str := Str.ofString "abcdefghijklmnopqrstuvwxyz"
noncomputable def isNm (s : Str) : Bool := decide (1 ≤ s.length ∧ s.length ≤ 12) && s.cps.toList.all fun ch => letters.cps.toList.contains ch

noncomputable def lk {α : Type} (l : List (Str × α)) (k : Str) : Option α := (l.find? fun e => e.1 = k).map (·.2)
noncomputable def pt {α : Type} (l : List (Str × α)) (k : Str) (v : α) : List (Str × α) := if (lk l k).isSome then l.map (fun e => if e.1 = k then (e.1, v) else e) else l ++ [(k, v)]
noncomputable def ad (l : List (Str × Int)) (k : Str) (n : Int) : List (Str × Int) := pt l k ((lk l k).getD 0 + n)

noncomputable def Bk.pact (B : Bk) (k : Str) : Option Pc := B.pacts.find? fun q => q.name = k
noncomputable def Bk.setPact (B : Bk) (k : Str) (f : Pc → Pc) : Bk := { B with pacts := B.pacts.map fun q => if q.name = k then f q else q }
noncomputable def Bk.giveBack (B : Bk) (k : Str) (n : Int) : Bk := { B with aside := ad B.aside k (-n), free := ad B.free k n }
noncomputable def Bk.fellQ (B : Bk) (q : Pc) : Bk :=
  (q.parts.foldl (fun B e => if e.1 ∈ q.inside then B.giveBack e.1 e.2 else B) B).setPact q.name fun q => { q with inside := [], state := .fln }
noncomputable def Bk.fallen (B : Bk) (k : Str) : Bool := match B.pact k with
  | some q => q.state == .fln
  | none => false
noncomputable def Bk.firstDragged (B : Bk) : Option Pc := B.pacts.find? fun q => q.state == .opn && q.needs.any B.fallen
noncomputable def Bk.dragged : Nat → Bk → List Str → Bk × List Str
  | 0, B, l => (B, l)
  | n + 1, B, l => match B.firstDragged with
    | none => (B, l)
    | some q => (B.fellQ q).dragged n (l ++ [q.name])

inductive AObj where
  | list (xs : List AV)
  | tuple (xs : List AV)
  | dict (ep : Nat) (es : List (Str × AV))
  | inst (c : String) (es : List (String × AV))
  | range (lo hi : Int)
  | vals (d : Addr)
  | itms (d : Addr)
  | exc (c : String)
  | script (ns : List Int)
  | book (B : Bk)

noncomputable def AObj.isB : AObj → Bool
  | .book _ => true
  | _ => false
noncomputable def AObj.isS : AObj → Bool
  | .script _ => true
  | _ => false
noncomputable def AObj.isX : AObj → Bool
  | .script _ => true
  | .exc _ => true
  | _ => false

abbrev AHeap := Addr → Option AObj
noncomputable def up (H : AHeap) (a : Addr) (o : AObj) : AHeap := fun b => if b = a then some o else H b
abbrev VV := List (Option AV)

inductive VR : AV → Value → Prop
  | none : VR .none .none
  | bool (b : Bool) : VR (.bool b) (.bool b)
  | int (i : Int) (t : Tok) : VR (.int i) (.int i t)
  | str (s : Str) (t : Tok) (h : PyData.strOk s = true) : VR (.str s) (.str s t)
  | ref (a : Addr) : VR (.ref a) (.ref a)
inductive VRs : List AV → List Value → Prop
  | nil : VRs [] []
  | cons {a v as vs} : VR a v → VRs as vs → VRs (a :: as) (v :: vs)
inductive OVR : Option AV → Option Value → Prop
  | none : OVR Option.none Option.none
  | some {a v} : VR a v → OVR (Option.some a) (Option.some v)
inductive DRs : List (Str × AV) → List (Str × Value) → Prop
  | nil : DRs [] []
  | cons {k a v as vs} : PyData.strOk k = true → VR a v → DRs as vs → DRs ((k, a) :: as) ((k, v) :: vs)

inductive Tg where
  | var (i : Nat)
  | tup (is : List Nat)

inductive Pr where
  | len | list | int | range | sum
noncomputable def Pr.str : Pr → String
  | .len => "len" | .list => "list" | .int => "int" | .range => "range" | .sum => "sum"
inductive BM where
  | append | index | count | clear | values | pop | upper
noncomputable def BM.str : BM → String
  | .append => "append" | .index => "index" | .count => "count" | .clear => "clear" | .values => "values" | .pop => "pop" | .upper => "upper"

inductive X where
  | lit (v : AV)
  | var (i : Nat)
  | glob (n : String)
  | bin (op : Operator) (a b : X)
  | neg (a : X)
  | not (a : X)
  | ao (isAnd : Bool) (xs : List X)
  | cmp (op : CmpOp) (a b : X)
  | cmp2 (op₁ op₂ : CmpOp) (a b c : X)
  | sub (a i : X)
  | attr (a : X) (n : String)
  | call (f : String) (xs : List X)
  | new (c : String) (xs : List X)
  | meth (a : X) (m : String) (xs : List X)
  | bm (a : X) (m : BM) (xs : List X)
  | prim (f : Pr) (xs : List X)
  | isinst (a : X) (c : String)
  | list (xs : List X)
  | tuple (xs : List X)
  | dict (ks vs : List X)
  | comp (e : X) (k : Nat) (tup : Bool) (it : X) (c : Option X)

inductive T where
  | var (i : Nat)
  | tup (is : List Nat)
  | sub (a i : X)
  | attr (a : X) (n : String)

mutual
inductive S where
  | assign (t : T) (e : X)
  | expr (e : X)
  | ret (e : X)
  | ite (c : X) (a b : List S)
  | while (c : X) (body : List S)
  | for (t : Tg) (it : X) (body : List S)
  | raise (c : String) (msg : Str)
  | try (body : List S) (hs : List Hd)
  | pass
inductive Hd where
  | mk (c : String) (nm : Option Nat) (body : List S)
end

structure Fn where
  npar : Nat
  slots : List String
  body : List S

structure Pg where
  fns : List (String × Fn)
  gfns : List String
  consts : List (String × AV)
  excs : List (String × List String)
  classes : List String
  meths : List (String × String)
  attrs : List (String × String)
  prims : List String

inductive Res where
  | ns (m : Str → Option Value)
  | cell (v : Option Value)
  | obj (o : Obj)
abbrev RR := Addr → Option Res
noncomputable def rup (R : RR) (a : Addr) (r : Res) : RR := fun b => if b = a then some r else R b

noncomputable def ResAt (h : Heap) (b : Addr) : Res → Prop
  | .ns m => h.Ns b m
  | .cell v => ∃ o, h.get? b = some o ∧ o.data = .cell v
  | .obj o => h.get? b = some o

structure Cx where
  prog : Program
  w : World
  K : Frag
  base : Heap
  P : Pg
  fa : String → Addr
  ca : String → Addr

noncomputable def attrsAre (es : List (String × AV)) (ents : List DictEntry) : Prop :=
  match es, ents with
  | [], [] => True
  | (n, a) :: r, e :: q => (∃ t, e.key = .str (Str.ofString n) t) ∧ VR a e.val ∧ attrsAre r q
  | _, _ => False

noncomputable def RgOk (a b : Int) : Prop := -(2 ^ 62) < a ∧ a < 2 ^ 62 ∧ -(2 ^ 62) < b ∧ b < 2 ^ 62
noncomputable def ORep (c : Cx) (h : Heap) (D : Addr → Addr) (a : Addr) : AObj → Prop
  | .list xs => ∃ vs n, h.get? a = some (listOf (vs : List Value).toArray n) ∧ VRs xs vs
  | .tuple xs => ∃ vs n, h.get? a = some { cls := .type "tuple", data := .seq (vs : List Value).toArray n } ∧ VRs xs vs
  | .dict ep es => ∃ kvs, h.DictAt (strKind c.prog c.w) a kvs ep ∧ DRs es kvs
  | .inst cl es => h.get? a = some (instObj (c.ca cl) (D a)) ∧ ∃ ents n, h.get? (D a) = some (dictOf ents n) ∧ attrsAre es ents ∧ (es.map (·.1)).Nodup
  | .range lo hi => RgOk lo hi ∧ ∃ t u v, IsRange h a lo hi 1 t u v
  | .vals d => h.get? a = some { cls := .type "dict_values", data := .fields #[.ref d] }
  | .itms d => h.get? a = some { cls := .type "dict_items", data := .fields #[.ref d] }
  | .exc cl => ∃ o, h.get? a = some o ∧ o.cls = .ref (c.ca cl) ∧ ∃ vs, o.data = .fields vs
  | .script ns => ∃ vs n, h.get? a = some (listOf (vs : List Value).toArray n) ∧ VRs (ns.map AV.int) vs
  | .book _ => False

noncomputable def Abv (c : Cx) (a : Addr) (o : AObj) : Prop := (o.isS = false → c.base.get? a = none) ∧ (o.isX = false → c.base.objs.size ≤ a)
structure HR (c : Cx) (R : RR) (D : Addr → Addr) (H : AHeap) (h : Heap) : Prop where
  rep : ∀ a o, H a = some o → ORep c h D a o
  above : ∀ a o, H a = some o → Abv c a o ∧ R a = none
  dict : ∀ a cl es, H a = some (.inst cl es) → c.base.objs.size ≤ D a ∧ R (D a) = none ∧ H (D a) = none
  inj : ∀ a b cl es cl' es', H a = some (.inst cl es) → H b = some (.inst cl' es') → D a = D b → a = b

structure St1 (c : Cx) (R : RR) (H : AHeap) (h : Heap) : Prop where
  stays : c.base.StaysIn h
  size : c.base.objs.size ≤ h.objs.size
  res : ∀ b r, R b = some r → c.base.objs.size ≤ b ∧ ResAt h b r
  rep : ∃ D, HR c R D H h

inductive Role where
  | self | free | aside | pacts | pact (i : Nat) | inside (i : Nat) | data
noncomputable def dI (l : List (Str × Int)) : List (Str × AV) := l.map fun e => (e.1, .int e.2)
noncomputable def pairsAV (o : Addr → Option Role) (H : AHeap) : List Addr → List (Str × Int) → Prop
  | [], [] => True
  | t :: ts, e :: l => o t = some .data ∧ H t = some (.tuple [.str e.1, .int e.2]) ∧ pairsAV o H ts l
  | _, _ => False
noncomputable def PairsAt (o : Addr → Option Role) (H : AHeap) (p : Addr) (l : List (Str × Int)) : Prop := o p = some .data ∧ ∃ ts : List Addr, H p = some (.list (ts.map .ref)) ∧ pairsAV o H ts l
structure IsPact (o : Addr → Option Role) (H : AHeap) (i : Nat) (a : Addr) (q : Pc) : Prop where
  own : o a = some (.pact i)
  at_ : ∃ pa ga ne ins ep, H a = some (.inst "Pact" [("name", .str q.name), ("parts", .ref pa), ("gains", .ref ga), ("needs", .ref ne), ("last", .int q.last), ("state", .str q.state.str), ("inside", .ref ins)]) ∧
    PairsAt o H pa q.parts ∧ PairsAt o H ga q.gains ∧ o ne = some .data ∧ H ne = some (.list (q.needs.map .str)) ∧ o ins = some (.inside i) ∧ H ins = some (.dict ep (q.inside.map fun k => (k, .bool true)))
noncomputable def pactsAt (o : Addr → Option Role) (H : AHeap) : Nat → List Addr → List Pc → Prop
  | _, [], [] => True
  | i, a :: as, q :: qs => IsPact o H i a q ∧ pactsAt o H (i + 1) as qs
  | _, _, _ => False
noncomputable def dP : List Pc → List Addr → List (Str × AV)
  | q :: qs, a :: as => (q.name, .ref a) :: dP qs as
  | _, _ => []
structure IsBook (o : Addr → Option Role) (H : AHeap) (b f s p : Addr) (as : List Addr) (B : Bk) : Prop where
  ob : o b = some .self
  of : o f = some .free
  os : o s = some .aside
  op : o p = some .pacts
  hb : H b = some (.inst "Book" [("day", .int B.day), ("free", .ref f), ("aside", .ref s), ("pacts", .ref p)])
  hf : ∃ ep, H f = some (.dict ep (dI B.free))
  hs : ∃ ep, H s = some (.dict ep (dI B.aside))
  hp : ∃ ep, H p = some (.dict ep (dP B.pacts as))
  ps : pactsAt o H 0 as B.pacts
noncomputable def ownB (o : Addr → Option (Addr × Role)) (b : Addr) : Addr → Option Role := fun a => match o a with
  | some (c, r) => if c = b then some r else none
  | none => none
noncomputable def Real (H H₁ : AHeap) : Prop := (∀ a x, H₁ a = some x → x.isB = false) ∧ ∃ o : Addr → Option (Addr × Role), ∀ a x, H a = some x → (x.isB = false ∧ H₁ a = some x ∧ o a = none) ∨ ∃ B f s p as, x = .book B ∧ IsBook (ownB o a) H₁ a f s p as B
noncomputable def St (c : Cx) (R : RR) (H : AHeap) (h : Heap) : Prop := ∃ H₁, St1 c R H₁ h ∧ Real H H₁

noncomputable def Sm (s s' : Shared) : Prop := ∃ h tk, s' = { s with heap := h, toks := tk }

structure FEnv (R : RR) (e : Env) : Prop where
  kind : e.scope.kind = .function
  frame : e.frame = some e.locals
  gen : e.scope.isGenerator = false
  co : e.scope.isCoroutine = false
  blt : e.builtins = builtinsNs
  glob : e.globals = mainGlobals
  ns : ∃ m, R e.locals = some (.ns m)
noncomputable def Stk (R : RR) (stk : List Env) : Prop := ∀ e ∈ stk, FEnv R e

structure AOk (k n : Nat) (md : Bool) (A : Around) (stk : List Env) : Prop where
  frames : A.frames = some stk
  depth : A.depth + 110 + k + 8 * n < recursionLimit
  units : A.units + 100 + 10 * k + 60 * n < cLine
  hand : md = true → A.handled = none

inductive ExcAt (c : Cx) (R : RR) (H : AHeap) (h : Heap) (e : Addr) (cls : Value) : Value → Prop
  | fresh {t : Addr} : h.get? e = some { cls := cls, data := .fields #[.ref t, .none, .none, .none, .bool false, .none] } → ExcAt c R H h e cls .ellipsis
  | traced {oe : Obj} {vs : Array Value} {T : Addr} {oT : Obj} {ts : Array Value} {fl a0 : Value} : h.get? e = some oe → oe.cls = cls → oe.data = .fields vs → vs[0]? = some a0 → vs[1]? = some (.ref T) → T ≠ e →
      R T = none → H T = none → c.base.get? T = none → h.get? T = some oT → oT.data = .fields ts → ts[3]? = some fl → fl ≠ .ellipsis → ExcAt c R H h e cls fl

structure ExcSt1 (c : Cx) (R : RR) (H : AHeap) (e : Addr) (cl : String) (fl : Value) (h : Heap) : Prop where
  st : St1 c R H h
  re : R e = none
  he : H e = none
  be : c.base.get? e = none
  ob : ExcAt c R H h e (.ref (c.ca cl)) fl
  kn : (c.P.excs.lookup cl).isSome = true

noncomputable def ExcSt (c : Cx) (R : RR) (H : AHeap) (e : Addr) (cl : String) (fl : Value) (h : Heap) : Prop := ∃ H₁, ExcSt1 c R H₁ e cl fl h ∧ Real H H₁

noncomputable def CallOK (c : Cx) (n : Nat) (md : Bool) (f : String) (args : List AV) (Q : AV → AHeap → Prop) (E : String → AHeap → Prop) (H : AHeap) : Prop :=
  ∀ (A : Around) (stk : List Env) (R : RR) (s : Shared) (vals : List Value) (Rs : Result → Shared → Prop),
    AOk 0 n md A stk → Stk R stk → St c R H s.heap → VRs args vals →
    (∀ av v s' H', VR av v → St c R H' s'.heap → Sm s s' → Q av H' → Rs (.ok (.ret v)) s') →
    (∀ e cl s' H', ExcSt c R H' e cl .none s'.heap → Sm s s' → E cl H' → Rs (.error (.ref e)) s') →
    codeAny (model c.prog c.w) A (.call (.ref (c.fa f)) ⟨vals, []⟩) Rs s


mutual
inductive RD (H : AHeap) : AV → PyData → Prop
  | none : RD H .none .none
  | bool (b : Bool) : RD H (.bool b) (.bool b)
  | int (i : Int) : RD H (.int i) (.int i)
  | str (s : Str) : RD H (.str s) (.str s)
  | list {a xs ds} : H a = some (.list xs) → RDs H xs ds → RD H (.ref a) (.list ds)
  | tuple {a xs ds} : H a = some (.tuple xs) → RDs H xs ds → RD H (.ref a) (.tuple ds)
  | dict {a ep es ds} : H a = some (.dict ep es) → RDs H (es.map (·.2)) ds → RD H (.ref a) (.dict ((es.map fun e => PyData.str e.1).zip ds))
inductive RDs (H : AHeap) : List AV → List PyData → Prop
  | nil : RDs H [] []
  | cons {a d as ds} : RD H a d → RDs H as ds → RDs H (a :: as) (d :: ds)
end

mutual
noncomputable def flatD : PyData → Bool
  | .none | .bool _ | .int _ | .str _ => true
  | .list xs | .tuple xs => flatDs xs
  | .dict _ => false
noncomputable def flatDs : List PyData → Bool
  | [] => true
  | x :: xs => flatD x && flatDs xs
end
noncomputable def okD (d : PyData) : Prop := flatD d = true ∧ d.depth ≤ 64

noncomputable def pyIdx (n : Nat) (i : Int) : Option Nat :=
  if 0 ≤ i then (if i < n then some i.toNat else none) else if -(n : Int) ≤ i then some (i + n).toNat else none

noncomputable def lookS (es : List (Str × AV)) (k : Str) : Option AV := (es.find? fun e => e.1 = k).map (·.2)
noncomputable def putS (es : List (Str × AV)) (k : Str) (v : AV) : List (Str × AV) :=
  if (lookS es k).isSome then es.map (fun e => if e.1 = k then (e.1, v) else e) else es ++ [(k, v)]
noncomputable def lookA (es : List (String × AV)) (k : String) : Option AV := (es.find? fun e => e.1 = k).map (·.2)
noncomputable def putA (es : List (String × AV)) (k : String) (v : AV) : List (String × AV) :=
  if (lookA es k).isSome then es.map (fun e => if e.1 = k then (e.1, v) else e) else es ++ [(k, v)]

noncomputable def wtruth (v : AV) (H : AHeap) (Q : Bool → Prop) : Prop :=
  match v with
  | .none => Q false
  | .bool b => Q b
  | .int i => Q (i != 0)
  | .str s => s.length < 2 ^ 62 ∧ Q (s.length != 0)
  | .ref a => match H a with
    | some (.list xs) => xs.length < 2 ^ 62 ∧ Q (!xs.isEmpty)
    | some (.tuple xs) => xs.length < 2 ^ 62 ∧ Q (!xs.isEmpty)
    | _ => False

noncomputable def wii (a b : AV) (P : Int → Int → Prop) : Prop := match a, b with
  | .int x, .int y => P x y
  | _, _ => False
noncomputable def wbin (op : Operator) (a b : AV) (Q : AV → AHeap → Prop) (H : AHeap) : Prop :=
  match op with
  | .Add => (match a, b with
    | .int x, .int y => Q (.int (x + y)) H
    | .str x, .str y => x.length + y.length ≤ sizeLine ∧ Q (.str (x ++ y)) H
    | .ref x, .ref y => (match H x, H y with
      | some (.list xs), some (.list ys) => xs.length + ys.length ≤ sizeLine ∧ ∀ z, H z = none → Q (.ref z) (up H z (.list (xs ++ ys)))
      | _, _ => False)
    | _, _ => False)
  | .Sub => wii a b fun x y => Q (.int (x - y)) H
  | .Mult => wii a b fun x y => IntMulOk x y ∧ Q (.int (x * y)) H
  | .FloorDiv => wii a b fun x y => y ≠ 0 ∧ Q (.int (x.fdiv y)) H
  | .Mod => wii a b fun x y => y ≠ 0 ∧ Q (.int (x.fmod y)) H
  | .Pow => wii a b fun x y => (2 ≤ x ∧ 1 ≤ y ∧ Builtin.Int.intTooBig (((Builtin.Int.intBits x : Nat) : Int) * y) = false) ∧ Q (.int (x ^ y.toNat)) H
  | _ => False

inductive DHits (H : AHeap) (eb : List (Str × AV)) : List (Str × AV) → Bool → Prop
  | nil : DHits H eb [] true
  | miss {k v r} : lookS eb k = none → DHits H eb ((k, v) :: r) false
  | hit {k v y r d e b} : lookS eb k = some y → RD H v d → RD H y e → okD d → okD e → DHits H eb r b → DHits H eb ((k, v) :: r) (PyData.eqv d e && b)
noncomputable def isDictV (H : AHeap) : AV → Option (List (Str × AV))
  | .ref p => match H p with
    | some (.dict _ es) => some es
    | _ => none
  | _ => none
noncomputable def nt (n b : Bool) : Bool := match n with
  | true => !b
  | false => b
set_option tactic.hygienic false in
theorem nt_eq {n b : Bool} : (b != n) = nt n b := by cases n <;> cases b <;> rfl
noncomputable def weq (ne : Bool) (a b : AV) (Q : AV → AHeap → Prop) (H : AHeap) : Prop :=
  match a, b with
  | .int x, .int y => Q (.bool (nt ne (x == y))) H
  | .str x, .str y => Q (.bool (nt ne (x == y))) H
  | a, b => match isDictV H a, isDictV H b with
    | some ea, some eb => ∃ r, (ea.length = eb.length → DHits H eb ea r) ∧ Q (.bool (nt ne (ea.length == eb.length && r))) H
    | _, _ => ∃ da db, RD H a da ∧ RD H b db ∧ okD da ∧ okD db ∧ Q (.bool (nt ne (PyData.eqv da db))) H

noncomputable def win (no : Bool) (x cc : AV) (Q : AV → AHeap → Prop) (H : AHeap) : Prop :=
  match cc with
  | .ref a => match H a with
    | some (.list ys) => ∃ d ds, RD H x d ∧ RDs H ys ds ∧ okD d ∧ flatDs ds = true ∧ Q (.bool (nt no (ds.any fun y => PyData.eqv y d))) H
    | some (.tuple ys) => ∃ d ds, RD H x d ∧ RDs H ys ds ∧ okD d ∧ flatDs ds = true ∧ Q (.bool (nt no (ds.any fun y => PyData.eqv y d))) H
    | some (.dict _ es) => match x with
      | .str k => Q (.bool (nt no (lookS es k).isSome)) H
      | _ => False
    | _ => False
  | .str s => match x with
    | .str k => ∃ ch, k = ⟨#[ch]⟩ ∧ Q (.bool (nt no (s.cps.toList.contains ch))) H
    | _ => False
  | _ => False

noncomputable def wcmp (op : CmpOp) (a b : AV) (Q : AV → AHeap → Prop) (H : AHeap) : Prop :=
  match op with
  | .Eq => weq false a b Q H
  | .NotEq => weq true a b Q H
  | .In => win false a b Q H
  | .NotIn => win true a b Q H
  | .Is => match b with
    | .none => Q (.bool (a == .none)) H
    | .bool c => Q (.bool (a == .bool c)) H
    | _ => False
  | .IsNot => match b with
    | .none => Q (.bool (a != .none)) H
    | .bool c => Q (.bool (a != .bool c)) H
    | _ => False
  | op => match a, b with
    | .int x, .int y => match op with
      | .Lt => Q (.bool (decide (x < y))) H
      | .LtE => Q (.bool (decide (x ≤ y))) H
      | .Gt => Q (.bool (decide (y < x))) H
      | .GtE => Q (.bool (decide (y ≤ x))) H
      | _ => False
    | _, _ => False

noncomputable def wsub (a i : AV) (Q : AV → AHeap → Prop) (H : AHeap) : Prop :=
  match a, i with
  | .ref a, .int i => match H a with
    | some (.list xs) => ∃ j v, pyIdx xs.length i = some j ∧ i < 2 ^ 63 ∧ -(2 ^ 63) ≤ i ∧ xs[j]? = some v ∧ Q v H
    | some (.tuple xs) => ∃ j v, pyIdx xs.length i = some j ∧ i < 2 ^ 63 ∧ -(2 ^ 63) ≤ i ∧ xs[j]? = some v ∧ Q v H
    | some (.script ns) => 0 ≤ i ∧ i < 2 ^ 63 ∧ ∃ n, ns[i.toNat]? = some n ∧ Q (.int n) H
    | _ => False
  | .ref a, .str k => match H a with
    | some (.dict _ es) => ∃ v, lookS es k = some v ∧ Q v H
    | _ => False
  | .str s, .int i => 0 ≤ i ∧ i < 2 ^ 63 ∧ ∃ ch, s.cps[i.toNat]? = some ch ∧ Q (.str ⟨#[ch]⟩) H
  | _, _ => False

noncomputable def vkind (H : AHeap) (v : AV) : Option String :=
  match v with
  | .none => some "NoneType"
  | .bool _ => some "bool"
  | .int _ => some "int"
  | .str _ => some "str"
  | .ref a => match H a with
    | some (.list _) => some "list"
    | some (.tuple _) => some "tuple"
    | some (.dict ..) => some "dict"
    | _ => none
noncomputable def isinstV (P : Pg) (H : AHeap) (v : AV) (ty : String) : Option Bool :=
  if ty = "int" ∨ ty = "bool" ∨ ty = "str" ∨ ty = "list" then (vkind H v).map fun k => k == ty || (k == "bool" && ty == "int")
  else match v with
  | .ref a => match H a with
    | some (.exc c) => if ((P.excs.lookup c).map (·.contains ty)).getD false then some true else if (P.excs.lookup ty).isSome && (P.excs.lookup c).isSome then some false else none
    | _ => none
  | _ => none

noncomputable def onV1 (vs : List AV) (k : AV → Prop) : Prop := match vs with
  | [] => False
  | v :: r => match r with
    | [] => k v
    | _ :: _ => False
noncomputable def atL (o : AV) (H : AHeap) (k : Addr → List AV → Prop) : Prop := match o with
  | .ref p => (match H p with
    | some (.list xs) => k p xs
    | _ => False)
  | _ => False
noncomputable def atD (o : AV) (H : AHeap) (k : Addr → List (Str × AV) → Prop) : Prop := match o with
  | .ref p => (match H p with
    | some (.dict _ es) => k p es
    | _ => False)
  | _ => False
noncomputable def wlen (v : AV) (Q : AV → AHeap → Prop) (H : AHeap) : Prop := match v with
  | .str s => s.length < 2 ^ 62 ∧ Q (.int s.length) H
  | .ref a => (match H a with
      | some (.list xs) => xs.length < 2 ^ 62 ∧ Q (.int xs.length) H
      | some (.tuple xs) => xs.length < 2 ^ 62 ∧ Q (.int xs.length) H
      | some (.dict _ es) => es.length < 2 ^ 62 ∧ Q (.int es.length) H
      | some (.script ns) => ns.length < 2 ^ 62 ∧ Q (.int ns.length) H
      | _ => False)
  | _ => False
noncomputable def wlistP (md : Bool) (v : AV) (Q : AV → AHeap → Prop) (H : AHeap) : Prop := match v with
  | .ref a => (match H a with
      | some (.list xs) => xs.length ≤ sizeLine ∧ ∀ z, H z = none → Q (.ref z) (up H z (.list xs))
      | some (.tuple xs) => xs.length ≤ sizeLine ∧ ∀ z, H z = none → Q (.ref z) (up H z (.list xs))
      | some (.dict _ es) => md = true ∧ es.length ≤ sizeLine ∧ ∀ z, H z = none → Q (.ref z) (up H z (.list (es.map fun e => .str e.1)))
      | some (.vals d) => (match H d with
        | some (.dict _ es) => md = true ∧ es.length ≤ sizeLine ∧ ∀ z, H z = none → Q (.ref z) (up H z (.list (es.map (·.2))))
        | _ => False)
      | _ => False)
  | _ => False
noncomputable def wsum (v : AV) (Q : AV → AHeap → Prop) (H : AHeap) : Prop := match v with
  | .ref a => (match H a with
      | some (.list xs) => ∃ ns : List Int, xs = ns.map .int ∧ Q (.int ns.sum) H
      | some (.vals d) => (match H d with
        | some (.dict _ es) => ∃ ns : List Int, es.map (·.2) = ns.map .int ∧ Q (.int ns.sum) H
        | _ => False)
      | _ => False)
  | _ => False
noncomputable def on1i (a : AV) (k : Int → Prop) : Prop := match a with
  | .int x => k x
  | _ => False
noncomputable def wprim (md : Bool) (f : Pr) (vs : List AV) (Q : AV → AHeap → Prop) (H : AHeap) : Prop :=
  match f with
  | .len => onV1 vs fun v => wlen v Q H
  | .list => onV1 vs fun v => wlistP md v Q H
  | .int => onV1 vs fun v => match v with
    | .bool b => Q (.int (if b then 1 else 0)) H
    | _ => False
  | .range => match vs with
    | [] => False
    | a :: r => match r with
      | [] => on1i a fun b => (-(2 ^ 62) < b ∧ b < 2 ^ 62) ∧ ∀ z, H z = none → Q (.ref z) (up H z (.range 0 b))
      | _ :: _ => onV1 r fun b => wii a b fun a b => (-(2 ^ 62) < a ∧ a < 2 ^ 62 ∧ -(2 ^ 62) < b ∧ b < 2 ^ 62) ∧ ∀ z, H z = none → Q (.ref z) (up H z (.range a b))
  | .sum => onV1 vs fun v => md = true ∧ wsum v Q H

noncomputable def bookAttrs : List String := ["day", "free", "aside", "pacts"]
noncomputable def upperS (x : Str) : Str := Txt.upper x
noncomputable def wbm (o : AV) (m : BM) (vs : List AV) (Q : AV → AHeap → Prop) (H : AHeap) : Prop :=
  match m with
  | .upper => match vs with
    | [] => (match o with
      | .str s => (upperS s).length ≤ sizeLine ∧ PyData.strOk (upperS s) = true ∧ Q (.str (upperS s)) H
      | _ => False)
    | _ :: _ => False
  | .append => onV1 vs fun v => atL o H fun p xs => xs.length ≤ sizeLine ∧ Q .none (up H p (.list (xs ++ [v])))
  | .clear => match vs with
    | [] => atL o H fun p xs => xs.length ≤ sizeLine ∧ Q .none (up H p (.list []))
    | _ :: _ => False
  | .index => onV1 vs fun v => atL o H fun _ xs => xs.length < 2 ^ 62 ∧ ∃ d ds, RD H v d ∧ RDs H xs ds ∧ okD d ∧ flatDs ds = true ∧ ∃ k, ds.findIdx? (fun y => PyData.eqv y d) = some k ∧ Q (.int k) H
  | .count => onV1 vs fun v => atL o H fun _ xs => ∃ d ds, RD H v d ∧ RDs H xs ds ∧ okD d ∧ flatDs ds = true ∧ Q (.int (ds.countP fun y => PyData.eqv y d)) H
  | .values => match vs with
    | [] => atD o H fun p _ => ∀ z, H z = none → Q (.ref z) (up H z (.vals p))
    | _ :: _ => False
  | .pop => onV1 vs fun v => match v with
    | .str k => atD o H fun p es => es.length ≤ sizeLine ∧ ∃ v, lookS es k = some v ∧ ∀ ep, Q v (up H p (.dict ep (es.filter fun e => e.1 ≠ k)))
    | _ => False

noncomputable def itemsOf (H : AHeap) : AV → Option (List AV)
  | .ref a => match H a with
    | some (.list xs) => some xs
    | some (.tuple xs) => some xs
    | some (.range lo hi) => some ((List.range (hi - lo).toNat).map fun (k : Nat) => AV.int (lo + k))
    | some (.dict _ es) => some (es.map fun e => AV.str e.1)
    | _ => none
  | .str s => some (s.cps.toList.map fun ch => AV.str ⟨#[ch]⟩)
  | _ => none
noncomputable def sameIt (H H' : AHeap) : AV → Prop
  | .ref a => H' a = H a
  | _ => True

noncomputable def WFor (QN : VV → AHeap → Prop) (stp : AV → (VV → AHeap → Prop) → VV → AHeap → Prop) (v : AV) (V : VV) (H : AHeap) : Prop :=
  ∃ xs, itemsOf H v = some xs ∧ ∃ I : Nat → VV → AHeap → Prop, I 0 V H ∧
    ∀ k V' H', I k V' H' → sameIt H H' v ∧ (k = xs.length → QN V' H') ∧ ∀ x, xs[k]? = some x → stp x (I (k + 1)) V' H'
noncomputable def WWhile (QN : VV → AHeap → Prop) (tst : (Bool → AHeap → Prop) → VV → AHeap → Prop) (bd : (VV → AHeap → Prop) → VV → AHeap → Prop) (V : VV) (H : AHeap) : Prop :=
  ∃ I : Nat → VV → AHeap → Prop, (∃ n, I n V H) ∧ ∀ n V' H', I n V' H' → tst (fun b H'' => if b then bd (fun V₂ H₂ => ∃ m, m < n ∧ I m V₂ H₂) V' H'' else QN V' H'') V' H'
noncomputable def WComp (Q : AV → AHeap → Prop) (stp : AV → (Option AV → AHeap → Prop) → AHeap → Prop) (v : AV) (H : AHeap) : Prop :=
  ∃ xs, itemsOf H v = some xs ∧ xs.length ≤ sizeLine ∧ ∃ I : Nat → List AV → AHeap → Prop, I 0 [] H ∧
    ∀ k acc H', I k acc H' → sameIt H H' v ∧ (k = xs.length → ∀ a, H' a = none → Q (.ref a) (up H' a (.list acc))) ∧
      ∀ x, xs[k]? = some x → stp x (fun r H'' => I (k + 1) (acc ++ r.toList) H'') H'

noncomputable def wunpack (k : Nat) (x : AV) (H : AHeap) (Q : List AV → Prop) : Prop :=
  match x with
  | .ref a => match H a with
    | some (.tuple xs) => xs.length = k ∧ Q xs
    | some (.list xs) => xs.length = k ∧ Q xs
    | _ => False
  | _ => False

noncomputable def setAll (V : VV) : List Nat → List AV → VV
  | i :: is, x :: xs => setAll (V.set i (some x)) is xs
  | _, _ => V
noncomputable def wtg (t : Tg) (x : AV) (V : VV) (H : AHeap) (Q : VV → Prop) : Prop :=
  match t with
  | .var i => i < V.length ∧ Q (V.set i (some x))
  | .tup is => wunpack is.length x H fun xs => Q (setAll V is xs)

noncomputable def bmOn (m : BM) (x : AV) (H : AHeap) : Prop :=
  match x with
  | .str _ => m = .upper
  | .ref p => match H p with
    | some (.list _) => m = .append ∨ m = .clear ∨ m = .index ∨ m = .count
    | some (.dict _ _) => m = .values ∨ m = .pop
    | _ => False
  | _ => False

structure Gx where
  c : Cx
  n : Nat
  md : Bool

noncomputable def wattr (P : Pg) (n : String) (x : AV) (Q : AV → AHeap → Prop) (H : AHeap) : Prop := match x with
  | .ref p => (match H p with
    | some (.inst cl es) => P.attrs.contains (cl, n) = true ∧ (match lookA es n with | some v => Q v H | none => False)
    | some (.book B) => n = "day" ∧ P.attrs.contains ("Book", "day") = true ∧ Q (.int B.day) H
    | _ => False)
  | _ => False
noncomputable def wmeth (P : Pg) (m : String) (x : AV) (K : String → Addr → AHeap → Prop) (H : AHeap) : Prop := match x with
  | .ref p => (match H p with
    | some (.inst cl es) => P.meths.contains (cl, m) = true ∧ lookA es m = none ∧ K (cl ++ "." ++ m) p H
    | some (.book _) => P.meths.contains ("Book", m) = true ∧ bookAttrs.contains m = false ∧ K ("Book." ++ m) p H
    | _ => False)
  | _ => False
noncomputable def wisi (P : Pg) (ty : String) (x : AV) (Q : AV → AHeap → Prop) (H : AHeap) : Prop := match isinstV P H x ty with
  | some b => Q (.bool b) H
  | none => False
noncomputable def wsetI (o j x : AV) (Q : AHeap → Prop) (H : AHeap) : Prop := match o, j with
  | .ref p, .str k => (match H p with
    | some (.dict _ es) => es.length ≤ sizeLine ∧ ∀ ep, Q (up H p (.dict ep (putS es k x)))
    | _ => False)
  | .ref p, .int j => (match H p with
    | some (.list xs) => 0 ≤ j ∧ j < xs.length ∧ xs.length < 2 ^ 62 ∧ Q (up H p (.list (xs.set j.toNat x)))
    | _ => False)
  | _, _ => False
noncomputable def wsetA (P : Pg) (n : String) (o x : AV) (Q : AHeap → Prop) (H : AHeap) : Prop := match o with
  | .ref p => (match H p with
    | some (.inst cl es) => P.attrs.contains (cl, n) = true ∧ es.length ≤ 100 ∧ Q (up H p (.inst cl (putA es n x)))
    | _ => False)
  | _ => False

mutual
noncomputable def wpX (g : Gx) : X → VV → (AV → AHeap → Prop) → (String → AHeap → Prop) → AHeap → Prop
  | .lit v, _, Q, _, H => Q v H
  | .var i, V, Q, _, H => match V[i]? with
    | some (some v) => Q v H
    | _ => False
  | .glob n, _, Q, _, H => match g.c.P.consts.lookup n with
    | some v => Q v H
    | none => False
  | .bin op a b, V, Q, E, H => wpX g a V (fun x H => wpX g b V (fun y H => wbin op x y Q H) E H) E H
  | .neg a, V, Q, E, H => wpX g a V (fun x H => match x with | .int i => Q (.int (-i)) H | _ => False) E H
  | .not a, V, Q, E, H => wpX g a V (fun x H => wtruth x H fun b => Q (.bool (!b)) H) E H
  | .ao isAnd xs, V, Q, E, H => wpAO g isAnd xs V Q E H
  | .cmp op a b, V, Q, E, H => wpX g a V (fun x H => wpX g b V (fun y H => wcmp op x y Q H) E H) E H
  | .cmp2 op₁ op₂ a b d, V, Q, E, H => wpX g a V (fun x H => wpX g b V (fun y H => wcmp op₁ x y (fun r H => wtruth r H fun t =>
      if t then wpX g d V (fun z H => wcmp op₂ y z Q H) E H else Q r H) H) E H) E H
  | .sub a i, V, Q, E, H => wpX g a V (fun x H => wpX g i V (fun y H => wsub x y Q H) E H) E H
  | .attr a n, V, Q, E, H => wpX g a V (fun x H => wattr g.c.P n x Q H) E H
  | .call f xs, V, Q, E, H => wpXs g xs V (fun vs H => CallOK g.c g.n g.md f vs Q E H) E H
  | .new cl xs, V, Q, E, H => wpXs g xs V (fun vs H => ∀ a, H a = none → CallOK g.c g.n g.md (cl ++ ".__init__") (.ref a :: vs) (fun r H => r = .none ∧ Q (.ref a) H) E (up H a (.inst cl []))) E H
  | .meth a m xs, V, Q, E, H => wpX g a V (fun x H => wmeth g.c.P m x (fun f p H => wpXs g xs V (fun vs H => CallOK g.c g.n g.md f (.ref p :: vs) Q E H) E H) H) E H
  | .bm a m xs, V, Q, E, H => wpX g a V (fun x H => bmOn m x H ∧ wpXs g xs V (fun vs H => wbm x m vs Q H) E H) E H
  | .prim f xs, V, Q, E, H => wpXs g xs V (fun vs H => wprim g.md f vs Q H) E H
  | .isinst a ty, V, Q, E, H => wpX g a V (fun x H => wisi g.c.P ty x Q H) E H
  | .list xs, V, Q, E, H => wpXs g xs V (fun vs H => ∀ a, H a = none → Q (.ref a) (up H a (.list vs))) E H
  | .tuple xs, V, Q, E, H => wpXs g xs V (fun vs H => ∀ a, H a = none → Q (.ref a) (up H a (.tuple vs))) E H
  | .dict ks vs, V, Q, E, H => match ks, vs with
    | [], [] => ∀ a, H a = none → Q (.ref a) (up H a (.dict 0 []))
    | [k], [v] => wpX g k V (fun k H => wpX g v V (fun v H => match k with | .str k => ∀ a ep, H a = none → Q (.ref a) (up H a (.dict ep [(k, v)])) | _ => False) E H) E H
    | _, _ => False
  | .comp e k tup it c, V, Q, E, H => g.md = true ∧ wpX g it V (fun v H => WComp Q (fun x nx H =>
      if tup then wunpack k x H fun xs => wpC g c (V ++ xs.map some) (fun b H => if b then wpX g e (V ++ xs.map some) (fun y H => nx (some y) H) (fun _ _ => False) H else nx none H) (fun _ _ => False) H
      else wpC g c (V ++ [some x]) (fun b H => if b then wpX g e (V ++ [some x]) (fun y H => nx (some y) H) (fun _ _ => False) H else nx none H) (fun _ _ => False) H) v H) E H
noncomputable def wpXs (g : Gx) : List X → VV → (List AV → AHeap → Prop) → (String → AHeap → Prop) → AHeap → Prop
  | [], _, Q, _, H => Q [] H
  | x :: r, V, Q, E, H => wpX g x V (fun v H => wpXs g r V (fun vs H => Q (v :: vs) H) E H) E H
noncomputable def wpAO (g : Gx) (isAnd : Bool) : List X → VV → (AV → AHeap → Prop) → (String → AHeap → Prop) → AHeap → Prop
  | [], _, _, _, _ => False
  | x :: r, V, Q, E, H => wpX g x V (fun v H => match r with
      | [] => Q v H
      | _ :: _ => wtruth v H fun b => if b = isAnd then wpAO g isAnd r V Q E H else Q v H) E H
noncomputable def wpC (g : Gx) : Option X → VV → (Bool → AHeap → Prop) → (String → AHeap → Prop) → AHeap → Prop
  | none, _, Q, _, H => Q true H
  | some x, V, Q, E, H => wpX g x V (fun v H => wtruth v H fun b => Q b H) E H
end

noncomputable def wpT (g : Gx) (t : T) (x : AV) (V : VV) (Q : VV → AHeap → Prop) (E : String → AHeap → Prop) (H : AHeap) : Prop :=
  match t with
  | .var i => i < V.length ∧ Q (V.set i (some x)) H
  | .tup is => g.md = true ∧ wunpack is.length x H fun xs => Q (setAll V is xs) H
  | .sub a i => wpX g a V (fun o H => wpX g i V (fun j H => wsetI o j x (Q V) H) E H) E H
  | .attr a n => wpX g a V (fun o H => wsetA g.c.P n o x (Q V) H) E H

noncomputable def excSub (P : Pg) (cl c : String) : Bool := ((P.excs.lookup cl).map (·.contains c)).getD false

mutual
noncomputable def wpS (g : Gx) : S → (VV → AHeap → Prop) → (AV → AHeap → Prop) → (String → VV → AHeap → Prop) → VV → AHeap → Prop
  | .assign t e, QN, _, E, V, H => wpX g e V (fun x H => wpT g t x V QN (fun cl H => E cl V H) H) (fun cl H => E cl V H) H
  | .expr e, QN, _, E, V, H => wpX g e V (fun _ H => QN V H) (fun cl H => E cl V H) H
  | .ret e, _, QR, E, V, H => wpX g e V QR (fun cl H => E cl V H) H
  | .ite c a b, QN, QR, E, V, H => wpX g c V (fun x H => wtruth x H fun t => if t then wpSs g a QN QR E V H else wpSs g b QN QR E V H) (fun cl H => E cl V H) H
  | .while c body, QN, QR, E, V, H => g.md = true ∧ WWhile QN (fun q V H => wpX g c V (fun x H => wtruth x H fun t => q t H) (fun cl H => E cl V H) H)
      (fun q V H => wpSs g body q QR E V H) V H
  | .for t it body, QN, QR, E, V, H => g.md = true ∧ wpX g it V (fun v H => WFor QN (fun x nx V H => wtg t x V H fun V => wpSs g body nx QR E V H) v V H) (fun cl H => E cl V H) H
  | .raise cl _, _, _, E, V, H => g.md = true ∧ E cl V H
  | .try body hs, QN, QR, E, V, H => g.md = true ∧ wpSs g body QN QR (fun cl V H => wpHs g hs cl QN QR E V H) V H
  | .pass, QN, _, _, V, H => QN V H
noncomputable def wpSs (g : Gx) : List S → (VV → AHeap → Prop) → (AV → AHeap → Prop) → (String → VV → AHeap → Prop) → VV → AHeap → Prop
  | [], QN, _, _, V, H => QN V H
  | s :: r, QN, QR, E, V, H => wpS g s (fun V H => wpSs g r QN QR E V H) QR E V H
noncomputable def wpHs (g : Gx) : List Hd → String → (VV → AHeap → Prop) → (AV → AHeap → Prop) → (String → VV → AHeap → Prop) → VV → AHeap → Prop
  | [], _, _, _, _, _, _ => False
  | h :: r, cl, QN, QR, E, V, H => wpH g h cl (wpHs g r cl QN QR E V H) QN QR E V H
noncomputable def wpH (g : Gx) : Hd → String → Prop → (VV → AHeap → Prop) → (AV → AHeap → Prop) → (String → VV → AHeap → Prop) → VV → AHeap → Prop
  | .mk c nm b, cl, nope, QN, QR, _, V, H =>
    if excSub g.c.P cl c then
      (match nm with
      | none => wpSs { g with md := false } b QN QR (fun _ _ _ => False) V H
      | some i => ∀ a, H a = none → i < V.length ∧ wpSs { g with md := false } b (fun V H => QN (V.set i none) H) QR (fun _ _ _ => False) (V.set i (some (.ref a))) (up H a (.exc cl)))
    else nope
end

section
variable {g : Gx} {V : VV} {Q : AV → AHeap → Prop} {E : String → AHeap → Prop} {H : AHeap} {QL : List AV → AHeap → Prop}
theorem v_0 {x : Option AV} {r : VV} : (x :: r)[0]? = some x := rfl
theorem x_lit {v : AV} : wpX g (.lit v) V Q E H = Q v H := rfl
theorem x_var {i : Nat} : wpX g (.var i) V Q E H = (match V[i]? with | some (some v) => Q v H | _ => False) := rfl
theorem x_bin {op : Operator} {a b : X} : wpX g (.bin op a b) V Q E H = wpX g a V (fun x H => wpX g b V (fun y H => wbin op x y Q H) E H) E H := rfl
theorem x_neg {a : X} : wpX g (.neg a) V Q E H = wpX g a V (fun x H => match x with | .int i => Q (.int (-i)) H | _ => False) E H := rfl
theorem x_not {a : X} : wpX g (.not a) V Q E H = wpX g a V (fun x H => wtruth x H fun b => Q (.bool (!b)) H) E H := rfl
theorem x_ao {b : Bool} {xs : List X} : wpX g (.ao b xs) V Q E H = wpAO g b xs V Q E H := rfl
theorem x_cmp {op : CmpOp} {a b : X} : wpX g (.cmp op a b) V Q E H = wpX g a V (fun x H => wpX g b V (fun y H => wcmp op x y Q H) E H) E H := rfl
theorem x_cmp2 {o₁ o₂ : CmpOp} {a b d : X} : wpX g (.cmp2 o₁ o₂ a b d) V Q E H = wpX g a V (fun x H => wpX g b V (fun y H => wcmp o₁ x y (fun r H => wtruth r H fun t => if t then wpX g d V (fun z H => wcmp o₂ y z Q H) E H else Q r H) H) E H) E H := rfl
theorem x_sub {a i : X} : wpX g (.sub a i) V Q E H = wpX g a V (fun x H => wpX g i V (fun y H => wsub x y Q H) E H) E H := rfl
theorem x_glob {n : String} : wpX g (.glob n) V Q E H = (match g.c.P.consts.lookup n with | some v => Q v H | none => False) := rfl
theorem x_call {f : String} {xs : List X} : wpX g (.call f xs) V Q E H = wpXs g xs V (fun vs H => CallOK g.c g.n g.md f vs Q E H) E H := rfl
theorem x_prim {f : Pr} {xs : List X} : wpX g (.prim f xs) V Q E H = wpXs g xs V (fun vs H => wprim g.md f vs Q H) E H := rfl
theorem x_bm {a : X} {m : BM} {xs : List X} : wpX g (.bm a m xs) V Q E H = wpX g a V (fun x H => bmOn m x H ∧ wpXs g xs V (fun vs H => wbm x m vs Q H) E H) E H := rfl
theorem x_isi {a : X} {ty : String} : wpX g (.isinst a ty) V Q E H = wpX g a V (fun x H => match isinstV g.c.P H x ty with | some b => Q (.bool b) H | none => False) E H := rfl
theorem x_list {xs : List X} : wpX g (.list xs) V Q E H = wpXs g xs V (fun vs H => ∀ a, H a = none → Q (.ref a) (up H a (.list vs))) E H := rfl
theorem x_tup {xs : List X} : wpX g (.tuple xs) V Q E H = wpXs g xs V (fun vs H => ∀ a, H a = none → Q (.ref a) (up H a (.tuple vs))) E H := rfl
theorem x_new {cl : String} {xs : List X} : wpX g (.new cl xs) V Q E H = wpXs g xs V (fun vs H => ∀ a, H a = none → CallOK g.c g.n g.md (cl ++ ".__init__") (.ref a :: vs) (fun r H => r = .none ∧ Q (.ref a) H) E (up H a (.inst cl []))) E H := rfl
theorem x_dict0 : wpX g (.dict [] []) V Q E H = (∀ a, H a = none → Q (.ref a) (up H a (.dict 0 []))) := rfl
theorem xs_nil : wpXs g [] V QL E H = QL [] H := rfl
theorem xs_cons {x : X} {r : List X} : wpXs g (x :: r) V QL E H = wpX g x V (fun v H => wpXs g r V (fun vs H => QL (v :: vs) H) E H) E H := rfl
theorem ao_one {b : Bool} {x : X} : wpAO g b [x] V Q E H = wpX g x V Q E H := rfl
theorem ao_cons {b : Bool} {x y : X} {r : List X} : wpAO g b (x :: y :: r) V Q E H = wpX g x V (fun v H => wtruth v H fun t => if t = b then wpAO g b (y :: r) V Q E H else Q v H) E H := rfl
theorem xc_none {QC : Bool → AHeap → Prop} : wpC g none V QC E H = QC true H := rfl
theorem xc_some {QC : Bool → AHeap → Prop} {x : X} : wpC g (some x) V QC E H = wpX g x V (fun v H => wtruth v H fun b => QC b H) E H := rfl
end
section
variable {g : Gx} {V : VV} {QN : VV → AHeap → Prop} {QR : AV → AHeap → Prop} {E : String → VV → AHeap → Prop} {EE : String → AHeap → Prop} {H : AHeap} {x : AV}
theorem tv {i : Nat} : wpT g (.var i) x V QN EE H = (i < V.length ∧ QN (V.set i (some x)) H) := rfl
theorem tsub {a i : X} : wpT g (.sub a i) x V QN EE H = wpX g a V (fun o H => wpX g i V (fun j H => match o, j with
      | .ref p, .str k => (match H p with
        | some (.dict _ es) => es.length ≤ sizeLine ∧ ∀ ep, QN V (up H p (.dict ep (putS es k x)))
        | _ => False)
      | .ref p, .int j => (match H p with
        | some (.list xs) => 0 ≤ j ∧ j < xs.length ∧ xs.length < 2 ^ 62 ∧ QN V (up H p (.list (xs.set j.toNat x)))
        | _ => False)
      | _, _ => False) EE H) EE H := rfl
theorem tattr {a : X} {n : String} : wpT g (.attr a n) x V QN EE H = wpX g a V (fun o H => match o with
      | .ref p => (match H p with
        | some (.inst cl es) => g.c.P.attrs.contains (cl, n) = true ∧ es.length ≤ 100 ∧ QN V (up H p (.inst cl (putA es n x)))
        | _ => False)
      | _ => False) EE H := rfl
theorem ttup {is : List Nat} : wpT g (.tup is) x V QN EE H = (g.md = true ∧ wunpack is.length x H fun xs => QN (setAll V is xs) H) := rfl
theorem s_expr' {e : X} : wpS g (.expr e) QN QR E V H = wpX g e V (fun _ H => QN V H) (fun cl H => E cl V H) H := rfl
theorem s_raise' {cl : String} {m : Str} : wpS g (.raise cl m) QN QR E V H = (g.md = true ∧ E cl V H) := rfl
theorem s_for' {t : Tg} {it : X} {b : List S} : wpS g (.for t it b) QN QR E V H = (g.md = true ∧ wpX g it V (fun v H => WFor QN (fun x nx V H => wtg t x V H fun V => wpSs g b nx QR E V H) v V H) (fun cl H => E cl V H) H) := rfl
theorem s_while' {cn : X} {b : List S} : wpS g (.while cn b) QN QR E V H = (g.md = true ∧ WWhile QN (fun q V H => wpX g cn V (fun x H => wtruth x H fun t => q t H) (fun cl H => E cl V H) H) (fun q V H => wpSs g b q QR E V H) V H) := rfl
theorem s_try' {b : List S} {hs : List Hd} : wpS g (.try b hs) QN QR E V H = (g.md = true ∧ wpSs g b QN QR (fun cl V H => wpHs g hs cl QN QR E V H) V H) := rfl
end
section
variable {g : Gx} {V : VV} {Q : AV → AHeap → Prop} {E : String → AHeap → Prop} {H : AHeap}
theorem x_attr {a : X} {n : String} : wpX g (.attr a n) V Q E H = wpX g a V (fun x H => match x with
      | .ref p => (match H p with
        | some (.inst cl es) => g.c.P.attrs.contains (cl, n) = true ∧ (match lookA es n with | some v => Q v H | none => False)
        | some (.book B) => n = "day" ∧ g.c.P.attrs.contains ("Book", "day") = true ∧ Q (.int B.day) H
        | _ => False)
      | _ => False) E H := rfl
theorem x_meth {a : X} {m : String} {xs : List X} : wpX g (.meth a m xs) V Q E H = wpX g a V (fun x H => match x with
      | .ref p => (match H p with
        | some (.inst cl es) => g.c.P.meths.contains (cl, m) = true ∧ lookA es m = none ∧ wpXs g xs V (fun vs H => CallOK g.c g.n g.md (cl ++ "." ++ m) (.ref p :: vs) Q E H) E H
        | some (.book _) => g.c.P.meths.contains ("Book", m) = true ∧ bookAttrs.contains m = false ∧ wpXs g xs V (fun vs H => CallOK g.c g.n g.md ("Book." ++ m) (.ref p :: vs) Q E H) E H
        | _ => False)
      | _ => False) E H := rfl
theorem x_dict1 {k v : X} : wpX g (.dict [k] [v]) V Q E H = wpX g k V (fun k H => wpX g v V (fun v H => match k with | .str k => ∀ a ep, H a = none → Q (.ref a) (up H a (.dict ep [(k, v)])) | _ => False) E H) E H := rfl
theorem x_comp {e : X} {k : Nat} {tup : Bool} {it : X} {c : Option X} : wpX g (.comp e k tup it c) V Q E H = (g.md = true ∧ wpX g it V (fun v H => WComp Q (fun x nx H =>
      if tup then wunpack k x H fun xs => wpC g c (V ++ xs.map some) (fun b H => if b then wpX g e (V ++ xs.map some) (fun y H => nx (some y) H) (fun _ _ => False) H else nx none H) (fun _ _ => False) H
      else wpC g c (V ++ [some x]) (fun b H => if b then wpX g e (V ++ [some x]) (fun y H => nx (some y) H) (fun _ _ => False) H else nx none H) (fun _ _ => False) H) v H) E H) := rfl
end
section
variable {g : Gx} {QN : VV → AHeap → Prop} {QR : AV → AHeap → Prop} {E : String → VV → AHeap → Prop} {V : VV} {H : AHeap}
theorem w_ite {c : X} {a b : List S} : wpS g (.ite c a b) QN QR E V H = wpX g c V (fun x H => wtruth x H fun t => if t then wpSs g a QN QR E V H else wpSs g b QN QR E V H) (fun cl H => E cl V H) H := rfl
theorem w_ret {e : X} : wpS g (.ret e) QN QR E V H = wpX g e V QR (fun cl H => E cl V H) H := rfl
theorem w_asg {t : T} {e : X} : wpS g (.assign t e) QN QR E V H = wpX g e V (fun x H => wpT g t x V QN (fun cl H => E cl V H) H) (fun cl H => E cl V H) H := rfl
theorem w_st {s : S} {r : List S} (h : ∀ K : VV → AHeap → Prop, (∀ V H, wpSs g r QN QR E V H → K V H) → wpS g s K QR E V H) : wpSs g (s :: r) QN QR E V H := h _ fun _ _ h => h
theorem w_nil : wpSs g [] QN QR E V H = QN V H := rfl
theorem w_cons {s : S} {r : List S} : wpSs g (s :: r) QN QR E V H = wpS g s (fun V H => wpSs g r QN QR E V H) QR E V H := rfl
theorem s_pass' : wpS g .pass QN QR E V H = QN V H := rfl
theorem hs_cons' {h : Hd} {r : List Hd} {cl : String} : wpHs g (h :: r) cl QN QR E V H = wpH g h cl (wpHs g r cl QN QR E V H) QN QR E V H := rfl
theorem h_mk' {c : String} {nm : Option Nat} {b : List S} {cl : String} {N : Prop} : wpH g (.mk c nm b) cl N QN QR E V H = (if excSub g.c.P cl c then
      (match nm with
      | none => wpSs { g with md := false } b QN QR (fun _ _ _ => False) V H
      | some i => ∀ a, H a = none → i < V.length ∧ wpSs { g with md := false } b (fun V H => QN (V.set i none) H) QR (fun _ _ _ => False) (V.set i (some (.ref a))) (up H a (.exc cl)))
    else N) := rfl
end
section
variable {md : Bool} {Q : AV → AHeap → Prop} {H : AHeap} {a p : Addr} {v : AV}
theorem p_lens {s : Str} : wprim md .len [.str s] Q H = (s.length < 2 ^ 62 ∧ Q (.int s.length) H) := rfl
theorem p_range {b : Int} : wprim md .range [.int b] Q H = ((-(2 ^ 62) < b ∧ b < 2 ^ 62) ∧ ∀ z, H z = none → Q (.ref z) (up H z (.range 0 b))) := rfl
theorem p_range2 {a b : Int} : wprim md .range [.int a, .int b] Q H = ((-(2 ^ 62) < a ∧ a < 2 ^ 62 ∧ -(2 ^ 62) < b ∧ b < 2 ^ 62) ∧ ∀ z, H z = none → Q (.ref z) (up H z (.range a b))) := rfl
theorem p_int {b : Bool} : wprim md .int [.bool b] Q H = Q (.int (if b then 1 else 0)) H := rfl
theorem sub_si {s : Str} {i : Int} : wsub (.str s) (.int i) Q H = (0 ≤ i ∧ i < 2 ^ 63 ∧ ∃ ch, s.cps[i.toNat]? = some ch ∧ Q (.str ⟨#[ch]⟩) H) := rfl
theorem p_lenr : wprim md .len [.ref a] Q H = (match H a with
      | some (.list xs) => xs.length < 2 ^ 62 ∧ Q (.int xs.length) H
      | some (.tuple xs) => xs.length < 2 ^ 62 ∧ Q (.int xs.length) H
      | some (.dict _ es) => es.length < 2 ^ 62 ∧ Q (.int es.length) H
      | some (.script ns) => ns.length < 2 ^ 62 ∧ Q (.int ns.length) H
      | _ => False) := rfl
theorem p_listr : wprim md .list [.ref a] Q H = (match H a with
      | some (.list xs) => xs.length ≤ sizeLine ∧ ∀ z, H z = none → Q (.ref z) (up H z (.list xs))
      | some (.tuple xs) => xs.length ≤ sizeLine ∧ ∀ z, H z = none → Q (.ref z) (up H z (.list xs))
      | some (.dict _ es) => md = true ∧ es.length ≤ sizeLine ∧ ∀ z, H z = none → Q (.ref z) (up H z (.list (es.map fun e => .str e.1)))
      | some (.vals d) => (match H d with
        | some (.dict _ es) => md = true ∧ es.length ≤ sizeLine ∧ ∀ z, H z = none → Q (.ref z) (up H z (.list (es.map (·.2))))
        | _ => False)
      | _ => False) := rfl
theorem p_sumr : wprim md .sum [.ref a] Q H = (md = true ∧ (match H a with
      | some (.list xs) => ∃ ns : List Int, xs = ns.map .int ∧ Q (.int ns.sum) H
      | some (.vals d) => (match H d with
        | some (.dict _ es) => ∃ ns : List Int, es.map (·.2) = ns.map .int ∧ Q (.int ns.sum) H
        | _ => False)
      | _ => False)) := rfl
theorem m_app : wbm (.ref p) .append [v] Q H = (match H p with
    | some (.list xs) => xs.length ≤ sizeLine ∧ Q .none (up H p (.list (xs ++ [v])))
    | _ => False) := rfl
theorem m_clr : wbm (.ref p) .clear [] Q H = (match H p with
    | some (.list xs) => xs.length ≤ sizeLine ∧ Q .none (up H p (.list []))
    | _ => False) := rfl
theorem m_idx : wbm (.ref p) .index [v] Q H = (match H p with
    | some (.list xs) => xs.length < 2 ^ 62 ∧ ∃ d ds, RD H v d ∧ RDs H xs ds ∧ okD d ∧ flatDs ds = true ∧ ∃ k, ds.findIdx? (fun y => PyData.eqv y d) = some k ∧ Q (.int k) H
    | _ => False) := rfl
theorem m_cnt : wbm (.ref p) .count [v] Q H = (match H p with
    | some (.list xs) => ∃ d ds, RD H v d ∧ RDs H xs ds ∧ okD d ∧ flatDs ds = true ∧ Q (.int (ds.countP fun y => PyData.eqv y d)) H
    | _ => False) := rfl
theorem m_val : wbm (.ref p) .values [] Q H = (match H p with
    | some (.dict _ _) => ∀ z, H z = none → Q (.ref z) (up H z (.vals p))
    | _ => False) := rfl
theorem m_pop {k : Str} : wbm (.ref p) .pop [.str k] Q H = (match H p with
    | some (.dict _ es) => es.length ≤ sizeLine ∧ ∃ v, lookS es k = some v ∧ ∀ ep, Q v (up H p (.dict ep (es.filter fun e => e.1 ≠ k)))
    | _ => False) := rfl
theorem t_ref {P : Bool → Prop} : wtruth (.ref a) H P = (match H a with
    | some (.list xs) => xs.length < 2 ^ 62 ∧ P (!xs.isEmpty)
    | some (.tuple xs) => xs.length < 2 ^ 62 ∧ P (!xs.isEmpty)
    | _ => False) := rfl
theorem sub_ri {i : Int} : wsub (.ref a) (.int i) Q H = (match H a with
    | some (.list xs) => ∃ j v, pyIdx xs.length i = some j ∧ i < 2 ^ 63 ∧ -(2 ^ 63) ≤ i ∧ xs[j]? = some v ∧ Q v H
    | some (.tuple xs) => ∃ j v, pyIdx xs.length i = some j ∧ i < 2 ^ 63 ∧ -(2 ^ 63) ≤ i ∧ xs[j]? = some v ∧ Q v H
    | some (.script ns) => 0 ≤ i ∧ i < 2 ^ 63 ∧ ∃ n, ns[i.toNat]? = some n ∧ Q (.int n) H
    | _ => False) := rfl
theorem sub_rs {k : Str} : wsub (.ref a) (.str k) Q H = (match H a with
    | some (.dict _ es) => ∃ v, lookS es k = some v ∧ Q v H
    | _ => False) := rfl
theorem in_ref {no : Bool} {x : AV} : win no x (.ref a) Q H = (match H a with
    | some (.list ys) => ∃ d ds, RD H x d ∧ RDs H ys ds ∧ okD d ∧ flatDs ds = true ∧ Q (.bool (nt no (ds.any fun y => PyData.eqv y d))) H
    | some (.tuple ys) => ∃ d ds, RD H x d ∧ RDs H ys ds ∧ okD d ∧ flatDs ds = true ∧ Q (.bool (nt no (ds.any fun y => PyData.eqv y d))) H
    | some (.dict _ es) => match x with
      | .str k => Q (.bool (nt no (lookS es k).isSome)) H
      | _ => False
    | _ => False) := rfl
theorem in_strv {no : Bool} {x : AV} {s : Str} : win no x (.str s) Q H = (match x with
    | .str k => ∃ ch, k = ⟨#[ch]⟩ ∧ Q (.bool (nt no (s.cps.toList.contains ch))) H
    | _ => False) := rfl
end
theorem eqv_s {x y : Str} : PyData.eqv (.str x) (.str y) = (x == y) := rfl
theorem eqv_l {x y : List PyData} : PyData.eqv (.list x) (.list y) = PyData.eqvAll x y := rfl
theorem eqv_c {x y : PyData} {r q : List PyData} : PyData.eqvAll (x :: r) (y :: q) = (PyData.eqv x y && PyData.eqvAll r q) := rfl
end Mine

end
section
open PySem PySem.W PyProof.Rows PySem.Spec PySem.SeqAt
namespace Mine

theorem lts {h : Heap} {a : Addr} {o : Obj} (e : h.get? a = some o) : @LT.lt Nat _ a h.objs.size := Heap.lt_size e
theorem leN {a b : Nat} (h : a ≤ b) : a ≤ b := h
set_option tactic.hygienic false in
theorem up_same {H : AHeap} {a : Addr} {o : AObj} : up H a o a = some o := by simp [up]
set_option tactic.hygienic false in
theorem up_other {H : AHeap} {a b : Addr} {o : AObj} (h : b ≠ a) : up H a o b = H b := by simp [up, h]
set_option tactic.hygienic false in
theorem rup_same {R : RR} {a : Addr} {r : Res} : rup R a r a = some r := by simp [rup]
set_option tactic.hygienic false in
theorem rup_other {R : RR} {a b : Addr} {r : Res} (h : b ≠ a) : rup R a r b = R b := by simp [rup, h]

set_option tactic.hygienic false in
theorem get_none {h : Heap} {a : Addr} (e : h.objs.size ≤ a) : h.get? a = none := by
  cases q : h.get? a with
  | none => rfl
  | some o => have := lts q; have := leN e; omega
theorem abv {c : Cx} {a : Addr} {o : AObj} (h : c.base.objs.size ≤ a) : Abv c a o := ⟨fun _ => get_none h, fun _ => h⟩

set_option tactic.hygienic false in
theorem VRs.length {as vs} (h : VRs as vs) : as.length = vs.length := by
  induction h with
  | nil => rfl
  | cons _ _ ih => simp [ih]
set_option tactic.hygienic false in
theorem VRs.get {as vs} (h : VRs as vs) : ∀ {i : Nat} {a : AV}, as[i]? = some a → ∃ v, vs[i]? = some v ∧ VR a v := by
  induction h with
  | nil => intro i a e; simp at e
  | cons ha _ ih =>
    intro i a e
    cases i with
    | zero => simp at e; subst e; exact ⟨_, by simp, ha⟩
    | succ i => simp at e; obtain ⟨v, h1, h2⟩ := ih e; exact ⟨v, by simpa using h1, h2⟩
set_option tactic.hygienic false in
theorem VRs.append {as vs bs us} (h : VRs as vs) (k : VRs bs us) : VRs (as ++ bs) (vs ++ us) := by
  induction h with
  | nil => exact k
  | cons ha _ ih => exact .cons ha ih
theorem VRs.one {a v} (h : VR a v) : VRs [a] [v] := .cons h .nil
set_option tactic.hygienic false in
theorem VRs.drop {as vs} (h : VRs as vs) (n : Nat) : VRs (as.drop n) (vs.drop n) := by
  induction h generalizing n with
  | nil => simp; exact .nil
  | cons ha hr ih => cases n with
    | zero => exact .cons ha hr
    | succ n => exact ih n
set_option tactic.hygienic false in
theorem VRs.take {as vs} (h : VRs as vs) (n : Nat) : VRs (as.take n) (vs.take n) := by
  induction h generalizing n with
  | nil => simp; exact .nil
  | cons ha hr ih => cases n with
    | zero => exact .nil
    | succ n => exact .cons ha (ih n)
set_option tactic.hygienic false in
theorem VRs.set {as vs} (h : VRs as vs) {a v} (hv : VR a v) (n : Nat) : VRs (as.set n a) (vs.set n v) := by
  induction h generalizing n with
  | nil => exact .nil
  | cons ha hr ih => cases n with
    | zero => exact .cons hv hr
    | succ n => exact .cons ha (ih n)

set_option tactic.hygienic false in
theorem ORep.there {c : Cx} {h : Heap} {D : Addr → Addr} {a : Addr} {o : AObj} (r : ORep c h D a o) : ∃ ob, h.get? a = some ob := by
  cases o with
  | book => exact r.elim
  | list => obtain ⟨_, _, e, _⟩ := r; exact ⟨_, e⟩
  | tuple => obtain ⟨_, _, e, _⟩ := r; exact ⟨_, e⟩
  | dict => obtain ⟨_, ⟨_, _, e, _⟩, _⟩ := r; exact ⟨_, e⟩
  | inst => exact ⟨_, r.1⟩
  | range => obtain ⟨_, _, _, _, e⟩ := r; exact ⟨_, e⟩
  | vals => exact ⟨_, r⟩
  | itms => exact ⟨_, r⟩
  | exc => obtain ⟨_, e, _⟩ := r; exact ⟨_, e⟩
  | script => obtain ⟨_, _, e, _⟩ := r; exact ⟨_, e⟩

set_option tactic.hygienic false in
theorem ORep.agree {c : Cx} {h h' : Heap} {D D' : Addr → Addr} {a : Addr} {o : AObj} (r : ORep c h D a o) (e : ∀ ob, h.get? a = some ob → h'.get? a = some ob)
    (e2 : ∀ cl es, o = .inst cl es → D' a = D a ∧ ∀ ob, h.get? (D a) = some ob → h'.get? (D a) = some ob) : ORep c h' D' a o := by
  cases o with
  | book => exact r.elim
  | list => obtain ⟨vs, n, q, x⟩ := r; exact ⟨vs, n, e _ q, x⟩
  | tuple => obtain ⟨vs, n, q, x⟩ := r; exact ⟨vs, n, e _ q, x⟩
  | dict => obtain ⟨kvs, ⟨o, es, q, x⟩, y⟩ := r; exact ⟨kvs, ⟨o, es, e _ q, x⟩, y⟩
  | inst cl es =>
    obtain ⟨q, ents, n, q2, x⟩ := r
    obtain ⟨d1, d2⟩ := e2 cl es rfl
    exact ⟨by rw [d1]; exact e _ q, ents, n, by rw [d1]; exact d2 _ q2, x⟩
  | range => obtain ⟨z, t, u, v, q⟩ := r; exact ⟨z, t, u, v, e _ q⟩
  | vals => exact e _ r
  | itms => exact e _ r
  | exc => obtain ⟨o, q, x⟩ := r; exact ⟨o, e _ q, x⟩
  | script => obtain ⟨vs, n, q, x⟩ := r; exact ⟨vs, n, e _ q, x⟩

set_option tactic.hygienic false in
theorem ResAt.agree {h h' : Heap} {b : Addr} {r : Res} (x : ResAt h b r) (e : ∀ ob, h.get? b = some ob → h'.get? b = some ob) : ResAt h' b r := by
  cases r with
  | ns m => obtain ⟨o, es, ep, q, y⟩ := x; exact ⟨o, es, ep, e _ q, y⟩
  | cell v => obtain ⟨o, q, y⟩ := x; exact ⟨o, e _ q, y⟩
  | obj o => exact e _ x
set_option tactic.hygienic false in
theorem ResAt.there {h : Heap} {b : Addr} {r : Res} (x : ResAt h b r) : ∃ ob, h.get? b = some ob := by
  cases r with
  | ns m => obtain ⟨o, es, ep, q, y⟩ := x; exact ⟨o, q⟩
  | cell v => obtain ⟨o, q, y⟩ := x; exact ⟨o, q⟩
  | obj o => exact ⟨_, x⟩

section
variable {c : Cx} {R R' : RR} {H : AHeap} {h h' : Heap}

set_option tactic.hygienic false in
theorem St1.weaken (S : St1 c R' H h) (k : ∀ b r, R b = some r → R' b = some r) : St1 c R H h := by
  obtain ⟨s1, s2, s3, D, s4⟩ := S
  have nn : ∀ a, R' a = none → R a = none := fun a e => by
    cases q : R a with
    | none => rfl
    | some r => rw [k a r q] at e; cases e
  exact ⟨s1, s2, fun b r e => s3 b r (k b r e), D, ⟨s4.rep, fun a o e => ⟨(s4.above a o e).1, nn _ (s4.above a o e).2⟩,
    fun a cl es e => ⟨(s4.dict a cl es e).1, nn _ (s4.dict a cl es e).2.1, (s4.dict a cl es e).2.2⟩, s4.inj⟩⟩

set_option tactic.hygienic false in
theorem St1.keeps (S : St1 c R H h) (k : ∀ b o, h.get? b = some o → h'.get? b = some o) (hs : h.objs.size ≤ h'.objs.size) : St1 c R H h' := by
  obtain ⟨s1, s2, s3, D, s4⟩ := S
  exact ⟨fun b o e => k b o (s1 b o e), Nat.le_trans s2 hs, fun b r e => ⟨(s3 b r e).1, (s3 b r e).2.agree fun _ => k _ _⟩, D,
    ⟨fun a o e => (s4.rep a o e).agree (fun _ => k _ _) fun _ _ _ => ⟨rfl, fun _ => k _ _⟩, s4.above, s4.dict, s4.inj⟩⟩
theorem St1.push (S : St1 c R H h) (o : Obj) : St1 c R H (h.push o) := S.keeps (fun _ _ e => Heap.get?_push_of_some o e) (by rw [Heap.size_push]; omega)

set_option tactic.hygienic false in
theorem St1.freeH (S : St1 c R H h) {x : Addr} (hx : h.objs.size ≤ x) : H x = none := by
  cases q : H x with
  | none => rfl
  | some o =>
    obtain ⟨D, s4⟩ := S.rep
    obtain ⟨ob, e⟩ := (s4.rep _ _ q).there
    have := lts e; have := leN hx; omega
set_option tactic.hygienic false in
theorem St1.freeR (S : St1 c R H h) {x : Addr} (hx : h.objs.size ≤ x) : R x = none := by
  cases q : R x with
  | none => rfl
  | some o =>
    obtain ⟨ob, e⟩ := (S.res _ _ q).2.there
    have := lts e; have := leN hx; omega

set_option tactic.hygienic false in
theorem St1.newObj (S : St1 c R H h) {x : Addr} {o : AObj} (hx : h.objs.size ≤ x) (k : ∀ b ob, h.get? b = some ob → h'.get? b = some ob) (hs : h.objs.size ≤ h'.objs.size)
    (hni : ∀ cl es, o ≠ .inst cl es) (ho : ∀ D, ORep c h' D x o) : H x = none ∧ St1 c R (up H x o) h' := by
  refine ⟨S.freeH hx, ?_⟩
  have hRx := S.freeR hx
  have hb := S.size
  have S' := S.keeps k hs
  obtain ⟨s1, s2, s3, D, s4⟩ := S'
  have hD : ∀ a cl es, H a = some (.inst cl es) → D a ≠ x := fun a cl es e q => by
    obtain ⟨D0, s40⟩ := S.rep
    obtain ⟨q1, ents, n, q2, _⟩ := s4.rep a _ e
    obtain ⟨p1, ents', n', p2, _⟩ := s40.rep a _ e
    have := k _ _ p1
    rw [q1] at this
    have hd : D a = D0 a := by injection this with this; injection this with _ z; exact Option.some.inj z
    have hlt := lts p2; have hx' := leN hx
    rw [← hd, q] at hlt; omega
  refine ⟨s1, s2, s3, D, ⟨fun a ao e => ?_, fun a ao e => ?_, fun a cl es e => ?_, fun a b cl es cl' es' e e' => ?_⟩⟩
  · by_cases q : a = x
    · subst q; rw [up_same] at e; cases e; exact ho D
    · rw [up_other q] at e; exact s4.rep a ao e
  · by_cases q : a = x
    · subst q; exact ⟨abv (by have := leN hx; omega), hRx⟩
    · rw [up_other q] at e; exact s4.above a ao e
  · by_cases q : a = x
    · subst q; rw [up_same] at e; cases e; exact absurd rfl (hni cl es)
    · rw [up_other q] at e
      obtain ⟨y1, y2, y3⟩ := s4.dict a cl es e
      exact ⟨y1, y2, by rw [up_other (hD a cl es e)]; exact y3⟩
  · by_cases q : a = x
    · subst q; rw [up_same] at e; cases e; exact absurd rfl (hni cl es)
    · by_cases q' : b = x
      · subst q'; rw [up_same] at e'; cases e'; exact absurd rfl (hni cl' es')
      · rw [up_other q] at e; rw [up_other q'] at e'; exact s4.inj a b cl es cl' es' e e'

set_option tactic.hygienic false in
theorem St1.newRes (S : St1 c R H h) {x : Addr} {r : Res} (hx : h.objs.size ≤ x) (k : ∀ b ob, h.get? b = some ob → h'.get? b = some ob) (hs : h.objs.size ≤ h'.objs.size)
    (hr : ResAt h' x r) : R x = none ∧ H x = none ∧ St1 c (rup R x r) H h' := by
  refine ⟨S.freeR hx, S.freeH hx, ?_⟩
  have hHx := S.freeH hx
  have hb := S.size
  obtain ⟨D0, s40⟩ := S.rep
  have S' := S.keeps k hs
  obtain ⟨s1, s2, s3, D, s4⟩ := S'
  have hD : ∀ a cl es, H a = some (.inst cl es) → D a ≠ x := fun a cl es e q => by
    obtain ⟨q1, ents, n, q2, _⟩ := s4.rep a _ e
    obtain ⟨p1, ents', n', p2, _⟩ := s40.rep a _ e
    have := k _ _ p1
    rw [q1] at this
    have hd : D a = D0 a := by injection this with this; injection this with _ z; exact Option.some.inj z
    have hlt := lts p2; have hx' := leN hx
    rw [← hd, q] at hlt; omega
  refine ⟨s1, s2, fun b rr e => ?_, D, ⟨s4.rep, fun a ao e => ?_, fun a cl es e => ?_, s4.inj⟩⟩
  · by_cases q : b = x
    · subst q; rw [rup_same] at e; cases e; exact ⟨by omega, hr⟩
    · rw [rup_other q] at e; exact s3 b rr e
  · obtain ⟨y1, y2⟩ := s4.above a ao e
    exact ⟨y1, by rw [rup_other (fun q => by rw [q, hHx] at e; cases e)]; exact y2⟩
  · obtain ⟨y1, y2, y3⟩ := s4.dict a cl es e
    exact ⟨y1, by rw [rup_other (hD a cl es e)]; exact y2, y3⟩

set_option tactic.hygienic false in
theorem St1.setRes (S : St1 c R H h) {x : Addr} {r r' : Res} (hx : R x = some r) (hs : Heap.SameBut x h h') (hr : ResAt h' x r') : St1 c (rup R x r') H h' := by
  obtain ⟨s1, s2, s3, D, s4⟩ := S
  have bx : c.base.get? x = none := by
    cases q : c.base.get? x with
    | none => rfl
    | some o => have := lts q; have := leN (s3 x r hx).1; omega
  refine ⟨fun b o e => ?_, by rw [hs.1]; exact s2, fun b rr e => ?_, D, ⟨fun a ao e => ?_, fun a ao e => ?_, fun a cl es e => ?_, s4.inj⟩⟩
  · rw [hs.2 b (fun q => by rw [q, bx] at e; cases e)]; exact s1 b o e
  · by_cases q : b = x
    · subst q; rw [rup_same] at e; cases e; exact ⟨(s3 b r hx).1, hr⟩
    · rw [rup_other q] at e; exact ⟨(s3 b rr e).1, (s3 b rr e).2.agree fun ob z => by rw [hs.2 b q]; exact z⟩
  · refine (s4.rep a ao e).agree (fun ob z => ?_) fun cl es eo => ⟨rfl, fun ob z => ?_⟩
    · rw [hs.2 a (fun q => by have := (s4.above a ao e).2; rw [q, hx] at this; cases this)]; exact z
    · subst eo; rw [hs.2 _ (fun q => by have := (s4.dict a cl es e).2.1; rw [q, hx] at this; cases this)]; exact z
  · obtain ⟨y1, y2⟩ := s4.above a ao e
    exact ⟨y1, by rw [rup_other (fun q => by rw [q, hx] at y2; cases y2)]; exact y2⟩
  · obtain ⟨y1, y2, y3⟩ := s4.dict a cl es e
    exact ⟨y1, by rw [rup_other (fun q => by rw [q, hx] at y2; cases y2)]; exact y2, y3⟩

set_option tactic.hygienic false in
theorem St1.setObj (S : St1 c R H h) {x : Addr} {o o' : AObj} (hx : H x = some o) (hni' : ∀ cl es, o' ≠ .inst cl es) (hs : Heap.SameBut x h h')
    (ho : ∀ D, ORep c h' D x o') (hne : o.isX = false := by rfl) : St1 c R (up H x o') h' := by
  obtain ⟨s1, s2, s3, D, s4⟩ := S
  have bx : c.base.get? x = none := get_none ((s4.above x _ hx).1.2 hne)
  refine ⟨fun b o e => ?_, by rw [hs.1]; exact s2, fun b rr e => ?_, D, ⟨fun a ao e => ?_, fun a ao e => ?_, fun a cl es e => ?_, fun a b cl es cl' es' e e' => ?_⟩⟩
  · rw [hs.2 b (fun q => by rw [q, bx] at e; cases e)]; exact s1 b o e
  · exact ⟨(s3 b rr e).1, (s3 b rr e).2.agree fun ob z => by rw [hs.2 b (fun q => by have := (s4.above x _ hx).2; rw [q, this] at e; cases e)]; exact z⟩
  · by_cases q : a = x
    · subst q; rw [up_same] at e; cases e; exact ho D
    · rw [up_other q] at e
      refine (s4.rep a ao e).agree (fun ob z => by rw [hs.2 a q]; exact z) fun cl es eo => ⟨rfl, fun ob z => ?_⟩
      subst eo; rw [hs.2 _ (fun q => by have := (s4.dict a cl es e).2.2; rw [q, hx] at this; cases this)]; exact z
  · by_cases q : a = x
    · subst q; exact ⟨abv ((s4.above a _ hx).1.2 hne), (s4.above a _ hx).2⟩
    · rw [up_other q] at e; exact s4.above a ao e
  · by_cases q : a = x
    · subst q; rw [up_same] at e; cases e; exact absurd rfl (hni' cl es)
    · rw [up_other q] at e
      obtain ⟨y1, y2, y3⟩ := s4.dict a cl es e
      exact ⟨y1, y2, by rw [up_other (fun q => by rw [q, hx] at y3; cases y3)]; exact y3⟩
  · by_cases q : a = x
    · subst q; rw [up_same] at e; cases e; exact absurd rfl (hni' cl es)
    · by_cases q' : b = x
      · subst q'; rw [up_same] at e'; cases e'; exact absurd rfl (hni' cl' es')
      · rw [up_other q] at e; rw [up_other q'] at e'; exact s4.inj a b cl es cl' es' e e'

set_option tactic.hygienic false in
theorem St1.setAttr (S : St1 c R H h) {x : Addr} {cl : String} {es : List (String × AV)} (hx : H x = some (.inst cl es)) :
    ∃ d ents n, h.get? x = some (instObj (c.ca cl) d) ∧ h.get? d = some (dictOf ents n) ∧ attrsAre es ents ∧ (es.map (·.1)).Nodup ∧
      ∀ h' ents' n' es', Heap.SameBut d h h' → h'.get? d = some (dictOf ents' n') → attrsAre es' ents' → (es'.map (·.1)).Nodup → St1 c R (up H x (.inst cl es')) h' := by
  obtain ⟨s1, s2, s3, D, s4⟩ := S
  obtain ⟨e1, ents, n, e2, e3, e4⟩ := s4.rep x _ hx
  refine ⟨D x, ents, n, e1, e2, e3, e4, fun h' ents' n' es' hs hd ha hnd => ?_⟩
  obtain ⟨d1, d2, d3⟩ := s4.dict x cl es hx
  have bx : c.base.get? (D x) = none := by
    cases q : c.base.get? (D x) with
    | none => rfl
    | some o => have := lts q; have := leN d1; omega
  refine ⟨fun b o e => ?_, by rw [hs.1]; exact s2, fun b rr e => ?_, D, ⟨fun a ao e => ?_, fun a ao e => ?_, fun a cl' es'' e => ?_, fun a b cla esa clb esb e e' => ?_⟩⟩
  · rw [hs.2 b (fun q => by rw [q, bx] at e; cases e)]; exact s1 b o e
  · exact ⟨(s3 b rr e).1, (s3 b rr e).2.agree fun ob z => by rw [hs.2 b (fun q => by rw [q, d2] at e; cases e)]; exact z⟩
  · by_cases q : a = x
    · subst q; rw [up_same] at e; cases e
      exact ⟨by rw [hs.2 a (fun q => by rw [← q, hx] at d3; cases d3)]; exact e1, ents', n', hd, ha, hnd⟩
    · rw [up_other q] at e
      refine (s4.rep a ao e).agree (fun ob z => by rw [hs.2 a (fun q => by rw [q, d3] at e; cases e)]; exact z) fun cl' es'' eo => ⟨rfl, fun ob z => ?_⟩
      subst eo; rw [hs.2 _ (fun q' => q (s4.inj a x _ _ _ _ e hx q'))]; exact z
  · by_cases q : a = x
    · subst q; exact ⟨abv ((s4.above a _ hx).1.2 rfl), (s4.above a _ hx).2⟩
    · rw [up_other q] at e; exact s4.above a ao e
  · by_cases q : a = x
    · subst q; exact ⟨d1, d2, by rw [up_other (fun q => by rw [q, hx] at d3; cases d3)]; exact d3⟩
    · rw [up_other q] at e
      obtain ⟨y1, y2, y3⟩ := s4.dict a cl' es'' e
      exact ⟨y1, y2, by rw [up_other (fun q => by rw [q, hx] at y3; cases y3)]; exact y3⟩
  · have t : ∀ z cz ez, up H x (.inst cl es') z = some (.inst cz ez) → ∃ c0 e0, H z = some (.inst c0 e0) := fun z cz ez ez' => by
      by_cases q : z = x
      · subst q; exact ⟨_, _, hx⟩
      · rw [up_other q] at ez'; exact ⟨_, _, ez'⟩
    obtain ⟨_, _, t1⟩ := t a _ _ e
    obtain ⟨_, _, t2⟩ := t b _ _ e'
    exact s4.inj a b _ _ _ _ t1 t2

set_option tactic.hygienic false in
theorem St1.newInst (S : St1 c R H h) {cl : String} : H (h.objs.size + 1) = none ∧ St1 c R (up H (h.objs.size + 1) (.inst cl [])) ((h.push emptyDict).push (instObj (c.ca cl) h.objs.size)) := by
  refine ⟨S.freeH (by omega), ?_⟩
  have hfd := S.freeH (x := h.objs.size) (by omega)
  have hfi := S.freeH (x := h.objs.size + 1) (by omega)
  have hrd := S.freeR (x := h.objs.size) (by omega)
  have hri := S.freeR (x := h.objs.size + 1) (by omega)
  have k : ∀ b o, h.get? b = some o → ((h.push emptyDict).push (instObj (c.ca cl) h.objs.size)).get? b = some o := fun b o e => Heap.get?_push_of_some _ (Heap.get?_push_of_some _ e)
  obtain ⟨s1, s2, s3, D, s4⟩ := S
  have hDlt : ∀ a cl es, H a = some (.inst cl es) → @LT.lt Nat _ (D a) h.objs.size := fun a cl es e => by
    obtain ⟨_, _, _, q, _⟩ := s4.rep a _ e; exact lts q
  refine ⟨fun b o e => k b o (s1 b o e), by rw [Heap.size_push, Heap.size_push]; omega, fun b r e => ⟨(s3 b r e).1, (s3 b r e).2.agree fun _ => k _ _⟩,
    fun a => if a = h.objs.size + 1 then h.objs.size else D a, ⟨fun a ao e => ?_, fun a ao e => ?_, fun a cl' es e => ?_, fun a b cla esa clb esb e e' hq => ?_⟩⟩
  · by_cases q : a = h.objs.size + 1
    · subst q; rw [up_same] at e; cases e
      refine ⟨?_, [], 0, ?_, trivial, by simp⟩
      · simp only [if_true]
        have := Heap.get?_push_size (h.push emptyDict) (o := instObj (c.ca cl) h.objs.size) rfl
        rwa [Heap.size_push] at this
      · simp only [if_true]
        exact Heap.get?_push_of_some _ (Heap.get?_push_size h rfl)
    · rw [up_other q] at e
      exact (s4.rep a ao e).agree (fun _ => k _ _) fun cl' es eo => ⟨by simp [q], fun _ => k _ _⟩
  · by_cases q : a = h.objs.size + 1
    · subst q; exact ⟨abv (by omega), hri⟩
    · rw [up_other q] at e; exact s4.above a ao e
  · by_cases q : a = h.objs.size + 1
    · subst q
      simp only [if_true]
      exact ⟨s2, hrd, by rw [up_other (Nat.ne_of_lt (Nat.lt_succ_self _))]; exact hfd⟩
    · rw [up_other q] at e
      simp only [if_neg q]
      obtain ⟨y1, y2, y3⟩ := s4.dict a cl' es e
      have := hDlt a cl' es e
      exact ⟨y1, y2, by rw [up_other (Nat.ne_of_lt (Nat.lt_succ_of_lt this))]; exact y3⟩
  · by_cases q : a = h.objs.size + 1
    · by_cases q' : b = h.objs.size + 1
      · rw [q, q']
      · rw [up_other q'] at e'
        simp only [q, q', if_true, if_false] at hq
        exact absurd hq (Nat.ne_of_gt (hDlt b _ _ e'))
    · rw [up_other q] at e
      by_cases q' : b = h.objs.size + 1
      · simp only [q, q', if_true, if_false] at hq
        exact absurd hq (Nat.ne_of_lt (hDlt a _ _ e))
      · rw [up_other q'] at e'
        simp only [q, q', if_false] at hq
        exact s4.inj a b _ _ _ _ e e' hq
end

theorem Sm.refl (s : Shared) : Sm s s := ⟨s.heap, s.toks, rfl⟩
theorem Sm.mk' (s : Shared) (h : Heap) (tk : Nat) : Sm s { s with heap := h, toks := tk } := ⟨h, tk, rfl⟩
set_option tactic.hygienic false in
theorem Sm.trans {s s' s'' : Shared} (x : Sm s s') (y : Sm s' s'') : Sm s s'' := by
  obtain ⟨h, t, rfl⟩ := x
  obtain ⟨h', t', rfl⟩ := y
  exact ⟨h', t', rfl⟩


noncomputable def KB (P : Role → Prop) (o o' : Addr → Option Role) (H H' : AHeap) : Prop := ∀ a r x, P r → o a = some r → H a = some x → x.isB = false → o' a = some r ∧ H' a = some x
section
variable {P : Role → Prop} {o o' : Addr → Option Role} {H H' : AHeap} (k : KB P o o' H H') (hd : P .data)
include k hd
theorem pairsAV.congr : ∀ {ts : List Addr} {l : List (Str × Int)}, pairsAV o H ts l → pairsAV o' H' ts l
  | [], [], _ => trivial
  | t :: _, _ :: _, ⟨h1, h2, h3⟩ => ⟨(k t _ _ hd h1 h2 rfl).1, (k t _ _ hd h1 h2 rfl).2, h3.congr⟩
  | [], _ :: _, h => h.elim
  | _ :: _, [], h => h.elim
set_option tactic.hygienic false in
theorem PairsAt.congr {p : Addr} {l : List (Str × Int)} (h : PairsAt o H p l) : PairsAt o' H' p l := by
  obtain ⟨h1, ts, h2, h3⟩ := h
  exact ⟨(k p _ _ hd h1 h2 rfl).1, ts, (k p _ _ hd h1 h2 rfl).2, h3.congr k hd⟩
set_option tactic.hygienic false in
theorem IsPact.congr {i : Nat} (hp : P (.pact i) ∧ P (.inside i)) {a : Addr} {q : Pc} (h : IsPact o H i a q) : IsPact o' H' i a q := by
  obtain ⟨h1, pa, ga, ne, ins, ep, h2, h3, h4, h5, h6, h7, h8⟩ := h
  exact ⟨(k a _ _ hp.1 h1 h2 rfl).1, pa, ga, ne, ins, ep, (k a _ _ hp.1 h1 h2 rfl).2, h3.congr k hd, h4.congr k hd, (k ne _ _ hd h5 h6 rfl).1, (k ne _ _ hd h5 h6 rfl).2, (k ins _ _ hp.2 h7 h8 rfl).1, (k ins _ _ hp.2 h7 h8 rfl).2⟩
theorem pactsAt.congr : ∀ {i : Nat} {as : List Addr} {qs : List Pc}, (∀ j, i ≤ j → P (.pact j) ∧ P (.inside j)) → pactsAt o H i as qs → pactsAt o' H' i as qs
  | _, [], [], _, _ => trivial
  | i, _ :: _, _ :: _, hp, ⟨h1, h2⟩ => ⟨h1.congr k hd (hp i (Nat.le_refl _)), h2.congr fun j hj => hp j (Nat.le_of_succ_le hj)⟩
  | _, [], _ :: _, _, h => h.elim
  | _, _ :: _, [], _, h => h.elim
end
set_option tactic.hygienic false in
theorem IsBook.congr {o o' : Addr → Option Role} {H H' : AHeap} (k : KB (fun _ => True) o o' H H') {b f s p : Addr} {as : List Addr} {B : Bk} (h : IsBook o H b f s p as B) : IsBook o' H' b f s p as B := by
  obtain ⟨h1, h2, h3, h4, h5, ⟨e1, h6⟩, ⟨e2, h7⟩, ⟨e3, h8⟩, h9⟩ := h
  exact ⟨(k b _ _ trivial h1 h5 rfl).1, (k f _ _ trivial h2 h6 rfl).1, (k s _ _ trivial h3 h7 rfl).1, (k p _ _ trivial h4 h8 rfl).1, (k b _ _ trivial h1 h5 rfl).2, ⟨e1, (k f _ _ trivial h2 h6 rfl).2⟩, ⟨e2, (k s _ _ trivial h3 h7 rfl).2⟩, ⟨e3, (k p _ _ trivial h4 h8 rfl).2⟩, h9.congr k trivial fun _ _ => ⟨trivial, trivial⟩⟩

theorem ownB_some {o : Addr → Option (Addr × Role)} {b a : Addr} {r : Role} : ownB o b a = some r ↔ o a = some (b, r) := by
  unfold ownB
  split
  · rename_i c r' e
    rw [e]
    by_cases q : c = b <;> simp [q]
  · rename_i e; rw [e]; simp
section
variable {H H₁ : AHeap}
set_option tactic.hygienic false in
theorem Real.get (r : Real H H₁) {a : Addr} {x : AObj} (e : H a = some x) (hb : x.isB = false) : H₁ a = some x := by
  obtain ⟨_, o, h⟩ := r
  rcases h a x e with ⟨_, h, _⟩ | ⟨B, _, _, _, _, rfl, _⟩
  · exact h
  · cases hb
set_option tactic.hygienic false in
theorem Real.none (r : Real H H₁) {a : Addr} (e : H₁ a = Option.none) : H a = Option.none := by
  obtain ⟨_, o, h⟩ := r
  cases q : H a with
  | none => rfl
  | some x =>
    rcases h a x q with ⟨_, h, _⟩ | ⟨B, f, s, p, as, rfl, h⟩
    · rw [e] at h; cases h
    · have := h.hb; rw [e] at this; cases this
set_option tactic.hygienic false in
theorem Real.put (r : Real H H₁) {x : Addr} {y : AObj} (hy : y.isB = false) (hx : H₁ x = Option.none ∨ ∃ z, H x = some z ∧ z.isB = false) : Real (up H x y) (up H₁ x y) := by
  obtain ⟨hr, o, h⟩ := r
  have hox : (∃ z, H x = some z ∧ z.isB = false) → o x = Option.none := by
    rintro ⟨z, e, hz⟩
    rcases h x z e with ⟨_, _, q⟩ | ⟨B, _, _, _, _, rfl, _⟩
    · exact q
    · cases hz
  refine ⟨fun a z e => ?_, fun a => if a = x then Option.none else o a, fun a z e => ?_⟩
  · by_cases q : a = x
    · subst q; rw [up_same] at e; cases e; exact hy
    · rw [up_other q] at e; exact hr a z e
  by_cases q : a = x
  · subst q; rw [up_same] at e; cases e
    exact .inl ⟨hy, up_same, if_pos rfl⟩
  · rw [up_other q] at e
    rcases h a z e with ⟨h1, h2, h3⟩ | ⟨B, f, s, p, as, rfl, h1⟩
    · exact .inl ⟨h1, by rw [up_other q]; exact h2, (if_neg q).trans h3⟩
    · refine .inr ⟨B, f, s, p, as, rfl, h1.congr fun c r' z _ hr hc _ => ?_⟩
      have hr := ownB_some.mp hr
      have hcx : c ≠ x := by
        rintro rfl
        rcases hx with hx | hx
        · rw [hx] at hc; cases hc
        · rw [hox hx] at hr; cases hr
      exact ⟨ownB_some.mpr ((if_neg hcx).trans hr), by rw [up_other hcx]; exact hc⟩
set_option tactic.hygienic false in
theorem Real.less {H' : AHeap} (r : Real H H₁) (k : ∀ a x, H' a = some x → H a = some x) : Real H' H₁ := by
  obtain ⟨hr, o, h⟩ := r
  exact ⟨hr, o, fun a x e => h a x (k a x e)⟩
theorem Real.raw (hr : ∀ a x, H a = some x → x.isB = false) : Real H H := ⟨hr, fun _ => Option.none, fun a x e => .inl ⟨hr a x e, e, rfl⟩⟩

set_option tactic.hygienic false in
theorem Real.unpack (r : Real H H₁) {b : Addr} {B : Bk} (hb : H b = some (.book B)) : ∃ H₂ o f s p as, Real H₂ H₁ ∧ IsBook o H₂ b f s p as B ∧ ∀ a x, H a = some x → a ≠ b → H₂ a = some x ∧ o a = Option.none := by
  obtain ⟨hr, o, h⟩ := r
  rcases h b _ hb with ⟨h1, _⟩ | ⟨B', f, s, p, as, e, h1⟩
  · cases h1
  cases e
  have key : ∀ a x, H a = some x → a ≠ b → ownB o b a = Option.none := fun a x e q => by
    cases z : ownB o b a with
    | none => rfl
    | some r =>
      have z := ownB_some.mp z
      rcases h a x e with ⟨_, _, k⟩ | ⟨B', f', s', p', as', rfl, k⟩
      · rw [k] at z; cases z
      · have := ownB_some.mp k.ob; rw [this] at z; cases z; exact absurd rfl q
  have hbs := h1.ob
  refine ⟨fun a => match ownB o b a with | some _ => H₁ a | Option.none => H a, ownB o b, f, s, p, as, ⟨hr, fun a => match ownB o b a with | some _ => Option.none | Option.none => o a, fun a x e => ?_⟩, h1.congr fun a r x _ hr hx _ => ⟨hr, by simp only [hr]; exact hx⟩, fun a x e q => ?_⟩
  · cases z : ownB o b a with
    | some r => simp only [z] at e; exact .inl ⟨hr a x e, e, by simp only [z]⟩
    | none =>
      simp only [z] at e
      rcases h a x e with ⟨k1, k2, k3⟩ | ⟨B', f', s', p', as', rfl, k⟩
      · exact .inl ⟨k1, k2, by simp only [z]; exact k3⟩
      · refine .inr ⟨B', f', s', p', as', rfl, k.congr fun c r x _ hc hx _ => ⟨?_, hx⟩⟩
        have hc := ownB_some.mp hc
        have hab : a ≠ b := by rintro rfl; rw [hbs] at z; cases z
        have hn : ownB o b c = Option.none := by
          cases w : ownB o b c with
          | none => rfl
          | some r' => have w := ownB_some.mp w; rw [hc] at w; cases w; exact absurd rfl hab
        exact ownB_some.mpr (by simp only [hn]; exact hc)
  · have := key a x e q
    exact ⟨by simp only [this]; exact e, this⟩

set_option tactic.hygienic false in
theorem Real.pack {H₂ : AHeap} {o : Addr → Option Role} {b f s p : Addr} {as : List Addr} {B : Bk} (r : Real H₂ H₁) (hb : IsBook o H₂ b f s p as B)
    (k : ∀ a x, H a = some x → (a = b ∧ x = .book B) ∨ (a ≠ b ∧ o a = Option.none ∧ H₂ a = some x)) : Real H H₁ := by
  obtain ⟨hr, oA, h⟩ := r
  refine ⟨hr, fun a => match oA a with | some z => some z | Option.none => (o a).map fun r => (b, r), fun a x e => ?_⟩
  rcases k a x e with ⟨rfl, rfl⟩ | ⟨h1, h2, h3⟩
  · refine .inr ⟨B, f, s, p, as, rfl, hb.congr fun c r x _ hc hx hn => ?_⟩
    rcases h c x hx with ⟨_, k1, k2⟩ | ⟨B', _, _, _, _, rfl, _⟩
    · exact ⟨ownB_some.mpr (by simp only [k2, hc]; rfl), k1⟩
    · cases hn
  · rcases h a x h3 with ⟨k1, k2, k3⟩ | ⟨B', f', s', p', as', rfl, k1⟩
    · exact .inl ⟨k1, k2, by simp only [k3, h2]; rfl⟩
    · refine .inr ⟨B', f', s', p', as', rfl, k1.congr fun c r x _ hc hx _ => ⟨?_, hx⟩⟩
      have hc := ownB_some.mp hc
      exact ownB_some.mpr (by simp only [hc])
end

section
variable {c : Cx} {R R' : RR} {H : AHeap} {h h' : Heap}
theorem St.stays (S : St c R H h) : c.base.StaysIn h := let ⟨_, s, _⟩ := S; s.stays
theorem St.size (S : St c R H h) : c.base.objs.size ≤ h.objs.size := let ⟨_, s, _⟩ := S; s.size
theorem St.res (S : St c R H h) : ∀ b r, R b = some r → c.base.objs.size ≤ b ∧ ResAt h b r := let ⟨_, s, _⟩ := S; s.res
set_option tactic.hygienic false in
theorem St.orep (S : St c R H h) {a : Addr} {x : AObj} (e : H a = some x) (hb : x.isB = false := by rfl) : (∃ D, ORep c h D a x) ∧ Abv c a x ∧ R a = none := by
  obtain ⟨H₁, s, r⟩ := S
  obtain ⟨D, k⟩ := s.rep
  exact ⟨⟨D, k.rep a x (r.get e hb)⟩, k.above a x (r.get e hb)⟩
set_option tactic.hygienic false in
theorem St.there (S : St c R H h) {a : Addr} {x : AObj} (e : H a = some x) : ∃ ob, h.get? a = some ob := by
  obtain ⟨H₁, s, r⟩ := S
  obtain ⟨D, k⟩ := s.rep
  cases q : H₁ a with
  | none => rw [r.none q] at e; cases e
  | some y => exact (k.rep a y q).there
theorem St.weaken (S : St c R' H h) (k : ∀ b r, R b = some r → R' b = some r) : St c R H h := let ⟨H₁, s, r⟩ := S; ⟨H₁, s.weaken k, r⟩
theorem St.keeps (S : St c R H h) (k : ∀ b o, h.get? b = some o → h'.get? b = some o) (hs : h.objs.size ≤ h'.objs.size) : St c R H h' := let ⟨H₁, s, r⟩ := S; ⟨H₁, s.keeps k hs, r⟩
theorem St.push (S : St c R H h) (o : Obj) : St c R H (h.push o) := let ⟨H₁, s, r⟩ := S; ⟨H₁, s.push o, r⟩
theorem St.freeR (S : St c R H h) {x : Addr} (hx : h.objs.size ≤ x) : R x = none := let ⟨_, s, _⟩ := S; s.freeR hx
set_option tactic.hygienic false in
theorem St.newObj (S : St c R H h) {x : Addr} {o : AObj} (hx : h.objs.size ≤ x) (k : ∀ b ob, h.get? b = some ob → h'.get? b = some ob) (hs : h.objs.size ≤ h'.objs.size)
    (hni : ∀ cl es, o ≠ .inst cl es) (ho : ∀ D, ORep c h' D x o) (hb : o.isB = false := by rfl) : H x = none ∧ St c R (up H x o) h' := by
  obtain ⟨H₁, s, r⟩ := S
  obtain ⟨e, s'⟩ := s.newObj hx k hs hni ho
  exact ⟨r.none e, _, s', r.put hb (.inl e)⟩
set_option tactic.hygienic false in
theorem St.newRes (S : St c R H h) {x : Addr} {r : Res} (hx : h.objs.size ≤ x) (k : ∀ b ob, h.get? b = some ob → h'.get? b = some ob) (hs : h.objs.size ≤ h'.objs.size)
    (hr : ResAt h' x r) : R x = none ∧ H x = none ∧ St c (rup R x r) H h' := by
  obtain ⟨H₁, s, rl⟩ := S
  obtain ⟨e, e', s'⟩ := s.newRes hx k hs hr
  exact ⟨e, rl.none e', _, s', rl⟩
theorem St.setRes (S : St c R H h) {x : Addr} {r r' : Res} (hx : R x = some r) (hs : Heap.SameBut x h h') (hr : ResAt h' x r') : St c (rup R x r') H h' := let ⟨H₁, s, rl⟩ := S; ⟨H₁, s.setRes hx hs hr, rl⟩
set_option tactic.hygienic false in
theorem St.setObj (S : St c R H h) {x : Addr} {o o' : AObj} (hx : H x = some o) (hni' : ∀ cl es, o' ≠ .inst cl es) (hs : Heap.SameBut x h h')
    (ho : ∀ D, ORep c h' D x o') (hne : o.isX = false := by rfl) (hb : o.isB = false := by rfl) (hb' : o'.isB = false := by rfl) : St c R (up H x o') h' := by
  obtain ⟨H₁, s, r⟩ := S
  exact ⟨_, s.setObj (r.get hx hb) hni' hs ho hne, r.put hb' (.inr ⟨o, hx, hb⟩)⟩
set_option tactic.hygienic false in
theorem St.setAttr (S : St c R H h) {x : Addr} {cl : String} {es : List (String × AV)} (hx : H x = some (.inst cl es)) :
    ∃ d ents n, h.get? x = some (instObj (c.ca cl) d) ∧ h.get? d = some (dictOf ents n) ∧ attrsAre es ents ∧ (es.map (·.1)).Nodup ∧
      ∀ h' ents' n' es', Heap.SameBut d h h' → h'.get? d = some (dictOf ents' n') → attrsAre es' ents' → (es'.map (·.1)).Nodup → St c R (up H x (.inst cl es')) h' := by
  obtain ⟨H₁, s, r⟩ := S
  obtain ⟨d, ents, n, a1, a2, a3, a4, a5⟩ := s.setAttr (r.get hx rfl)
  exact ⟨d, ents, n, a1, a2, a3, a4, fun h' e' n' es' q1 q2 q3 q4 => ⟨_, a5 h' e' n' es' q1 q2 q3 q4, r.put rfl (.inr ⟨_, hx, rfl⟩)⟩⟩
set_option tactic.hygienic false in
theorem St.newInst (S : St c R H h) {cl : String} : H (h.objs.size + 1) = none ∧ St c R (up H (h.objs.size + 1) (.inst cl [])) ((h.push emptyDict).push (instObj (c.ca cl) h.objs.size)) := by
  obtain ⟨H₁, s, r⟩ := S
  obtain ⟨e, s'⟩ := s.newInst (cl := cl)
  exact ⟨r.none e, _, s', r.put rfl (.inl e)⟩
set_option tactic.hygienic false in
theorem St.bookAttr (S : St c R H h) {x : Addr} {B : Bk} (hx : H x = some (.book B)) : ∃ f s p, ∃ d ents n, h.get? x = some (instObj (c.ca "Book") d) ∧ h.get? d = some (dictOf ents n) ∧ attrsAre [("day", .int B.day), ("free", .ref f), ("aside", .ref s), ("pacts", .ref p)] ents := by
  obtain ⟨H₁, s, r⟩ := S
  obtain ⟨_, o, k⟩ := r
  rcases k x _ hx with ⟨k, _⟩ | ⟨B', f, s', p, as, e, k⟩
  · cases k
  cases e
  obtain ⟨d, ents, n, a1, a2, a3, _⟩ := s.setAttr k.hb
  exact ⟨f, s', p, d, ents, n, a1, a2, a3⟩
end

end Mine

end
section
open PySem PySem.W PyProof.Rows PySem.Spec PySem.SeqAt PySem.Calls
namespace Mine

structure Cx.Ok (c : Cx) (mg mb : Str → Option Value) : Prop where
  kin : c.K.In c.base
  g : c.base.Ns mainGlobals mg
  b : c.base.Ns builtinsNs mb
  nolimit : c.base.NoLimit
  builtins : ∀ x : Str, x ≠ "__name__" → mb x = bootBuiltins x
  seer : c.base.NoSeer
  tree : c.prog.given.tree = none
  top : ∃ p loose, TopRead p loose mg mb c.base

structure Ev (g : Gx) (A : Around) (R : RR) (e : Env) (l : List Env) : Prop where
  aok : AOk 4 g.n g.md A (e :: l)
  stk : Stk R (e :: l)

inductive TQi (c : Cx) (R : RR) (s₀ : Shared) (Q : AV → AHeap → Prop) (v : Value) (s' : Shared) : Prop
  | mk (av : AV) (H' : AHeap) (hv : VR av v) (S : St c R H' s'.heap) (m : Sm s₀ s') (q : Q av H') : TQi c R s₀ Q v s'
noncomputable def TQ (g : Gx) (R : RR) (s₀ : Shared) (Q : AV → AHeap → Prop) (v : Value) (s' : Shared) : Prop := TQi g.c R s₀ Q v s'
inductive TBi (c : Cx) (R : RR) (s₀ : Shared) (Q : Bool → AHeap → Prop) (b : Bool) (s' : Shared) : Prop
  | mk (H' : AHeap) (S : St c R H' s'.heap) (m : Sm s₀ s') (q : Q b H') : TBi c R s₀ Q b s'
noncomputable def TB (g : Gx) (R : RR) (s₀ : Shared) (Q : Bool → AHeap → Prop) (b : Bool) (s' : Shared) : Prop := TBi g.c R s₀ Q b s'
inductive TEi (c : Cx) (R : RR) (s₀ : Shared) (E : String → AHeap → Prop) (e : Value) (s' : Shared) : Prop
  | mk (a : Addr) (cl : String) (H' : AHeap) (h : e = .ref a) (X : ExcSt c R H' a cl .none s'.heap) (m : Sm s₀ s') (q : E cl H') : TEi c R s₀ E e s'
noncomputable def TE (g : Gx) (R : RR) (s₀ : Shared) (E : String → AHeap → Prop) (e : Value) (s' : Shared) : Prop := TEi g.c R s₀ E e s'

theorem Sm.step {s₀ s : Shared} (x : Sm s₀ s) (h : Heap) (tk : Nat) : Sm s₀ { s with heap := h, toks := tk } := x.trans ⟨h, tk, rfl⟩
theorem Sm.toks {s₀ s : Shared} (x : Sm s₀ s) (tk : Nat) : Sm s₀ { s with toks := tk } := x.trans ⟨s.heap, tk, rfl⟩
theorem Sm.heap {s₀ s : Shared} (x : Sm s₀ s) (h : Heap) : Sm s₀ { s with heap := h } := x.trans ⟨h, s.toks, rfl⟩

section
variable {g : Gx} {A : Around} {R : RR} {s₀ s : Shared} {H : AHeap} {E : Value → Shared → Prop} {Q : AV → AHeap → Prop}

theorem TQ.pure {a : AV} {v : Value} (hv : VR a v) (S : St g.c R H s.heap) (m : Sm s₀ s) (q : Q a H) : TQ g R s₀ Q v s := ⟨a, H, hv, S, m, q⟩
theorem TQ.toks {a : AV} {v : Value} {tk : Nat} (hv : VR a v) (S : St g.c R H s.heap) (m : Sm s₀ s) (q : Q a H) : TQ g R s₀ Q v { s with toks := tk } := ⟨a, H, hv, S, m.toks tk, q⟩

set_option tactic.hygienic false in
theorem isList_of {a : Addr} {xs : List AV} (S : St g.c R H s.heap) (e : H a = some (.list xs)) : ∃ vs n, s.heap.get? a = some (listOf (vs : List Value).toArray n) ∧ VRs xs vs ∧ s.heap.IsList a vs.toArray := by
  obtain ⟨⟨D, vs, n, h1, h2⟩, _⟩ := S.orep e
  exact ⟨vs, n, h1, h2, _, h1, rfl, n, rfl⟩
set_option tactic.hygienic false in
theorem isTup_of {a : Addr} {xs : List AV} (S : St g.c R H s.heap) (e : H a = some (.tuple xs)) : ∃ vs n, s.heap.get? a = some { cls := .type "tuple", data := .seq (vs : List Value).toArray n } ∧ VRs xs vs ∧ IsTup s.heap a vs.toArray := by
  obtain ⟨⟨D, vs, n, h1, h2⟩, _⟩ := S.orep e
  exact ⟨vs, n, h1, h2, _, h1, rfl, n, rfl⟩
set_option tactic.hygienic false in
theorem isDict_of {a : Addr} {ep : Nat} {es : List (Str × AV)} (S : St g.c R H s.heap) (e : H a = some (.dict ep es)) : ∃ kvs, s.heap.DictAt (strKind g.c.prog g.c.w) a kvs ep ∧ DRs es kvs := by
  obtain ⟨⟨D, r⟩, _⟩ := S.orep e
  exact r
set_option tactic.hygienic false in
theorem above_of {a : Addr} {o : AObj} (S : St g.c R H s.heap) (e : H a = some o) (hne : o.isX = false := by rfl) (hb : o.isB = false := by rfl) : g.c.base.objs.size ≤ a := (S.orep e hb).2.1.2 hne

set_option tactic.hygienic false in
theorem DRs.keys {es kvs} (h : DRs es kvs) : kvs.map (·.1) = es.map (·.1) := by
  induction h with
  | nil => rfl
  | cons _ _ _ ih => simp [ih]
set_option tactic.hygienic false in
theorem DRs.length {es kvs} (h : DRs es kvs) : kvs.length = es.length := by
  induction h with
  | nil => rfl
  | cons _ _ _ ih => simp [ih]
theorem DRs.look {es kvs} (h : DRs es kvs) (k : Str) : OVR (lookS es k) (valueAt kvs k) := by
  induction h with
  | nil => exact .none
  | cons hk hv _ ih =>
    rename_i k' a v as vs _
    dsimp only [lookS, valueAt, List.find?_cons] at ih ⊢
    by_cases q : k' = k
    · simp [q]; exact .some hv
    · simp [q]; exact ih
set_option tactic.hygienic false in
theorem DRs.vals {es kvs} (h : DRs es kvs) : VRs (es.map (·.2)) (kvs.map (·.2)) := by
  induction h with
  | nil => exact .nil
  | cons _ hv _ ih => exact .cons hv ih

set_option tactic.hygienic false in
theorem OVR.isSome {a v} (h : OVR a v) : v.isSome = a.isSome := by cases h <;> rfl

set_option tactic.hygienic false in
theorem newListT {xs : List AV} {vs : List Value} {n : Nat} {h' : Heap} {x : Addr} {tk : Nat} (S : St g.c R H s.heap) (m : Sm s₀ s) (hv : VRs xs vs) (hx : s.heap.objs.size ≤ x)
    (k : ∀ b ob, s.heap.get? b = some ob → h'.get? b = some ob) (hs : s.heap.objs.size ≤ h'.objs.size) (ho : h'.get? x = some (listOf vs.toArray n))
    (q : ∀ z, H z = none → Q (.ref z) (up H z (.list xs))) : TQ g R s₀ Q (.ref x) { s with heap := h', toks := tk } := by
  obtain ⟨e, S'⟩ := S.newObj (o := .list xs) hx k hs (by intro _ _ z; cases z) (fun D => ⟨vs, n, ho, hv⟩)
  exact ⟨.ref x, _, .ref x, S', m.step _ _, q x e⟩

set_option tactic.hygienic false in
theorem s_truth {v : Value} {a : AV} {Qb : Bool → AHeap → Prop} (hv : VR a v) (S : St g.c R H s.heap) (m : Sm s₀ s) (q : wtruth a H (fun b => Qb b H)) :
    wpAny (model g.c.prog g.c.w) A (truthy v) (TB g R s₀ Qb) E s := by
  cases hv with
  | none => exact truthy_none ⟨H, S, m, q⟩
  | bool b => exact wpAny_truthy_bool ⟨H, S, m, q⟩
  | int i t => exact truthy_int ⟨H, S, m, q⟩
  | str x t hx =>
    refine P.truthy_str (by have := q.1; omega) ⟨H, S, m.toks _, ?_⟩
    have : ((x.length : Int) != 0) = (x.length != 0) := by
      cases x.length with
      | zero => rfl
      | succ n => simp; omega
    rw [this]; exact q.2
  | ref p =>
    obtain ⟨o, e⟩ : ∃ o, H p = o := ⟨_, rfl⟩
    rw [t_ref, e] at q
    cases o with
    | none => exact q.elim
    | some o =>
    cases o with
    | list xs =>
      obtain ⟨vs, n, h1, h2, h3⟩ := isList_of S e
      have hl := h2.length
      refine wpAny_truthy_list h3 (by simp only [List.size_toArray]; have := q.1; omega) ⟨H, S, m.toks _, ?_⟩
      have : (vs.toArray.isEmpty) = xs.isEmpty := by cases h2 <;> rfl
      rw [this]; exact q.2
    | tuple xs =>
      obtain ⟨vs, n, h1, h2, h3⟩ := isTup_of S e
      have hl := h2.length
      refine truthy_tuple h3 (by simp only [List.size_toArray]; have := q.1; omega) ⟨H, S, m.toks _, ?_⟩
      have : (vs.toArray.isEmpty) = xs.isEmpty := by cases h2 <;> rfl
      rw [this]; exact q.2
    | _ => exact q.elim

set_option tactic.hygienic false in
theorem strOk_append {x y : Str} (hx : PyData.strOk x = true) (hy : PyData.strOk y = true) : PyData.strOk (x ++ y) = true := by
  show (x.cps ++ y.cps).all _ = true
  rw [Array.all_append]
  exact Bool.and_eq_true_iff.mpr ⟨hx, hy⟩
set_option tactic.hygienic false in
theorem strOk_mem {x : Str} (hx : PyData.strOk x = true) {ch : Nat} (hc : ch ∈ x.cps) : ch < 0x110000 := by
  have := (Array.all_eq_true_iff_forall_mem.mp hx) ch hc
  simpa using this
set_option tactic.hygienic false in
theorem strOk_of {l : List Nat} (h : ∀ ch ∈ l, ch < 0x110000) : PyData.strOk ⟨l.toArray⟩ = true := by
  show l.toArray.all _ = true
  rw [Array.all_eq_true_iff_forall_mem]
  intro ch hc
  simpa using h ch (by simpa using hc)

set_option tactic.hygienic false in
theorem onV1_ind {as : List AV} {vs : List Value} {k : AV → Prop} {m : List Value → Prop} (hv : VRs as vs) (q : onV1 as k) (f : ∀ a v, VR a v → k a → m [v]) : m vs := by
  cases hv with
  | nil => exact q.elim
  | cons h1 hr => cases hr with
    | nil => exact f _ _ h1 q
    | cons => exact q.elim
set_option tactic.hygienic false in
theorem atL_ind {o : AV} {u : Value} {k : Addr → List AV → Prop} {m : Value → Prop} (ho : VR o u) (q : atL o H k) (f : ∀ p xs, H p = some (.list xs) → k p xs → m (.ref p)) : m u := by
  cases ho with
  | ref p =>
    obtain ⟨o, e⟩ : ∃ o, H p = o := ⟨_, rfl⟩
    dsimp only [atL] at q
    rw [e] at q
    cases o with
    | none => exact q.elim
    | some o => cases o with
      | list xs => exact f p xs e q
      | _ => exact q.elim
  | _ => exact q.elim
set_option tactic.hygienic false in
theorem atD_ind {o : AV} {u : Value} {k : Addr → List (Str × AV) → Prop} {m : Value → Prop} (ho : VR o u) (q : atD o H k) (f : ∀ p ep es, H p = some (.dict ep es) → k p es → m (.ref p)) : m u := by
  cases ho with
  | ref p =>
    obtain ⟨o, e⟩ : ∃ o, H p = o := ⟨_, rfl⟩
    dsimp only [atD] at q
    rw [e] at q
    cases o with
    | none => exact q.elim
    | some o => cases o with
      | dict ep es => exact f p ep es e q
      | _ => exact q.elim
  | _ => exact q.elim
set_option tactic.hygienic false in
theorem wii_ind {a b : AV} {u v : Value} {P : Int → Int → Prop} {m : Value → Value → Prop} (hu : VR a u) (hv : VR b v) (q : wii a b P) (f : ∀ x y t t', P x y → m (.int x t) (.int y t')) : m u v := by
  cases hu with
  | int x t => cases hv with
    | int y t' => exact f x y t t' q
    | _ => exact q.elim
  | _ => exact q.elim
theorem s_adds {x y : Str} {t u : Tok} (hx : PyData.strOk x = true) (hy : PyData.strOk y = true) (S : St g.c R H s.heap) (m : Sm s₀ s) (q1 : x.length + y.length ≤ sizeLine) (q2 : Q (.str (x ++ y)) H) :
    wpAny (model g.c.prog g.c.w) A (binaryOp .Add (.str x t) (.str y u)) (TQ g R s₀ Q) E s := by
  refine P.add_str ?_
  have e1 : ∀ z : Str, z.length = 0 → z = Str.empty := fun z hz => by
    obtain ⟨⟨l⟩⟩ := z
    cases l with
    | nil => rfl
    | cons => cases hz
  split
  · rename_i hz
    have hz' := e1 _ (by simpa using hz)
    rw [hz'] at q2
    refine TQ.pure (.str _ u hy) S m ?_
    have e2 : ∀ y : Str, Str.empty ++ y = y := fun y => by show Str.append _ _ = _; simp [Str.append, Str.empty]
    rw [e2] at q2; exact q2
  · split
    · rename_i _ hz
      have hz' := e1 _ (by simpa using hz)
      rw [hz'] at q2
      refine TQ.pure (.str _ t hx) S m ?_
      have e2 : ∀ x : Str, x ++ Str.empty = x := fun x => by show Str.append _ _ = _; simp [Str.append, Str.empty]
      rw [e2] at q2; exact q2
    · refine ⟨?_, TQ.toks (.str _ _ (strOk_append hx hy)) S m q2⟩
      rw [Str.length_append]; exact q1
set_option tactic.hygienic false in
theorem s_addl {x y : Addr} (S : St g.c R H s.heap) (m : Sm s₀ s) (q : wbin .Add (.ref x) (.ref y) Q H) :
    wpAny (model g.c.prog g.c.w) A (binaryOp .Add (.ref x) (.ref y)) (TQ g R s₀ Q) E s := by
  obtain ⟨o, e1⟩ : ∃ o, H x = o := ⟨_, rfl⟩
  obtain ⟨o', e2⟩ : ∃ o, H y = o := ⟨_, rfl⟩
  replace q : (match H x, H y with
      | some (.list xs), some (.list ys) => xs.length + ys.length ≤ sizeLine ∧ ∀ z, H z = none → Q (.ref z) (up H z (.list (xs ++ ys)))
      | _, _ => False) := q
  rw [e1, e2] at q
  cases o with
  | none => exact q.elim
  | some o =>
  cases o with
  | list xs => cases o' with
    | none => exact q.elim
    | some o' => cases o' with
      | list ys =>
        obtain ⟨vs, n, h1, h2, h3⟩ := isList_of S e1
        obtain ⟨ws, n', k1, k2, k3⟩ := isList_of S e2
        refine P.add_list (n := n) (n2 := n') h1 k1 ?_ (by have := h2.length; have := k2.length; have := q.1; simp only [List.size_toArray]; omega)
        have hvw := h2.append k2
        refine newListT (n := 0) (vs := vs ++ ws) S m hvw (Nat.le_refl _) (fun _ _ e => Heap.get?_push_of_some _ e) (by rw [Heap.size_push]; exact Nat.le_succ _) ?_ q.2
        rw [Heap.get?_push_size _ rfl]; simp
      | _ => exact q.elim
  | _ => exact q.elim
set_option tactic.hygienic false in
theorem s_bin {op : Operator} {a b : AV} {u v : Value} {e₀ : Env} {l₀ : List Env} {mg mb : Str → Option Value} (C : g.c.Ok mg mb) (V : Ev g A R e₀ l₀) (hu : VR a u) (hv : VR b v) (S : St g.c R H s.heap) (m : Sm s₀ s) (q : wbin op a b Q H) :
    wpAny (model g.c.prog g.c.w) A (binaryOp op u v) (TQ g R s₀ Q) E s := by
  cases op with
  | Add => cases hu with
    | int x t => cases hv with
      | int y t' => exact add_int (TQ.toks (.int _ _) S m q)
      | _ => exact q.elim
    | str x t hx => cases hv with
      | str y t' hy => exact s_adds hx hy S m q.1 q.2
      | _ => exact q.elim
    | ref p => cases hv with
      | ref p' => exact s_addl S m q
      | _ => exact q.elim
    | _ => exact q.elim
  | Sub => exact wii_ind (m := fun u v => wpAny _ A (binaryOp .Sub u v) (TQ g R s₀ Q) E s) hu hv q fun _ _ _ _ q => sub_int (TQ.toks (.int _ _) S m q)
  | Mult => exact wii_ind (m := fun u v => wpAny _ A (binaryOp .Mult u v) (TQ g R s₀ Q) E s) hu hv q fun _ _ _ _ q => mul_int (TQ.toks (.int _ _) S m q.2) q.1
  | FloorDiv =>
    refine wii_ind (m := fun u v => wpAny _ A (binaryOp .FloorDiv u v) (TQ g R s₀ Q) E s) hu hv q fun _ _ _ _ q => ?_
    have F0 := V.stk e₀ (List.mem_cons_self ..)
    refine floordiv_int q.1 (TQ.toks (.int _ _) S m q.2) (.inr (PySem.PylongRoom.of (C.nolimit.keeps S.stays) ?_ (PySem.SeerAt.of (env := e₀) (l := l₀) (C.seer.keeps S.stays) C.tree V.aok.frames F0.gen F0.co F0.blt F0.glob)))
    have := V.aok.depth
    have e : Builtin.pylongFrames ≤ 100 := by decide
    omega
  | Mod => exact wii_ind (m := fun u v => wpAny _ A (binaryOp .Mod u v) (TQ g R s₀ Q) E s) hu hv q fun _ _ _ _ q => mod_int' q.1 (TQ.toks (.int _ _) S m q.2)
  | Pow =>
    refine wii_ind (m := fun u v => wpAny _ A (binaryOp .Pow u v) (TQ g R s₀ Q) E s) hu hv q fun x y _ _ q => ?_
    obtain ⟨⟨q1, q2, q3⟩, q4⟩ := q
    refine AutoIntOps.pow_4 (by omega) (by simp; omega) (by simp; omega) (by simp; omega) (by rw [q3]; simp) (show (Made.int (x ^ y.toNat)).post _ s from TQ.toks (.int _ _) S m q4)
  | _ => exact q.elim

set_option tactic.hygienic false in
theorem RDs.len {H : AHeap} {as : List AV} : ∀ {ds : List PyData}, RDs H as ds → as.length = ds.length := by
  induction as with
  | nil => intro ds r; cases r; rfl
  | cons a as ih => intro ds r; cases r with | cons _ r => exact congrArg Nat.succ (ih r)
set_option tactic.hygienic false in
theorem pairs_keys {prog : Program} {w : World} {h : Heap} {es : List DictEntry} {kvs : List (Str × Value)} (p : Pairs (strKind prog w) es kvs) : ∃ as, ReadsAll h (es.map (·.key)) (kvs.map fun e => PyData.str e.1) as := by
  induction p with
  | nil => exact ⟨[], .nil⟩
  | cons hk _ r ih =>
    obtain ⟨as, ih⟩ := ih
    obtain ⟨t, e⟩ := Value.isStrOf_shape hk
    refine ⟨[] ++ as, ?_⟩
    rw [List.map_cons, List.map_cons, e]
    exact .cons (.str _ _) ih
set_option tactic.hygienic false in
theorem pairs_vals {prog : Program} {w : World} {es : List DictEntry} {kvs : List (Str × Value)} (p : Pairs (strKind prog w) es kvs) : es.map (·.val) = kvs.map (·.2) := by
  induction p with
  | nil => rfl
  | cons _ hv r ih => rw [List.map_cons, List.map_cons, hv, ih]

abbrev Rds (s : Shared) (v : Value) (d : PyData) : Prop := (∃ as, Reads s.heap v d as) ∧ (flatD d = true → PyData.canLay0 d = true)
abbrev RdsA (s : Shared) (vs : List Value) (ds : List PyData) : Prop := (∃ bs, ReadsAll s.heap vs ds bs) ∧ (flatDs ds = true → PyData.canLayAll0 ds = true)
set_option tactic.hygienic false in
theorem rd_dict (S : St g.c R H s.heap) {a : Addr} {ep : Nat} {es : List (Str × AV)} {ds : List PyData} (e : H a = some (.dict ep es)) (r : RDs H (es.map (·.2)) ds) (ih : ∀ {vs}, VRs (es.map (·.2)) vs → RdsA s vs ds) : Rds s (.ref a) (.dict ((es.map fun e => PyData.str e.1).zip ds)) := by
  obtain ⟨kvs, ⟨o, ents, ho, hx, hd, hk, hp, hn⟩, hr⟩ := isDict_of S e
  obtain ⟨⟨as, ih⟩, cl⟩ := ih hr.vals
  obtain ⟨bs, ik⟩ := pairs_keys (h := s.heap) hp
  rw [← pairs_vals hp] at ih
  have hl : (List.map (fun e => PyData.str e.1) kvs).length = ds.length := by
    rw [List.length_map, hr.length, ← RDs.len r, List.length_map]
  have hke : List.map (fun e => PyData.str e.1) kvs = List.map (fun e : Str × AV => PyData.str e.1) es := by
    have := congrArg (List.map PyData.str) hr.keys
    rw [List.map_map, List.map_map] at this
    exact this
  rw [hke] at hl ik
  refine ⟨⟨_, .dict (as := bs) (bs := as) ho hx.1 hd ?_ ?_⟩, fun f => Bool.noConfusion f⟩
  · rw [List.map_fst_zip (Nat.le_of_eq hl)]; exact ik
  · rw [List.map_snd_zip (Nat.le_of_eq hl.symm)]; exact ih
set_option tactic.hygienic false in
theorem rd_list (S : St g.c R H s.heap) {a : Addr} {xs : List AV} {ds : List PyData} (e : H a = some (.list xs)) (ih : ∀ {vs}, VRs xs vs → RdsA s vs ds) : Rds s (.ref a) (.list ds) := by
  obtain ⟨vs, n, h1, h2, h3⟩ := isList_of S e
  obtain ⟨⟨as, ih⟩, cl⟩ := ih h2
  exact ⟨⟨_, .list h1 rfl rfl ih⟩, cl⟩
set_option tactic.hygienic false in
theorem rd_tuple (S : St g.c R H s.heap) {a : Addr} {xs : List AV} {ds : List PyData} (e : H a = some (.tuple xs)) (ih : ∀ {vs}, VRs xs vs → RdsA s vs ds) : Rds s (.ref a) (.tuple ds) := by
  obtain ⟨vs, n, h1, h2, h3⟩ := isTup_of S e
  obtain ⟨⟨as, ih⟩, cl⟩ := ih h2
  exact ⟨⟨_, .tuple h1 rfl rfl ih⟩, cl⟩
set_option tactic.hygienic false in
theorem rd_cons {a : AV} {d : PyData} {as : List AV} {ds : List PyData} (h : ∀ {v}, VR a v → Rds s v d) (ih : ∀ {vs}, VRs as vs → RdsA s vs ds) {vs : List Value} (hv : VRs (a :: as) vs) : RdsA s vs (d :: ds) := by
  cases hv with
  | cons v vs =>
    obtain ⟨⟨a1, h1⟩, c1⟩ := h v
    obtain ⟨⟨a2, h2⟩, c2⟩ := ih vs
    refine ⟨⟨_, .cons h1 h2⟩, fun f => ?_⟩
    have f := Bool.and_eq_true_iff.mp f
    exact Bool.and_eq_true_iff.mpr ⟨c1 f.1, c2 f.2⟩
set_option tactic.hygienic false in
theorem reads_of (S : St g.c R H s.heap) {a : AV} {d : PyData} {v : Value} (r : RD H a d) : VR a v → Rds s v d :=
  @RD.rec H (fun a d _ => ∀ {v}, VR a v → Rds s v d) (fun as ds _ => ∀ {vs}, VRs as vs → RdsA s vs ds)
    (fun hv => by cases hv; exact ⟨⟨[], .none⟩, fun _ => rfl⟩)
    (fun b _ hv => by cases hv; exact ⟨⟨[], .bool b⟩, fun _ => rfl⟩)
    (fun i _ hv => by cases hv with | int _ t => exact ⟨⟨[], .int i t⟩, fun _ => rfl⟩)
    (fun x _ hv => by cases hv with | str _ t h => exact ⟨⟨[], .str x t⟩, fun _ => h⟩)
    (fun e _ ih _ hv => by cases hv; exact rd_list S e ih)
    (fun e _ ih _ hv => by cases hv; exact rd_tuple S e ih)
    (fun e r ih _ hv => by cases hv; exact rd_dict S e r ih)
    (fun hv => by cases hv; exact ⟨⟨[], .nil⟩, fun _ => rfl⟩)
    (fun _ _ h ih _ hv => rd_cons h ih hv) a d r v
set_option tactic.hygienic false in
theorem readsAll_of (S : St g.c R H s.heap) {as : List AV} : ∀ {ds : List PyData} {vs : List Value}, RDs H as ds → VRs as vs → RdsA s vs ds := by
  induction as with
  | nil => intro ds vs r hv; cases r; cases hv; exact ⟨⟨[], .nil⟩, fun _ => rfl⟩
  | cons a as ih =>
    intro ds vs r hv
    cases r with
    | cons r rs => exact rd_cons (fun hv => reads_of S r hv) (fun hv => ih rs hv) hv
set_option tactic.hygienic false in
theorem shaped_of {d : PyData} (h : okD d) (c : flatD d = true → PyData.canLay0 d = true) : shaped d = true := by
  unfold shaped
  rw [c h.1]
  simpa using h.2

set_option tactic.hygienic false in
theorem hds_of {mg mb : Str → Option Value} {p : Addr} {o : AObj} (C : g.c.Ok mg mb) (S : St g.c R H s.heap) (e : H p = some o) (hne : o.isX = false := by rfl) (hb : o.isB = false := by rfl) : (p == sysModules) = false := by
  have h1 := leN (above_of S e hne hb)
  obtain ⟨mc, hc, _⟩ := C.nolimit
  have h2 := hc.lt
  have h3 : @LT.lt Nat _ sysModules cStatics := by decide
  have h4 : @LT.lt Nat _ cStatics g.c.base.objs.size := h2
  have : @LT.lt Nat _ sysModules p := by omega
  exact beq_eq_false_iff_ne.mpr (Nat.ne_of_gt this)

set_option tactic.hygienic false in
theorem DHits.hits {eb ea : List (Str × AV)} {r : Bool} {kb : List (Str × Value)} (S : St g.c R H s.heap) (hb : DRs eb kb) (un : A.in1.units + 64 < cLine) (h : DHits H eb ea r) : ∀ {ka : List (Str × Value)}, DRs ea ka → PySem.W.KeqHits A.in1 s kb ka r := by
  induction h with
  | nil => intro ka hk; cases hk; exact .nil
  | @miss k v r hl =>
    intro ka hk
    cases hk with
    | cons _ hv hr =>
      refine .miss ?_
      have := hb.look k
      rw [hl] at this
      generalize valueAt kb k = w at this ⊢
      cases this
      rfl
  | @hit k v y r d e b hl r1 r2 o1 o2 _ ih =>
    intro ka hk
    cases hk with
    | cons _ hv hr =>
      have := hb.look k
      rw [hl] at this
      generalize hq : valueAt kb k = w at this
      cases this with
      | some hy =>
        obtain ⟨⟨as, ra'⟩, ca⟩ := reads_of S r1 hv
        obtain ⟨⟨bs, rb'⟩, cb⟩ := reads_of S r2 hy
        exact .hit hq (PySem.W.keq_at ra' rb' (shaped_of o1 ca) (shaped_of o2 cb) un) (ih hr)

set_option tactic.hygienic false in
theorem isDictV_some {a : AV} {ea : List (Str × AV)} (h : isDictV H a = some ea) : ∃ p ep, a = .ref p ∧ H p = some (.dict ep ea) := by
  cases a with
  | ref p =>
    obtain ⟨o, e⟩ : ∃ o, H p = o := ⟨_, rfl⟩
    replace h : (match H p with | some (.dict _ es) => some es | _ => none) = some ea := h
    rw [e] at h
    cases o with
    | none => cases h
    | some o => cases o with
      | dict ep es => cases h; exact ⟨p, ep, rfl, e⟩
      | _ => cases h
  | _ => cases h

noncomputable def eqOp (ne : Bool) : CmpOp := if ne then .NotEq else .Eq
set_option tactic.hygienic false in
theorem s_eqg {ne : Bool} {a b : AV} {u v : Value} (un : A.units + 64 < cLine) (hu : VR a u) (hv : VR b v) (S : St g.c R H s.heap) (m : Sm s₀ s) {da db : PyData} (ra : RD H a da) (rb : RD H b db) (sa : okD da) (sb : okD db) (qq : Q (.bool (nt ne (PyData.eqv da db))) H) :
    wpAny (model g.c.prog g.c.w) A (compareOp (eqOp ne) u v) (TQ g R s₀ Q) E s := by
  obtain ⟨⟨as, ra'⟩, ca⟩ := reads_of S ra hu
  obtain ⟨⟨bs, rb'⟩, cb⟩ := reads_of S rb hv
  cases ne with
  | true => exact ne_dataH ra' rb' (shaped_of sa ca) (shaped_of sb cb) un (TQ.pure (.bool _) S m qq)
  | false => exact eq_dataH ra' rb' (shaped_of sa ca) (shaped_of sb cb) un (TQ.pure (.bool _) S m qq)
set_option tactic.hygienic false in
theorem s_eqd {ne : Bool} {a b : AV} {u v : Value} {mg mb : Str → Option Value} (C : g.c.Ok mg mb) (un : A.units + 64 < cLine) (un' : A.in1.units + 64 < cLine) (hu : VR a u) (hv : VR b v) (S : St g.c R H s.heap) (m : Sm s₀ s) {ea eb : List (Str × AV)} {r : Bool}
    (h1 : isDictV H a = some ea) (h2 : isDictV H b = some eb) (hits : ea.length = eb.length → DHits H eb ea r) (qq : Q (.bool (nt ne (ea.length == eb.length && r))) H) : wpAny (model g.c.prog g.c.w) A (compareOp (eqOp ne) u v) (TQ g R s₀ Q) E s := by
  obtain ⟨p, ep, rfl, e1⟩ := isDictV_some h1
  obtain ⟨p', ep', rfl, e2⟩ := isDictV_some h2
  cases hu; cases hv
  obtain ⟨ka, da, ra⟩ := isDict_of S e1
  obtain ⟨kb, db, rb⟩ := isDict_of S e2
  rw [← ra.length, ← rb.length] at qq hits
  cases ne with
  | true => exact PySem.W.keq_ne (r := r) (hds_of C S e1) (hds_of C S e2) da.dictOf db.dictOf (Nat.lt_of_le_of_lt (Nat.le_add_right _ _) un) (fun hl => (hits hl).hits S rb un' ra) (TQ.pure (.bool _) S m qq)
  | false => exact PySem.W.keq_eq (r := r) (hds_of C S e1) (hds_of C S e2) da.dictOf db.dictOf (Nat.lt_of_le_of_lt (Nat.le_add_right _ _) un) (fun hl => (hits hl).hits S rb un' ra) (TQ.pure (.bool _) S m qq)
noncomputable def weqO (ne : Bool) (a b : AV) (Q : AV → AHeap → Prop) (H : AHeap) : Prop := match isDictV H a, isDictV H b with
  | some ea, some eb => ∃ r, (ea.length = eb.length → DHits H eb ea r) ∧ Q (.bool (nt ne (ea.length == eb.length && r))) H
  | _, _ => ∃ da db, RD H a da ∧ RD H b db ∧ okD da ∧ okD db ∧ Q (.bool (nt ne (PyData.eqv da db))) H
set_option tactic.hygienic false in
theorem s_eqo {ne : Bool} {a b : AV} {u v : Value} {mg mb : Str → Option Value} (C : g.c.Ok mg mb) (un : A.units + 64 < cLine) (un' : A.in1.units + 64 < cLine) (hu : VR a u) (hv : VR b v) (S : St g.c R H s.heap) (m : Sm s₀ s) (q : weqO ne a b Q H) :
    wpAny (model g.c.prog g.c.w) A (compareOp (eqOp ne) u v) (TQ g R s₀ Q) E s := by
  have gen : (∃ da db, RD H a da ∧ RD H b db ∧ okD da ∧ okD db ∧ Q (.bool (nt ne (PyData.eqv da db))) H) → wpAny (model g.c.prog g.c.w) A (compareOp (eqOp ne) u v) (TQ g R s₀ Q) E s := fun ⟨da, db, ra, rb, sa, sb, qq⟩ => s_eqg un hu hv S m ra rb sa sb qq
  unfold weqO at q
  cases h1 : isDictV H a with
  | none => rw [h1] at q; exact gen q
  | some ea => cases h2 : isDictV H b with
    | none => rw [h1, h2] at q; exact gen q
    | some eb => rw [h1, h2] at q; obtain ⟨r, hits, qq⟩ := q; exact s_eqd C un un' hu hv S m h1 h2 hits qq
set_option tactic.hygienic false in
theorem s_eq {ne : Bool} {a b : AV} {u v : Value} {e₀ : Env} {l₀ : List Env} {mg mb : Str → Option Value} (C : g.c.Ok mg mb) (V : Ev g A R e₀ l₀) (hu : VR a u) (hv : VR b v) (S : St g.c R H s.heap) (m : Sm s₀ s) (q : weq ne a b Q H) :
    wpAny (model g.c.prog g.c.w) A (compareOp (eqOp ne) u v) (TQ g R s₀ Q) E s := by
  have un : A.units + 64 < cLine := by have := V.aok.units; omega
  have un' : A.in1.units + 64 < cLine := by have := V.aok.units; dsimp only [Around.in1]; omega
  cases a with
  | int x => cases b with
    | int y =>
      cases hu; cases hv
      cases ne with
      | false => exact eq_int (TQ.pure (.bool _) S m q)
      | true => exact ne_int (TQ.pure (.bool _) S m q)
    | _ => exact s_eqo C un un' hu hv S m q
  | str x => cases b with
    | str y => exact s_eqg (da := .str x) (db := .str y) un hu hv S m (.str x) (.str y) ⟨rfl, Nat.zero_le _⟩ ⟨rfl, Nat.zero_le _⟩ q
    | _ => exact s_eqo C un un' hu hv S m q
  | _ => exact s_eqo C un un' hu hv S m q

set_option tactic.hygienic false in
theorem occ_one (ch : Nat) (x : Str) : (!(Builtin.Str.occurrences x ⟨#[ch]⟩ 0 x.length 1).isEmpty) = x.cps.toList.contains ch := by
  rw [StrLaws.found_one]
  simp

set_option tactic.hygienic false in
theorem s_in {no : Bool} {a b : AV} {u v : Value} {e₀ : Env} {l₀ : List Env} {mg mb : Str → Option Value} (C : g.c.Ok mg mb) (V : Ev g A R e₀ l₀) (hu : VR a u) (hv : VR b v) (S : St g.c R H s.heap) (m : Sm s₀ s) (q : win no a b Q H) :
    wpAny (model g.c.prog g.c.w) A (compareOp (if no then .NotIn else .In) u v) (TQ g R s₀ Q) E s := by
  have un : A.units + 1 + 64 < cLine := by have := V.aok.units; omega
  cases hv with
  | ref p =>
    obtain ⟨o, e⟩ : ∃ o, H p = o := ⟨_, rfl⟩
    rw [in_ref, e] at q
    cases o with
    | none => exact q.elim
    | some o =>
    cases o with
    | list ys =>
      obtain ⟨d, ds, r1, r2, q1, q2, qq⟩ := q
      obtain ⟨⟨as, r1'⟩, c1⟩ := reads_of S r1 hu
      obtain ⟨⟨bs, r2'⟩, c2⟩ := reads_of S (.list e r2) (.ref p)
      have dd : d.depth ≤ 64 := q1.2
      replace q1 := shaped_of q1 c1
      replace q2 : PyData.canLayAll0 ds = true := c2 q2
      cases no with
      | true => exact notIn_list_reads r2' r1' q2 (canLay_of_shaped q1) (by omega) (TQ.pure (.bool _) S m (by exact qq))
      | false => exact in_list_reads r2' r1' q2 (canLay_of_shaped q1) (by omega) (TQ.pure (.bool _) S m (by exact qq))
    | tuple ys =>
      obtain ⟨d, ds, r1, r2, q1, q2, qq⟩ := q
      obtain ⟨⟨as, r1'⟩, c1⟩ := reads_of S r1 hu
      obtain ⟨⟨bs, r2'⟩, c2⟩ := reads_of S (.tuple e r2) (.ref p)
      have dd : d.depth ≤ 64 := q1.2
      replace q1 := shaped_of q1 c1
      replace q2 : PyData.canLayAll0 ds = true := c2 q2
      cases no with
      | true => exact notIn_tuple_reads r2' r1' q2 (canLay_of_shaped q1) (by omega) (TQ.pure (.bool _) S m (by exact qq))
      | false => exact in_tuple_reads r2' r1' q2 (canLay_of_shaped q1) (by omega) (TQ.pure (.bool _) S m (by exact qq))
    | dict ep es => cases hu with
      | str k t hk =>
        obtain ⟨kvs, hd, hr⟩ := isDict_of S e
        have hds : (p == sysModules) = false := hds_of C S e
        have ho := (hr.look k).isSome
        cases no with
        | true =>
          refine wpAny_notIn_of (strKind_is _ _ k t) hds hd.dictOf.mapOf (TQ.toks (.bool _) S m ?_)
          rw [ho]; exact q
        | false =>
          refine wpAny_in_of (strKind_is _ _ k t) hds hd.dictOf.mapOf (TQ.toks (.bool _) S m ?_)
          rw [ho]; exact q
      | _ => exact q.elim
    | _ => exact q.elim
  | str y t hy => cases hu with
    | str x t' hx =>
      obtain ⟨ch, rfl, qq⟩ := q
      cases no with
      | true =>
        refine notIn_str (TQ.pure (.bool _) S m ?_)
        rw [occ_one]; exact qq
      | false =>
        refine in_str (TQ.pure (.bool _) S m ?_)
        rw [occ_one]; exact qq
    | _ => exact q.elim
  | _ => exact q.elim
end
end Mine

end
section
open PySem PySem.W PyProof.Rows PySem.Spec PySem.SeqAt PySem.Calls
namespace Mine
section
variable {g : Gx} {A : Around} {R : RR} {s₀ s : Shared} {H : AHeap} {E : Value → Shared → Prop} {Q : AV → AHeap → Prop}

theorem isSame_bool {a : AV} {u : Value} (hu : VR a u) (c : Bool) : isSame u (.bool c) = pure (a == .bool c) := by
  cases hu <;> first | rfl | (rename_i b; cases c <;> cases b <;> rfl)
set_option tactic.hygienic false in
theorem isSame_none' {a : AV} {u : Value} (hu : VR a u) : isSame u .none = pure (a == .none) := by
  cases hu <;> rfl

set_option tactic.hygienic false in
theorem s_cmp {op : CmpOp} {a b : AV} {u v : Value} {e₀ : Env} {l₀ : List Env} {mg mb : Str → Option Value} (C : g.c.Ok mg mb) (V : Ev g A R e₀ l₀) (hu : VR a u) (hv : VR b v) (S : St g.c R H s.heap) (m : Sm s₀ s)
    (q : wcmp op a b Q H) : wpAny (model g.c.prog g.c.w) A (compareOp op u v) (TQ g R s₀ Q) E s := by
  cases op with
  | Eq => exact s_eq (ne := false) C V hu hv S m q
  | NotEq => exact s_eq (ne := true) C V hu hv S m q
  | In => exact s_in (no := false) C V hu hv S m q
  | NotIn => exact s_in (no := true) C V hu hv S m q
  | Is =>
    show wpAny _ _ (do return Value.bool (← isSame u v) : Sem Value) _ _ _
    cases hv with
    | none => rw [isSame_none' hu]; exact wpAny_bind (wpAny_pure (wpAny_pure (TQ.pure (.bool _) S m q)))
    | bool b => rw [isSame_bool hu]; exact wpAny_bind (wpAny_pure (wpAny_pure (TQ.pure (.bool _) S m q)))
    | _ => exact q.elim
  | IsNot =>
    show wpAny _ _ (do return Value.bool (!(← isSame u v)) : Sem Value) _ _ _
    cases hv with
    | none => rw [isSame_none' hu]; exact wpAny_bind (wpAny_pure (wpAny_pure (TQ.pure (.bool _) S m q)))
    | bool b => rw [isSame_bool hu]; exact wpAny_bind (wpAny_pure (wpAny_pure (TQ.pure (.bool _) S m q)))
    | _ => exact q.elim
  | Lt => exact wii_ind (m := fun u v => wpAny _ A (compareOp .Lt u v) (TQ g R s₀ Q) E s) hu hv q fun _ _ _ _ q => lt_int (TQ.pure (.bool _) S m q)
  | LtE => exact wii_ind (m := fun u v => wpAny _ A (compareOp .LtE u v) (TQ g R s₀ Q) E s) hu hv q fun _ _ _ _ q => le_int (TQ.pure (.bool _) S m q)
  | Gt => exact wii_ind (m := fun u v => wpAny _ A (compareOp .Gt u v) (TQ g R s₀ Q) E s) hu hv q fun _ _ _ _ q => gt_int (TQ.pure (.bool _) S m q)
  | GtE => exact wii_ind (m := fun u v => wpAny _ A (compareOp .GtE u v) (TQ g R s₀ Q) E s) hu hv q fun _ _ _ _ q => ge_int (TQ.pure (.bool _) S m q)

set_option tactic.hygienic false in
theorem pyIdx_seq {n : Nat} {i : Int} {j : Nat} (h : pyIdx n i = some j) : seqIndex? i n = some j := by
  unfold pyIdx at h
  unfold seqIndex?
  split at h
  · split at h
    · cases h; have : ¬ i < 0 := by omega
      simp only [this, if_false]; rw [if_pos (by simp; omega)]
    · cases h
  · split at h
    · cases h; have : i < 0 := by omega
      simp only [this, if_true]; rw [if_pos (by simp; omega)]
    · cases h
set_option tactic.hygienic false in
theorem pyIdx_lt {n : Nat} {i : Int} {j : Nat} (h : pyIdx n i = some j) : j < n ∧ (0 ≤ i → j = i.toNat) ∧ (i < 0 → j = (i + n).toNat ∧ -(n : Int) ≤ i) := by
  unfold pyIdx at h
  split at h
  · split at h
    · cases h; omega
    · cases h
  · split at h
    · cases h; omega
    · cases h

set_option tactic.hygienic false in
theorem s_sub {value slice : PySem.Expr} {a i : AV} {u v : Value} {mg mb : Str → Option Value} (_C : g.c.Ok mg mb) (hu : VR a u) (hv : VR i v) (S : St g.c R H s.heap) (m : Sm s₀ s) (q : wsub a i Q H)
    (hs : ∀ o j, subscripted slice false o j = operate [o, j] (getItem o j)) : wpAny (model g.c.prog g.c.w) A (subscriptTail value slice u v) (TQ g R s₀ Q) E s := by
  cases hu with
  | ref p => 
    obtain ⟨o, e⟩ : ∃ o, H p = o := ⟨_, rfl⟩
    cases hv with
    | int i t =>
      rw [sub_ri, e] at q
      cases o with
      | none => exact q.elim
      | some o =>
      cases o with
      | list xs =>
        obtain ⟨j, x, h1, h2, h3, h4, qq⟩ := q
        obtain ⟨vs, n, k1, k2, k3⟩ := isList_of S e
        obtain ⟨y, y1, y2⟩ := k2.get h4
        obtain ⟨p1, p2, p3⟩ := pyIdx_lt h1
        rw [k2.length] at p3
        refine tail_any k3.typeIs slot_list_getitem.lookup ?_ (hs _ _)
        by_cases hz : 0 ≤ i
        · exact wpAny_getItem_list k3 hz h2 (by rw [← p2 hz]; simpa using y1) (TQ.pure y2 S m qq)
        · have hz := Int.not_le.mp hz
          obtain ⟨p4, p5⟩ := p3 hz
          exact wpAny_getItem_list_neg k3 hz (by simpa using p5) h3 (by simp only [List.size_toArray]; rw [← p4]; simpa using y1) (TQ.pure y2 S m qq)
      | tuple xs =>
        obtain ⟨j, x, h1, h2, h3, h4, qq⟩ := q
        obtain ⟨vs, n, k1, k2, k3⟩ := isTup_of S e
        obtain ⟨y, y1, y2⟩ := k2.get h4
        refine tail_any k3.typeIs slot_tuple_getitem.lookup ?_ (hs _ _)
        exact getItem_tuple k3 h3 h2 (by simp only [List.size_toArray]; rw [← k2.length]; exact pyIdx_seq h1) (by simpa using y1) (TQ.pure y2 S m qq)
      | script ns =>
        obtain ⟨h1, h2, nn, h3, qq⟩ := q
        obtain ⟨⟨D, vs, n, k1, k2⟩, _⟩ := S.orep e
        obtain ⟨y, y1, y2⟩ := k2.get (i := i.toNat) (a := .int nn) (by rw [List.getElem?_map, h3]; rfl)
        have k3 : s.heap.IsList _ vs.toArray := ⟨_, k1, rfl, _, rfl⟩
        refine tail_any k3.typeIs slot_list_getitem.lookup ?_ (hs _ _)
        exact wpAny_getItem_list k3 h1 h2 (by simpa using y1) (TQ.pure y2 S m qq)
      | _ => exact q.elim
    | str k t hk =>
      rw [sub_rs, e] at q
      cases o with
      | none => exact q.elim
      | some o =>
      cases o with
      | dict ep es =>
        obtain ⟨x, hx, qq⟩ := q
        obtain ⟨kvs, hd, hr⟩ := isDict_of S e
        have ho := hr.look k
        rw [hx] at ho
        generalize hval : valueAt kvs k = y at ho
        cases ho with
        | some hv =>
          refine tail_any hd.dictOf.typeIs slot_dict_getitem.lookup ?_ (hs _ _)
          exact wpAny_getItem_of (strKind_is _ _ k t) hd.dictOf.mapOf hval (TQ.toks hv S m qq)
      | _ => exact q.elim
    | _ => exact q.elim
  | str x t hx => cases hv with
    | int i u =>
      obtain ⟨h1, h2, ch, h3, qq⟩ := q
      refine tail_any (typeIs_str s _ t) slot_str_getitem.lookup ?_ (hs _ _)
      have hlt : i.toNat < x.cps.size := (Array.getElem?_eq_some_iff.mp h3).1
      refine getItem_str (by simp; omega) (c := ch) ?_ (TQ.toks (.str _ _ ?_) S m qq)
      · have : seqIndex? i x.length = some i.toNat := pyIdx_seq (by unfold pyIdx; rw [if_pos h1, if_pos (show i < ((x.length : Nat) : Int) from show i < ((x.cps.size : Nat) : Int) by omega)])
        rw [this]; exact h3
      · have hm := Array.mem_of_getElem? h3
        exact strOk_of (l := [ch]) (by intro c hc; rw [List.mem_singleton.mp hc]; exact strOk_mem hx hm)
    | _ => exact q.elim
  | _ => exact q.elim

end
end Mine

end
section
open PySem PySem.W PyProof.Rows PySem.Spec PySem.SeqAt PySem.Calls
namespace Mine
section
variable {g : Gx} {A : Around} {R : RR} {s₀ s : Shared} {H : AHeap} {E : Value → Shared → Prop} {Q : AV → AHeap → Prop}

theorem s_isT {a : AV} {u : Value} {k ty : String} {b : Bool} (hu : VR a u) (S : St g.c R H s.heap) (m : Sm s₀ s) (hk : vkind H a = some k) (hty : ty = "int" ∨ ty = "bool" ∨ ty = "str" ∨ ty = "list")
    (hb : (k == ty || (k == "bool" && ty == "int")) = b) (q : Q (.bool b) H) : wpAny (model g.c.prog g.c.w) A (call (.builtin "isinstance") [u, .type ty]) (TQ g R s₀ Q) E s := by
  subst hb
  cases hu with
  | none =>
    cases hk
    rcases hty with rfl | rfl | rfl | rfl
    · exact IsiPair.NoneType_int (TQ.toks (.bool _) S m q)
    · exact IsiPair.NoneType_bool (TQ.toks (.bool _) S m q)
    · exact IsiPair.NoneType_str (TQ.toks (.bool _) S m q)
    · exact IsiPair.NoneType_list (TQ.toks (.bool _) S m q)
  | bool b =>
    cases hk
    rcases hty with rfl | rfl | rfl | rfl
    · exact IsiPair.bool_int (TQ.pure (.bool _) S m q)
    · exact IsiPair.bool_bool (TQ.pure (.bool _) S m q)
    · exact IsiPair.bool_str (TQ.toks (.bool _) S m q)
    · exact IsiPair.bool_list (TQ.toks (.bool _) S m q)
  | int i t =>
    cases hk
    rcases hty with rfl | rfl | rfl | rfl
    · exact IsiPair.int_int (TQ.pure (.bool _) S m q)
    · exact IsiPair.int_bool (TQ.toks (.bool _) S m q)
    · exact IsiPair.int_str (TQ.toks (.bool _) S m q)
    · exact IsiPair.int_list (TQ.toks (.bool _) S m q)
  | str x t hx =>
    cases hk
    rcases hty with rfl | rfl | rfl | rfl
    · exact IsiPair.str_int (TQ.toks (.bool _) S m q)
    · exact IsiPair.str_bool (TQ.toks (.bool _) S m q)
    · exact IsiPair.str_str (TQ.pure (.bool _) S m q)
    · exact IsiPair.str_list (TQ.toks (.bool _) S m q)
  | ref p =>
    unfold vkind at hk
    dsimp only at hk
    split at hk
    · rename_i xs e
      cases hk
      obtain ⟨vs, n, h1, h2, h3⟩ := isList_of S e
      rcases hty with rfl | rfl | rfl | rfl
      · exact IsiPair.list_int h1 rfl (TQ.toks (.bool _) S m q)
      · exact IsiPair.list_bool h1 rfl (TQ.toks (.bool _) S m q)
      · exact IsiPair.list_str h1 rfl (TQ.toks (.bool _) S m q)
      · exact IsiPair.list_list h1 rfl (TQ.pure (.bool _) S m q)
    · rename_i xs e
      cases hk
      obtain ⟨vs, n, h1, h2, h3⟩ := isTup_of S e
      rcases hty with rfl | rfl | rfl | rfl
      · exact IsiPair.tuple_int h1 rfl (TQ.toks (.bool _) S m q)
      · exact IsiPair.tuple_bool h1 rfl (TQ.toks (.bool _) S m q)
      · exact IsiPair.tuple_str h1 rfl (TQ.toks (.bool _) S m q)
      · exact IsiPair.tuple_list h1 rfl (TQ.toks (.bool _) S m q)
    · rename_i ep es e
      cases hk
      obtain ⟨kvs, ⟨o, ents, h1, h2, h3⟩, hr⟩ := isDict_of S e
      rcases hty with rfl | rfl | rfl | rfl
      · exact IsiPair.dict_int h1 h2.1 (TQ.toks (.bool _) S m q)
      · exact IsiPair.dict_bool h1 h2.1 (TQ.toks (.bool _) S m q)
      · exact IsiPair.dict_str h1 h2.1 (TQ.toks (.bool _) S m q)
      · exact IsiPair.dict_list h1 h2.1 (TQ.toks (.bool _) S m q)
    · cases hk

noncomputable def primVal : Pr → Value
  | .len => .builtin "len"
  | .list => .type "list"
  | .int => .type "int"
  | .range => .type "range"
  | .sum => .builtin "sum"
noncomputable def primValS : String → Value
  | "len" => .builtin "len"
  | "list" => .type "list"
  | "int" => .type "int"
  | "range" => .type "range"
  | "sum" => .builtin "sum"
  | "all" => .builtin "all"
  | "min" => .builtin "min"
  | "max" => .builtin "max"
  | "isinstance" => .builtin "isinstance"
  | "bool" => .type "bool"
  | "str" => .type "str"
  | "ValueError" => .type "ValueError"
  | _ => .builtin "?"
set_option tactic.hygienic false in
theorem primValS_str (f : Pr) : primValS f.str = primVal f := by cases f <;> rfl
set_option tactic.hygienic false in
theorem primVal_is (f : Pr) : (∃ i, primVal f = .builtin i) ∨ ∃ i, primVal f = .type i := by
  cases f <;> first | exact .inl ⟨_, rfl⟩ | exact .inr ⟨_, rfl⟩

set_option tactic.hygienic false in
theorem St.kept {h h' : Heap} {e₀ : Env} {l₀ : List Env} (ev : Ev g A R e₀ l₀) (S : St g.c R H h) (k : ∀ b o, h.get? b = some o → h'.get? b = some o) : St g.c R H h' := by
  obtain ⟨m, hm⟩ := (ev.stk e₀ (List.mem_cons_self ..)).ns
  obtain ⟨o, _, _, w, _⟩ := (S.res _ _ hm).2
  have h1 := (S.res _ _ hm).1
  have h2 := lts (k _ _ w)
  obtain ⟨H₁, ⟨s1, s2, s3, D, s4⟩, r⟩ := S
  exact ⟨H₁, ⟨fun b o e => k b o (s1 b o e), Nat.le_of_lt (Nat.lt_of_le_of_lt h1 h2), fun b r e => ⟨(s3 b r e).1, (s3 b r e).2.agree fun _ => k _ _⟩, D,
    ⟨fun a o e => (s4.rep a o e).agree (fun _ => k _ _) fun _ _ _ => ⟨rfl, fun _ => k _ _⟩, s4.above, s4.dict, s4.inj⟩⟩, r⟩

set_option tactic.hygienic false in
theorem items_vals {K : Type} {kvs : List (K × Value)} {acc : Array Value} (h : ItemsOf (fun i v => ∃ k, kvs[i]? = some (k, v)) acc kvs.length) : acc.toList = kvs.map (·.2) := by
  obtain ⟨h1, h2⟩ := h
  exact kdl_vals_eq acc.toList (by simpa using h1) fun j v e => h2 j v (by simpa using e)

theorem VRs.of_get : ∀ {as : List AV} {vs : List Value}, as.length = vs.length → (∀ (i : Nat) a v, as[i]? = some a → vs[i]? = some v → VR a v) → VRs as vs
  | [], [], _, _ => .nil
  | a :: as, v :: vs, hl, h => .cons (h 0 a v rfl rfl) (VRs.of_get (Nat.succ.inj hl) fun i => h (i + 1))
set_option tactic.hygienic false in
theorem DRs.key {es : List (Str × AV)} {kvs : List (Str × Value)} (h : DRs es kvs) : ∀ {k : Nat} {n : Str} {v : Value}, kvs[k]? = some (n, v) → ∃ a, es[k]? = some (n, a) ∧ PyData.strOk n = true := by
  induction h with
  | nil => intro k n a e; simp at e
  | cons h1 h2 _ ih =>
    intro k n a e
    cases k with
    | zero => simp at e; obtain ⟨rfl, rfl⟩ := e; exact ⟨_, rfl, h1⟩
    | succ k => exact ih (by simpa using e)
set_option tactic.hygienic false in
theorem strKind_key {prog : Program} {w : World} {k : Str} {key : Value} (h : (PySem.strKind prog w).is k key = true) : ∃ t, key = .str k t := by
  cases key <;> simp [PySem.strKind, Value.isStrOf] at h
  subst h; exact ⟨_, rfl⟩

set_option tactic.hygienic false in
theorem s_list1 {p : Addr} {e₀ : Env} {l₀ : List Env} {mg mb : Str → Option Value} (C : g.c.Ok mg mb) (ev : Ev g A R e₀ l₀) (S : St g.c R H s.heap) (m : Sm s₀ s) (q : wprim g.md .list [.ref p] Q H) :
    wpAny (model g.c.prog g.c.w) A (call (.type "list") [.ref p]) (TQ g R s₀ Q) E s := by
  obtain ⟨oo, e⟩ : ∃ oo, H p = oo := ⟨_, rfl⟩
  rw [p_listr, e] at q
  cases oo with
  | none => exact q.elim
  | some oo =>
  cases oo with
  | list xs =>
    obtain ⟨vs, n, k1, k2, k3⟩ := isList_of S e
    have hl := k2.length
    refine call_list_seq (hsz := by simp only [List.size_toArray]; rw [← hl]; exact q.1) _ (.inl rfl) k1 rfl rfl fun h' c' hk hD => ?_
    exact newListT (s := s) S m k2 (Nat.le_refl _) hk (Nat.le_of_lt (lts hD)) hD q.2
  | tuple xs =>
    obtain ⟨vs, n, k1, k2, k3⟩ := isTup_of S e
    have hl := k2.length
    refine call_list_seq (hsz := by simp only [List.size_toArray]; rw [← hl]; exact q.1) _ (.inr rfl) k1 rfl rfl fun h' c' hk hD => ?_
    exact newListT (s := s) S m k2 (Nat.le_refl _) hk (Nat.le_of_lt (lts hD)) hD q.2
  | dict ep es =>
    obtain ⟨hmd, hz, q⟩ := q
    obtain ⟨kvs, hd, hr⟩ := isDict_of S e
    have hl := hr.length
    refine kdl_call (kdl_dict (knd := strKind g.c.prog g.c.w) (kvs := kvs) (ep := ep) (hds_of C S e)) (ev.aok.hand hmd) hd (by rw [hl]; exact hz) fun h' tk acc' c' hk hD hi => ?_
    have hvr : VRs (es.map fun e => AV.str e.1) acc'.toList := by
      refine VRs.of_get (by rw [List.length_map, ← hl, ← hi.1]; rfl) fun i a v h1 h2 => ?_
      obtain ⟨k, x, h3, h4⟩ := hi.2 i v (by simpa using h2)
      obtain ⟨t, rfl⟩ := strKind_key h4
      obtain ⟨av, h5, h6⟩ := hr.key h3
      rw [List.getElem?_map, h5] at h1
      cases h1
      exact .str _ _ h6
    exact newListT (s := s) (n := c') S m hvr (Nat.le_refl _) hk (Nat.le_of_lt (lts hD)) (by rw [hD]) q
  | vals d =>
    obtain ⟨oo, e'⟩ : ∃ oo, H d = oo := ⟨_, rfl⟩
    dsimp only at q
    rw [e'] at q
    cases oo with
    | none => exact q.elim
    | some oo =>
    cases oo with
    | dict ep es =>
      obtain ⟨hmd, hz, q⟩ := q
      obtain ⟨kvs, hd, hr⟩ := isDict_of S e'
      have hl := hr.length
      obtain ⟨⟨D, hv⟩, _⟩ := S.orep e
      refine kdl_call (kdl_values (knd := strKind g.c.prog g.c.w) (kvs := kvs) (ep := ep)) (ev.aok.hand hmd) ⟨⟨_, hv, rfl, rfl⟩, hd⟩ (by rw [hl]; exact hz) fun h' tk acc' c' hk hD hi => ?_
      refine newListT (s := s) (n := c') S m (vs := acc'.toList) ?_ (Nat.le_refl _) hk (Nat.le_of_lt (lts hD)) (by rw [hD]) q
      rw [items_vals hi]; exact hr.vals
    | _ => exact q.elim
  | _ => exact q.elim
set_option tactic.hygienic false in
theorem preSum_of {ns : List Int} {val : Nat → Int} : ∀ {k : Nat}, k ≤ ns.length → (∀ i x, ns[i]? = some x → val i = x) → preSum val k = (ns.take k).sum
  | 0, _, _ => by simp [preSum]
  | k + 1, hk, h => by
    have hlt : k < ns.length := hk
    have e : ns[k]? = some ns[k] := by simp [hlt]
    rw [preSum, preSum_of (Nat.le_of_lt hlt) h, List.take_add_one, List.sum_append, e, h k _ e]
    show _ = _ + List.sum [ns[k]]
    simp
set_option tactic.hygienic false in
theorem VRs.ints {ns : List Int} {vs : List Value} (h : VRs (ns.map .int) vs) : ∀ (i : Nat) v, vs[i]? = some v → ∃ t, v = .int ((ns[i]?).getD 0) t := by
  intro i v e
  have hl := h.length
  rw [List.length_map] at hl
  have hi : i < ns.length := by have := (List.getElem?_eq_some_iff.mp e).1; omega
  obtain ⟨v', h1, h2⟩ := h.get (i := i) (a := .int ns[i]) (by simp [hi])
  rw [e] at h1; cases h1
  cases h2 with
  | int _ t => exact ⟨t, by simp [hi]⟩
set_option tactic.hygienic false in
theorem sum_fin {ns : List Int} : preSum (fun i => (ns[i]?).getD 0) ns.length = ns.sum := by
  rw [preSum_of (Nat.le_refl _) (fun i x e => by simp [e]), List.take_length]
set_option tactic.hygienic false in
theorem s_sum {p : Addr} {e₀ : Env} {l₀ : List Env} (ev : Ev g A R e₀ l₀) (S : St g.c R H s.heap) (m : Sm s₀ s) (q : wprim g.md .sum [.ref p] Q H) :
    wpAny (model g.c.prog g.c.w) A (call (.builtin "sum") [.ref p]) (TQ g R s₀ Q) E s := by
  rw [p_sumr] at q
  obtain ⟨hmd, q⟩ := q
  refine call_sum_walkG ?_
  have hlt : ∀ {b o}, s.heap.get? b = some o → b ≠ s.heap.objs.size := fun e => Nat.ne_of_lt (lts e)
  obtain ⟨oo, e⟩ : ∃ oo, H p = oo := ⟨_, rfl⟩
  rw [e] at q
  cases oo with
  | none => exact q.elim
  | some oo =>
  cases oo with
  | list xs =>
    obtain ⟨ns, rfl, q⟩ := q
    obtain ⟨vs, n, k1, k2, k3⟩ := isList_of S e
    have hl := k2.length
    rw [List.length_map] at hl
    have W := Walks.list (prog := g.c.prog) (w := g.c.w) (A := A.in1) (ev.aok.hand hmd) _ _ (hlt k1) vs.toArray
    refine wpAny_pyIter_list k3 ⟨_, _, _, _, _, _, fun i => (ns[i]?).getD 0, rfl, W, ⟨⟨_, Heap.get?_push_size _ rfl, rfl, rfl⟩, k3.push _⟩, fun b hb => ?_, fun i v h => k2.ints i v (by simpa using h), fun h' tk t' hk => ?_⟩
    · have := lts k1
      simp only [List.mem_cons, List.not_mem_nil, or_false] at hb
      rcases hb with rfl | rfl
      · show _ < (Heap.push _ _).objs.size; rw [Heap.size_push]; exact Nat.lt_succ_self _
      · show _ < (Heap.push _ _).objs.size; rw [Heap.size_push]; exact Nat.lt_succ_of_lt this
    · rw [List.size_toArray, ← hl, sum_fin]
      exact ⟨_, _, .int _ _, S.kept ev fun b o w => hk b o (by simp only [List.mem_singleton]; exact hlt w) (Heap.get?_push_of_some _ w), m.step _ _, q⟩
  | vals d =>
    obtain ⟨oo, e'⟩ : ∃ oo, H d = oo := ⟨_, rfl⟩
    dsimp only at q
    rw [e'] at q
    cases oo with
    | none => exact q.elim
    | some oo =>
    cases oo with
    | dict ep es =>
      obtain ⟨ns, hns, q⟩ := q
      obtain ⟨kvs, hd, hr⟩ := isDict_of S e'
      have hl := hr.length
      have hvs := hr.vals
      rw [hns] at hvs
      have hl2 := hvs.length
      rw [List.length_map, List.length_map] at hl2
      obtain ⟨⟨D, hv⟩, _⟩ := S.orep e
      obtain ⟨od, eo, ho, hrest⟩ := id hd
      have W := Walks.dictValues (knd := strKind g.c.prog g.c.w) (A := A.in1) (ev.aok.hand hmd) _ _ (hlt ho) kvs ep
      refine wpAny_pyIter_values (knd := strKind g.c.prog g.c.w) (kvs := kvs) (ep := ep) ⟨_, hv, rfl, rfl⟩ hd ⟨_, _, _, _, _, _, fun i => (ns[i]?).getD 0, rfl, W, ⟨⟨_, Heap.get?_push_size _ rfl, rfl, rfl⟩, hd.push _⟩, fun b hb => ?_, fun i v h => ?_, fun h' tk t' hk => ?_⟩
      · have := lts ho
        simp only [List.mem_cons, List.not_mem_nil, or_false] at hb
        rcases hb with rfl | rfl
        · show _ < (Heap.push _ _).objs.size; rw [Heap.size_push]; exact Nat.lt_succ_self _
        · show _ < (Heap.push _ _).objs.size; rw [Heap.size_push]; exact Nat.lt_succ_of_lt this
      · obtain ⟨k, h⟩ := h
        exact hvs.ints i v (by rw [List.getElem?_map, h]; rfl)
      · rw [← hl2, sum_fin]
        exact ⟨_, _, .int _ _, S.kept ev fun b o w => hk b o (by simp only [List.mem_singleton]; exact hlt w) (Heap.get?_push_of_some _ w), m.step _ _, q⟩
    | _ => exact q.elim
  | _ => exact q.elim

set_option tactic.hygienic false in
theorem s_len {a : AV} {u : Value} {mg mb : Str → Option Value} (C : g.c.Ok mg mb) (hv : VR a u) (S : St g.c R H s.heap) (m : Sm s₀ s) (q : wlen a Q H) : wpAny (model g.c.prog g.c.w) A (call (.builtin "len") [u]) (TQ g R s₀ Q) E s := by
  cases hv with
  | str s' t hs => exact len_str (by have := q.1; omega) (TQ.toks (.int _ _) S m q.2)
  | ref p =>
    obtain ⟨oo, e⟩ : ∃ oo, H p = oo := ⟨_, rfl⟩
    dsimp only [wlen] at q
    rw [e] at q
    cases oo with
    | none => exact q.elim
    | some oo =>
    cases oo with
    | list xs =>
      obtain ⟨vs, n, k1, k2, k3⟩ := isList_of S e
      have hl := k2.length
      refine call_len_list k3 (by simp only [List.size_toArray]; have := q.1; omega) (TQ.toks (.int _ _) S m ?_)
      simp only [List.size_toArray]; rw [← hl]; exact q.2
    | tuple xs =>
      obtain ⟨vs, n, k1, k2, k3⟩ := isTup_of S e
      have hl := k2.length
      refine PyProof.Rows.len_tuple k3 (by simp only [List.size_toArray]; have := q.1; omega) (TQ.toks (.int _ _) S m ?_)
      simp only [List.size_toArray]; rw [← hl]; exact q.2
    | dict ep es =>
      obtain ⟨kvs, hd, hr⟩ := isDict_of S e
      have hl := hr.length
      refine call_len_dict (hds_of C S e) hd.dictOf (by have := q.1; omega) (TQ.toks (.int _ _) S m ?_)
      rw [hl]; exact q.2
    | script ns =>
      obtain ⟨⟨D, vs, n, k1, k2⟩, _⟩ := S.orep e
      have hl := k2.length
      rw [List.length_map] at hl
      refine call_len_list (items := vs.toArray) ⟨_, k1, rfl, _, rfl⟩ (by simp only [List.size_toArray]; have := q.1; omega) (TQ.toks (.int _ _) S m ?_)
      simp only [List.size_toArray]; rw [← hl]; exact q.2
    | _ => exact q.elim
  | _ => exact q.elim
set_option tactic.hygienic false in
theorem s_rng {a b : Int} {t u : Tok} (S : St g.c R H s.heap) (m : Sm s₀ s) (q : RgOk a b ∧ ∀ z, H z = none → Q (.ref z) (up H z (.range a b))) : wpAny (model g.c.prog g.c.w) A (call (.type "range") [.int a t, .int b u]) (TQ g R s₀ Q) E s := by
  refine call_range_2 ?_
  obtain ⟨e, S'⟩ := S.newObj (o := .range _ _) (Nat.le_refl _) (fun _ _ z => Heap.get?_push_of_some _ z) (by rw [Heap.size_push]; exact Nat.le_succ _) (by intro _ _ z; cases z) (fun D => ⟨q.1, _, _, _, Heap.get?_push_size _ rfl⟩)
  exact ⟨_, _, .ref _, S', m.step _ _, q.2 _ e⟩
set_option tactic.hygienic false in
theorem s_rng1 {b : Int} {t : Tok} (S : St g.c R H s.heap) (m : Sm s₀ s) (q : (-(2 ^ 62) < b ∧ b < 2 ^ 62) ∧ ∀ z, H z = none → Q (.ref z) (up H z (.range 0 b))) : wpAny (model g.c.prog g.c.w) A (call (.type "range") [.int b t]) (TQ g R s₀ Q) E s := by
  refine call_range_1 ?_
  obtain ⟨e, S'⟩ := S.newObj (o := .range 0 _) (Nat.le_refl _) (fun _ _ z => Heap.get?_push_of_some _ z) (by rw [Heap.size_push]; exact Nat.le_succ _) (by intro _ _ z; cases z) (fun D => ⟨⟨by decide, by decide, q.1.1, q.1.2⟩, _, _, _, Heap.get?_push_size _ rfl⟩)
  exact ⟨_, _, .ref _, S', m.step _ _, q.2 _ e⟩
set_option tactic.hygienic false in
theorem s_prim {f : Pr} {as : List AV} {vs : List Value} {e₀ : Env} {l₀ : List Env} {mg mb : Str → Option Value} (C : g.c.Ok mg mb) (ev : Ev g A R e₀ l₀) (hv : VRs as vs) (S : St g.c R H s.heap) (m : Sm s₀ s) (q : wprim g.md f as Q H) :
    wpAny (model g.c.prog g.c.w) A (call (primVal f) vs) (TQ g R s₀ Q) E s := by
  cases f with
  | len => exact onV1_ind (m := fun vs => wpAny _ A (call (.builtin "len") vs) (TQ g R s₀ Q) E s) hv q fun a v h q => s_len C h S m q
  | list =>
    refine onV1_ind (m := fun vs => wpAny _ A (call (.type "list") vs) (TQ g R s₀ Q) E s) hv q fun a v h q => ?_
    cases h with
    | ref p => exact s_list1 C ev S m q
    | _ => exact q.elim
  | int =>
    refine onV1_ind (m := fun vs => wpAny _ A (call (.type "int") vs) (TQ g R s₀ Q) E s) hv q fun a v h q => ?_
    cases h with
    | bool b => exact call_int_bool (TQ.toks (.int _ _) S m q)
    | _ => exact q.elim
  | range =>
    cases hv with
    | nil => exact q.elim
    | cons h1 hr => cases hr with
      | nil => cases h1 with
        | int b t => exact s_rng1 S m q
        | _ => exact q.elim
      | cons h2 hr =>
        have q : onV1 (_ :: _) (fun b => wii _ b fun a b => RgOk a b ∧ ∀ z, H z = none → Q (.ref z) (up H z (.range a b))) := q
        exact onV1_ind (m := fun r => wpAny _ A (call (.type "range") (_ :: r)) (TQ g R s₀ Q) E s) (.cons h2 hr) q fun b v h2 q => wii_ind (m := fun u v => wpAny _ A (call (.type "range") [u, v]) (TQ g R s₀ Q) E s) h1 h2 q fun _ _ _ _ q => s_rng S m q
  | sum =>
    refine onV1_ind (m := fun vs => wpAny _ A (call (.builtin "sum") vs) (TQ g R s₀ Q) E s) hv q fun a v h q => ?_
    cases h with
    | ref p => exact s_sum ev S m q
    | _ => exact q.2.elim

set_option tactic.hygienic false in
theorem s_append {p : Addr} {v : AV} {u : Value} {xs : List AV} (hv : VR v u) (S : St g.c R H s.heap) (m : Sm s₀ s) (e : H p = some (.list xs)) (hz : xs.length ≤ sizeLine) (q : Q .none (up H p (.list (xs ++ [v])))) :
    wpAny (model g.c.prog g.c.w) A (call (.builtin "list.append") [.ref p, u]) (TQ g R s₀ Q) E s := by
  obtain ⟨vs, n, k1, k2, k3⟩ := isList_of S e
  refine append_at k1 (fun h' hs ho => ?_) (by simp only [List.size_toArray]; rw [← k2.length]; exact hz)
  refine ⟨.none, _, .none, S.setObj (o' := .list (xs ++ [v])) e (by intro _ _ z; cases z) hs (fun D => ⟨vs ++ [u], n + 1, ?_, k2.append (.one hv)⟩), m.heap _, q⟩
  rw [ho]; simp
end
end Mine

end
section
open PySem PySem.W PyProof.Rows PySem.Spec PySem.SeqAt PySem.Calls
namespace Mine

theorem dn {c : Prop} [d : Decidable c] {k : c → Bool} (h : (if h : c then k h else false) = true) : ∃ q, k q = true :=
  match d, h with
  | .isTrue q, h => ⟨q, h⟩
  | .isFalse _, h => Bool.noConfusion h
theorem and2 {a b : Bool} (h : (a && b) = true) : a = true ∧ b = true := match a, h with
  | true, h => ⟨rfl, h⟩
  | false, h => Bool.noConfusion h
noncomputable def onBool (e : PySem.Expr) (k : PySem.BoolOp → List PySem.Expr → Pos → Bool) : Bool := if h : e.ctorIdx = 0 then PySem.Expr.BoolOp.elim (motive_1 := fun _ => Bool) e h k else false
theorem onBool_ind {m : PySem.Expr → Prop} {e : PySem.Expr} {k : PySem.BoolOp → List PySem.Expr → Pos → Bool} (h : onBool e k = true) (f : ∀ o vs p, k o vs p = true → m (.BoolOp o vs p)) : m e :=
  (dn h).elim fun q z => PySem.Expr.BoolOp.elim (motive_1 := fun e => ∀ q, PySem.Expr.BoolOp.elim (motive_1 := fun _ => Bool) e q k = true → m e) e q (fun o vs p _ z => f o vs p z) q z
noncomputable def onBin (e : PySem.Expr) (k : PySem.Expr → Operator → PySem.Expr → Pos → Bool) : Bool := if h : e.ctorIdx = 2 then PySem.Expr.BinOp.elim (motive_1 := fun _ => Bool) e h k else false
theorem onBin_ind {m : PySem.Expr → Prop} {e : PySem.Expr} {k : PySem.Expr → Operator → PySem.Expr → Pos → Bool} (h : onBin e k = true) (f : ∀ l o r p, k l o r p = true → m (.BinOp l o r p)) : m e :=
  (dn h).elim fun q z => PySem.Expr.BinOp.elim (motive_1 := fun e => ∀ q, PySem.Expr.BinOp.elim (motive_1 := fun _ => Bool) e q k = true → m e) e q (fun l o r p _ z => f l o r p z) q z
noncomputable def onUn (e : PySem.Expr) (k : PySem.UnaryOp → PySem.Expr → Pos → Bool) : Bool := if h : e.ctorIdx = 3 then PySem.Expr.UnaryOp.elim (motive_1 := fun _ => Bool) e h k else false
theorem onUn_ind {m : PySem.Expr → Prop} {e : PySem.Expr} {k : PySem.UnaryOp → PySem.Expr → Pos → Bool} (h : onUn e k = true) (f : ∀ o x p, k o x p = true → m (.UnaryOp o x p)) : m e :=
  (dn h).elim fun q z => PySem.Expr.UnaryOp.elim (motive_1 := fun e => ∀ q, PySem.Expr.UnaryOp.elim (motive_1 := fun _ => Bool) e q k = true → m e) e q (fun o x p _ z => f o x p z) q z
noncomputable def onDict (e : PySem.Expr) (k : List (Option PySem.Expr) → List PySem.Expr → Pos → Bool) : Bool := if h : e.ctorIdx = 6 then PySem.Expr.Dict.elim (motive_1 := fun _ => Bool) e h k else false
theorem onDict_ind {m : PySem.Expr → Prop} {e : PySem.Expr} {k : List (Option PySem.Expr) → List PySem.Expr → Pos → Bool} (h : onDict e k = true) (f : ∀ ks vs p, k ks vs p = true → m (.Dict ks vs p)) : m e :=
  (dn h).elim fun q z => PySem.Expr.Dict.elim (motive_1 := fun e => ∀ q, PySem.Expr.Dict.elim (motive_1 := fun _ => Bool) e q k = true → m e) e q (fun ks vs p _ z => f ks vs p z) q z
noncomputable def onLC (e : PySem.Expr) (k : PySem.Expr → List Comprehension → Scope → Pos → Bool) : Bool := if h : e.ctorIdx = 8 then PySem.Expr.ListComp.elim (motive_1 := fun _ => Bool) e h k else false
theorem onLC_ind {m : PySem.Expr → Prop} {e : PySem.Expr} {k : PySem.Expr → List Comprehension → Scope → Pos → Bool} (h : onLC e k = true) (f : ∀ x gs cs p, k x gs cs p = true → m (.ListComp x gs cs p)) : m e :=
  (dn h).elim fun q z => PySem.Expr.ListComp.elim (motive_1 := fun e => ∀ q, PySem.Expr.ListComp.elim (motive_1 := fun _ => Bool) e q k = true → m e) e q (fun x gs cs p _ z => f x gs cs p z) q z
noncomputable def onCmp (e : PySem.Expr) (k : PySem.Expr → List CmpOp → List PySem.Expr → Pos → Bool) : Bool := if h : e.ctorIdx = 15 then PySem.Expr.Compare.elim (motive_1 := fun _ => Bool) e h k else false
theorem onCmp_ind {m : PySem.Expr → Prop} {e : PySem.Expr} {k : PySem.Expr → List CmpOp → List PySem.Expr → Pos → Bool} (h : onCmp e k = true) (f : ∀ l os rs p, k l os rs p = true → m (.Compare l os rs p)) : m e :=
  (dn h).elim fun q z => PySem.Expr.Compare.elim (motive_1 := fun e => ∀ q, PySem.Expr.Compare.elim (motive_1 := fun _ => Bool) e q k = true → m e) e q (fun l os rs p _ z => f l os rs p z) q z
noncomputable def onCall (e : PySem.Expr) (k : PySem.Expr → List PySem.Expr → List Keyword → Pos → Bool) : Bool := if h : e.ctorIdx = 16 then PySem.Expr.Call.elim (motive_1 := fun _ => Bool) e h k else false
theorem onCall_ind {m : PySem.Expr → Prop} {e : PySem.Expr} {k : PySem.Expr → List PySem.Expr → List Keyword → Pos → Bool} (h : onCall e k = true) (f : ∀ fe as ks p, k fe as ks p = true → m (.Call fe as ks p)) : m e :=
  (dn h).elim fun q z => PySem.Expr.Call.elim (motive_1 := fun e => ∀ q, PySem.Expr.Call.elim (motive_1 := fun _ => Bool) e q k = true → m e) e q (fun fe as ks p _ z => f fe as ks p z) q z
noncomputable def onConst (e : PySem.Expr) (k : Const → Nat → Pos → Bool) : Bool := if h : e.ctorIdx = 19 then PySem.Expr.Constant.elim (motive_1 := fun _ => Bool) e h k else false
theorem onConst_ind {m : PySem.Expr → Prop} {e : PySem.Expr} {k : Const → Nat → Pos → Bool} (h : onConst e k = true) (f : ∀ c kd p, k c kd p = true → m (.Constant c kd p)) : m e :=
  (dn h).elim fun q z => PySem.Expr.Constant.elim (motive_1 := fun e => ∀ q, PySem.Expr.Constant.elim (motive_1 := fun _ => Bool) e q k = true → m e) e q (fun c kd p _ z => f c kd p z) q z
noncomputable def onAttr (e : PySem.Expr) (k : PySem.Expr → Str → Pos → Bool) : Bool := if h : e.ctorIdx = 20 then PySem.Expr.Attribute.elim (motive_1 := fun _ => Bool) e h k else false
theorem onAttr_ind {m : PySem.Expr → Prop} {e : PySem.Expr} {k : PySem.Expr → Str → Pos → Bool} (h : onAttr e k = true) (f : ∀ v a p, k v a p = true → m (.Attribute v a p)) : m e :=
  (dn h).elim fun q z => PySem.Expr.Attribute.elim (motive_1 := fun e => ∀ q, PySem.Expr.Attribute.elim (motive_1 := fun _ => Bool) e q k = true → m e) e q (fun v a p _ z => f v a p z) q z
noncomputable def onSub (e : PySem.Expr) (k : PySem.Expr → PySem.Expr → Pos → Bool) : Bool := if h : e.ctorIdx = 21 then PySem.Expr.Subscript.elim (motive_1 := fun _ => Bool) e h k else false
theorem onSub_ind {m : PySem.Expr → Prop} {e : PySem.Expr} {k : PySem.Expr → PySem.Expr → Pos → Bool} (h : onSub e k = true) (f : ∀ v i p, k v i p = true → m (.Subscript v i p)) : m e :=
  (dn h).elim fun q z => PySem.Expr.Subscript.elim (motive_1 := fun e => ∀ q, PySem.Expr.Subscript.elim (motive_1 := fun _ => Bool) e q k = true → m e) e q (fun v i p _ z => f v i p z) q z
noncomputable def onName (e : PySem.Expr) (k : Str → Pos → Bool) : Bool := if h : e.ctorIdx = 23 then PySem.Expr.Name.elim (motive_1 := fun _ => Bool) e h k else false
theorem onName_ind {m : PySem.Expr → Prop} {e : PySem.Expr} {k : Str → Pos → Bool} (h : onName e k = true) (f : ∀ n p, k n p = true → m (.Name n p)) : m e :=
  (dn h).elim fun q z => PySem.Expr.Name.elim (motive_1 := fun e => ∀ q, PySem.Expr.Name.elim (motive_1 := fun _ => Bool) e q k = true → m e) e q (fun n p _ z => f n p z) q z
noncomputable def onList (e : PySem.Expr) (k : List PySem.Expr → Pos → Bool) : Bool := if h : e.ctorIdx = 24 then PySem.Expr.List.elim (motive_1 := fun _ => Bool) e h k else false
theorem onList_ind {m : PySem.Expr → Prop} {e : PySem.Expr} {k : List PySem.Expr → Pos → Bool} (h : onList e k = true) (f : ∀ es p, k es p = true → m (.List es p)) : m e :=
  (dn h).elim fun q z => PySem.Expr.List.elim (motive_1 := fun e => ∀ q, PySem.Expr.List.elim (motive_1 := fun _ => Bool) e q k = true → m e) e q (fun es p _ z => f es p z) q z
noncomputable def onTup (e : PySem.Expr) (k : List PySem.Expr → Nat → Pos → Bool) : Bool := if h : e.ctorIdx = 25 then PySem.Expr.Tuple.elim (motive_1 := fun _ => Bool) e h k else false
theorem onTup_ind {m : PySem.Expr → Prop} {e : PySem.Expr} {k : List PySem.Expr → Nat → Pos → Bool} (h : onTup e k = true) (f : ∀ es kd p, k es kd p = true → m (.Tuple es kd p)) : m e :=
  (dn h).elim fun q z => PySem.Expr.Tuple.elim (motive_1 := fun e => ∀ q, PySem.Expr.Tuple.elim (motive_1 := fun _ => Bool) e q k = true → m e) e q (fun es kd p _ z => f es kd p z) q z
section
variable {α : Type}
noncomputable def onC (l : List α) (k : α → List α → Bool) : Bool := match l with
  | [] => false
  | x :: r => k x r
theorem onC_ind {m : List α → Prop} {l : List α} {k : α → List α → Bool} (h : onC l k = true) (f : ∀ x r, k x r = true → m (x :: r)) : m l := match l, h with
  | [], h => Bool.noConfusion h
  | x :: r, h => f x r h
theorem nil_ind {m : List α → Prop} {l : List α} (h : l.isEmpty = true) (f : m []) : m l := match l, h with
  | [], _ => f
  | _ :: _, h => Bool.noConfusion h
noncomputable def on1 (l : List α) (k : α → Bool) : Bool := onC l fun x r => r.isEmpty && k x
theorem on1_ind {m : List α → Prop} {l : List α} {k : α → Bool} (h : on1 l k = true) (f : ∀ x, k x = true → m [x]) : m l :=
  onC_ind h fun x _ h => nil_ind (m := fun r => m (x :: r)) (and2 h).1 (f x (and2 h).2)
noncomputable def on2 (l : List α) (k : α → α → Bool) : Bool := onC l fun x r => on1 r (k x)
theorem on2_ind {m : List α → Prop} {l : List α} {k : α → α → Bool} (h : on2 l k = true) (f : ∀ x y, k x y = true → m [x, y]) : m l :=
  onC_ind h fun x _ h => on1_ind (m := fun r => m (x :: r)) h (f x)
noncomputable def onSome (o : Option α) (k : α → Bool) : Bool := match o with
  | none => false
  | some x => k x
theorem onSome_ind {m : Option α → Prop} {o : Option α} {k : α → Bool} (h : onSome o k = true) (f : ∀ x, k x = true → m (some x)) : m o := match o, h with
  | none, h => Bool.noConfusion h
  | some x, h => f x h
end
noncomputable def kindOk (sc : Scope) (id : Str) : Bool := match sc.names.lookup id with
  | some .local => true
  | some .cell => true
  | some .free => true
  | _ => false
noncomputable def isGlob (sc : Scope) (id : Str) : Bool := sc.names.lookup id == some .globalImplicit
noncomputable def plainName (id : Str) : Bool := !(id == ("__debug__" : Str)) && !(id == ("__classdict__" : Str))
noncomputable def baseOk (e : PySem.Expr) : Bool := e.ctorIdx != 16 || onCall e fun f _ _ _ => onAttr f fun _ _ _ => true
noncomputable def noSlice (e : PySem.Expr) : Bool := e.ctorIdx != 26
noncomputable def noStar (e : PySem.Expr) : Bool := e.ctorIdx != 22
noncomputable def nameIs (sc : Scope) (n : String) (e : PySem.Expr) : Bool := onName e fun id _ => id == Str.ofString n && isGlob sc id && plainName id
noncomputable def notSet (e : PySem.Expr) : Bool := e.ctorIdx != 7
noncomputable def isLC (e : PySem.Expr) : Bool := e.ctorIdx == 8
noncomputable def litOk (v : AV) (cc : Const) : Bool := match v with
  | .none => cc == .none
  | .bool a => cc == .bool a
  | .int a => cc == .int a
  | .str a => cc == .str a && PyData.strOk a
  | .ref _ => false
noncomputable def isComp (e : X) : Bool := e.ctorIdx == (X.comp (.var 0) 0 false (.var 0) none).ctorIdx
noncomputable def hideN (nm : List Str) (ts : List Str) : List Str := nm.map fun x => if ts.contains x then ⟨#[]⟩ else x
inductive TgN : PySem.Expr → Bool → List Str → Prop
  | name {t p} : TgN (.Name t p) false [t]
noncomputable def compScOk (sc csc : Scope) (nm ts : List Str) : Bool :=
  csc.kind == .function && ts.all (fun t => csc.names.lookup t == some .local && t.length != 0 && plainName t) && decide ts.Nodup && !nm.contains (Str.ofString ".0") &&
  csc.names.all (fun p => p.2 != .cell && (p.2 != .local || (csc.names.lookup p.1 == some .local && (ts.contains p.1 || p.1 == Str.ofString ".0"))) && (p.2 != .free || (sc.names.lookup p.1 == some .cell && nm.contains p.1 && csc.names.lookup p.1 == some .free)) && p.1.length != 0)

abbrev EB := PySem.Expr → Bool
section
variable {m : PySem.Expr → Prop} {e : PySem.Expr} {sc : Scope} {nm : List Str} {a b c d i : EB} {xs : List PySem.Expr → Bool}
theorem name_ind {n : String} (h : nameIs sc n e = true) (f : ∀ id p, nameIs sc n (.Name id p) = true → m (.Name id p)) : m e := onName_ind h f
noncomputable def mLit (v : AV) (e : PySem.Expr) : Bool := onConst e fun cc _ _ => litOk v cc
noncomputable def mVar (sc : Scope) (nm : List Str) (i : Nat) (e : PySem.Expr) : Bool := onName e fun id _ => nm[i]? == some id && kindOk sc id && plainName id
theorem mVar_ind {i : Nat} (h : mVar sc nm i e = true) (f : ∀ id p, nm[i]? = some id → kindOk sc id = true → plainName id = true → m (.Name id p)) : m e :=
  onName_ind h fun id p h => have h2 := and2 h; have h1 := and2 h2.1; f id p (eq_of_beq h1.1) h1.2 h2.2
noncomputable def mBin (op : Operator) (a b : EB) (e : PySem.Expr) : Bool := onBin e fun l op' r _ => op' == op && a l && b r
theorem mBin_ind {op : Operator} (h : mBin op a b e = true) (f : ∀ l r p, a l = true → b r = true → m (.BinOp l op r p)) : m e :=
  onBin_ind h fun l _ r p h => have h2 := and2 h; have h1 := and2 h2.1; eq_of_beq h1.1 ▸ f l r p h1.2 h2.2
noncomputable def mNeg (a : EB) (e : PySem.Expr) : Bool := onUn e fun o x _ => o == .USub && a x
theorem mNeg_ind (h : mNeg a e = true) (f : ∀ x p, a x = true → m (.UnaryOp .USub x p)) : m e :=
  onUn_ind h fun _ x p h => eq_of_beq (and2 h).1 ▸ f x p (and2 h).2
noncomputable def mNot (a : EB) (e : PySem.Expr) : Bool := onUn e fun o x _ => o == .Not && a x
theorem mNot_ind (h : mNot a e = true) (f : ∀ x p, a x = true → m (.UnaryOp .Not x p)) : m e :=
  onUn_ind h fun _ x p h => eq_of_beq (and2 h).1 ▸ f x p (and2 h).2
noncomputable def mAo (isAnd : Bool) (xs : List PySem.Expr → Bool) (e : PySem.Expr) : Bool := onBool e fun op vs _ => (op == (if isAnd then PySem.BoolOp.And else PySem.BoolOp.Or)) && xs vs
theorem mAo_ind {isAnd : Bool} (h : mAo isAnd xs e = true) (f : ∀ vs p, xs vs = true → m (.BoolOp (if isAnd then PySem.BoolOp.And else PySem.BoolOp.Or) vs p)) : m e :=
  onBool_ind h fun _ vs p h => eq_of_beq (and2 h).1 ▸ f vs p (and2 h).2
noncomputable def mCmp (op : CmpOp) (a b : EB) (e : PySem.Expr) : Bool := onCmp e fun l os rs _ => on1 os fun op' => on1 rs fun r => op' == op && !behindInMarks op' r && a l && b r
theorem not1 {b : Bool} (h : (!b) = true) : b = false := match b, h with
  | false, _ => rfl
  | true, h => Bool.noConfusion h
theorem mCmp_ind {op : CmpOp} (h : mCmp op a b e = true) (f : ∀ l r p, behindInMarks op r = false → a l = true → b r = true → m (.Compare l [op] [r] p)) : m e :=
  onCmp_ind h fun l os rs p h => on1_ind (m := fun os => m (.Compare l os rs p)) h fun o h => on1_ind (m := fun rs => m (.Compare l [o] rs p)) h fun r h =>
    have h2 := and2 h; have h1 := and2 h2.1; have h0 := and2 h1.1; eq_of_beq h0.1 ▸ f l r p (eq_of_beq h0.1 ▸ not1 h0.2) h1.2 h2.2
noncomputable def mCmp2 (op₁ op₂ : CmpOp) (a b d : EB) (e : PySem.Expr) : Bool := onCmp e fun l os rs _ => on2 os fun o₁ o₂ => on2 rs fun r₁ r₂ => (o₁ == op₁ && o₂ == op₂) && (!lastMarks [op₁, op₂] [r₁, r₂] && a l && b r₁ && d r₂)
theorem mCmp2_ind {op₁ op₂ : CmpOp} (h : mCmp2 op₁ op₂ a b d e = true) (f : ∀ l r₁ r₂ p, lastMarks [op₁, op₂] [r₁, r₂] = false → a l = true → b r₁ = true → d r₂ = true → m (.Compare l [op₁, op₂] [r₁, r₂] p)) : m e :=
  onCmp_ind h fun l os rs p h => on2_ind (m := fun os => m (.Compare l os rs p)) h fun o₁ o₂ h => on2_ind (m := fun rs => m (.Compare l [o₁, o₂] rs p)) h fun r₁ r₂ h =>
    have h4 := and2 h; have h3 := and2 h4.2; have h2 := and2 h3.1; have h1 := and2 h2.1; eq_of_beq (and2 h4.1).1 ▸ eq_of_beq (and2 h4.1).2 ▸ f l r₁ r₂ p (not1 h1.1) h1.2 h2.2 h3.2
noncomputable def mSub (a i : EB) (e : PySem.Expr) : Bool := onSub e fun v sl _ => noSlice sl && a v && i sl
theorem mSub_ind (h : mSub a i e = true) (f : ∀ v sl p, noSlice sl = true → a v = true → i sl = true → m (.Subscript v sl p)) : m e :=
  onSub_ind h fun v sl p h => have h2 := and2 h; have h1 := and2 h2.1; f v sl p h1.1 h1.2 h2.2
noncomputable def mAttr (a : EB) (n : String) (e : PySem.Expr) : Bool := onAttr e fun v at' _ => at' == Str.ofString n && baseOk v && a v
theorem mAttr_ind {n : String} (h : mAttr a n e = true) (f : ∀ v p, baseOk v = true → a v = true → m (.Attribute v (Str.ofString n) p)) : m e :=
  onAttr_ind h fun v _ p h => have h2 := and2 h; have h1 := and2 h2.1; eq_of_beq h1.1 ▸ f v p h1.2 h2.2
noncomputable def mCall (sc : Scope) (ok : Bool) (f : String) (xs : List PySem.Expr → Bool) (e : PySem.Expr) : Bool := onCall e fun fe args ks _ => ks.isEmpty && nameIs sc f fe && ok && xs args
theorem mCall_ind {ok : Bool} {n : String} (h : mCall sc ok n xs e = true) (f : ∀ fe args p, nameIs sc n fe = true → ok = true → xs args = true → m (.Call fe args [] p)) : m e :=
  onCall_ind h fun fe args _ p h => have h3 := and2 h; have h2 := and2 h3.1; have h1 := and2 h2.1; nil_ind (m := fun ks => m (.Call fe args ks p)) h1.1 (f fe args p h1.2 h2.2 h3.2)
noncomputable def mMeth (n : String) (a : EB) (xs : List PySem.Expr → Bool) (e : PySem.Expr) : Bool := onCall e fun fe args ks pos => onAttr fe fun o name apos => (ks.isEmpty && name == Str.ofString n) && ((apos.endLine == pos.line) && baseOk o && decide (args.length < 29) && a o && xs args)
theorem mMeth_ind {n : String} (h : mMeth n a xs e = true) (f : ∀ o apos args pos, (apos.endLine == pos.line) = true → baseOk o = true → args.length < 29 → a o = true → xs args = true → m (.Call (.Attribute o (Str.ofString n) apos) args [] pos)) : m e :=
  onCall_ind h fun fe args ks pos h => onAttr_ind (m := fun fe => m (.Call fe args ks pos)) h fun o _ apos h =>
    have h5 := and2 h; have h0 := and2 h5.1; have h4 := and2 h5.2; have h3 := and2 h4.1; have h2 := and2 h3.1; have h1 := and2 h2.1
    eq_of_beq h0.2 ▸ nil_ind (m := fun ks => m (.Call (.Attribute o _ apos) args ks pos)) h0.1 (eq_of_beq h0.2 ▸ f o apos args pos h1.1 h1.2 (of_decide_eq_true h2.2) h3.2 h4.2)
noncomputable def mIsi (P : Pg) (sc : Scope) (a : EB) (ty : String) (e : PySem.Expr) : Bool := onCall e fun fe args ks _ => on2 args fun x t => (ks.isEmpty && noStar x) && (nameIs sc "isinstance" fe && P.prims.contains "isinstance" && (P.prims.contains ty || (P.excs.lookup ty).isSome) && nameIs sc ty t && a x)
theorem mIsi_ind {P : Pg} {ty : String} (h : mIsi P sc a ty e = true) (f : ∀ fe x t p, noStar x = true → nameIs sc "isinstance" fe = true → P.prims.contains "isinstance" = true → (P.prims.contains ty || (P.excs.lookup ty).isSome) = true → nameIs sc ty t = true → a x = true → m (.Call fe [x, t] [] p)) : m e :=
  onCall_ind h fun fe args ks p h => on2_ind (m := fun args => m (.Call fe args ks p)) h fun x t h =>
    have h5 := and2 h; have h0 := and2 h5.1; have h4 := and2 h5.2; have h3 := and2 h4.1; have h2 := and2 h3.1; have h1 := and2 h2.1
    nil_ind (m := fun ks => m (.Call fe [x, t] ks p)) h0.1 (f fe x t p h0.2 h1.1 h1.2 h2.2 h3.2 h4.2)
noncomputable def mList (xs : List PySem.Expr → Bool) (e : PySem.Expr) : Bool := onList e fun es _ => xs es && decide (es.length < 1000)
theorem mList_ind (h : mList xs e = true) (f : ∀ es p, xs es = true → es.length < 1000 → m (.List es p)) : m e :=
  onList_ind h fun es p h => f es p (and2 h).1 (of_decide_eq_true (and2 h).2)
noncomputable def mTup (xs : List PySem.Expr → Bool) (e : PySem.Expr) : Bool := onTup e fun es _ _ => xs es && decide (es.length < 1000)
theorem mTup_ind (h : mTup xs e = true) (f : ∀ es k p, xs es = true → es.length < 1000 → m (.Tuple es k p)) : m e :=
  onTup_ind h fun es k p h => f es k p (and2 h).1 (of_decide_eq_true (and2 h).2)
noncomputable def mDict (ks vs : List X) (mk : List (Option PySem.Expr) → Bool) (mv : List PySem.Expr → Bool) (e : PySem.Expr) : Bool := onDict e fun ks' vs' _ => match ks, vs with
  | [], [] => ks'.isEmpty && vs'.isEmpty
  | [_], [_] => mk ks' && mv vs'
  | _, _ => false
theorem mDict0_ind {mk : List (Option PySem.Expr) → Bool} {mv : List PySem.Expr → Bool} (h : mDict [] [] mk mv e = true) (f : ∀ p, m (.Dict [] [] p)) : m e :=
  onDict_ind h fun ks vs p h => nil_ind (m := fun ks => m (.Dict ks vs p)) (and2 h).1 (nil_ind (m := fun vs => m (.Dict [] vs p)) (and2 h).2 (f p))
theorem mDict1_ind {k v : X} {mk : List (Option PySem.Expr) → Bool} {mv : List PySem.Expr → Bool} (h : mDict [k] [v] mk mv e = true) (f : ∀ ks vs p, mk ks = true → mv vs = true → m (.Dict ks vs p)) : m e :=
  onDict_ind h fun ks vs p h => f ks vs p (and2 h).1 (and2 h).2
noncomputable def goOk (k : Nat) (sc csc : Scope) (nm : List Str) (it : EB) (x : Scope → List Str → EB) (c : Scope → List Str → List PySem.Expr → Bool) (elt iter : PySem.Expr) (ifs : List PySem.Expr) (ia : Int) (ts : List Str) : Bool :=
  (ia == 0 && k == ts.length) && (notSet iter && it iter && compScOk sc csc nm ts && x csc (hideN nm ts ++ ts) elt && c csc (hideN nm ts ++ ts) ifs)
noncomputable def mComp (top tup : Bool) (k : Nat) (sc : Scope) (nm : List Str) (it : EB) (x : Scope → List Str → EB) (c : Scope → List Str → List PySem.Expr → Bool) (e : PySem.Expr) : Bool := top && (onLC e fun elt gs csc _ => on1 gs fun g =>
  match tup with
  | false => onName g.target fun t _ => goOk k sc csc nm it x c elt g.iter g.ifs g.is_async [t]
  | true => false)
structure CompOk (k : Nat) (sc csc : Scope) (nm ts : List Str) (it : EB) (x : Scope → List Str → EB) (c : Scope → List Str → List PySem.Expr → Bool) (elt iter : PySem.Expr) (ifs : List PySem.Expr) : Prop where
  len : k = ts.length
  set : notSet iter = true
  it : it iter = true
  sc : compScOk sc csc nm ts = true
  x : x csc (hideN nm ts ++ ts) elt = true
  c : c csc (hideN nm ts ++ ts) ifs = true
theorem goOk_ind {tup : Bool} {k : Nat} {it : EB} {x : Scope → List Str → EB} {c : Scope → List Str → List PySem.Expr → Bool} {csc : Scope} {elt tg iter : PySem.Expr} {ifs : List PySem.Expr} {ia : Int} {p : Pos} {ts : List Str}
    (f : ∀ elt tg iter ifs csc ts p, TgN tg tup ts → CompOk k sc csc nm ts it x c elt iter ifs → m (.ListComp elt [⟨tg, iter, ifs, 0⟩] csc p)) (ht : TgN tg tup ts) (h : goOk k sc csc nm it x c elt iter ifs ia ts = true) : m (.ListComp elt [⟨tg, iter, ifs, ia⟩] csc p) :=
  have h5 := and2 h; have h0 := and2 h5.1; have h4 := and2 h5.2; have h3 := and2 h4.1; have h2 := and2 h3.1; have h1 := and2 h2.1
  eq_of_beq h0.1 ▸ f elt tg iter ifs csc ts p ht ⟨eq_of_beq h0.2, h1.1, h1.2, h2.2, h3.2, h4.2⟩
set_option tactic.hygienic false in
theorem mComp_ind {top tup : Bool} {k : Nat} {it : EB} {x : Scope → List Str → EB} {c : Scope → List Str → List PySem.Expr → Bool} (h : mComp top tup k sc nm it x c e = true)
    (f : ∀ elt tg iter ifs csc ts p, TgN tg tup ts → CompOk k sc csc nm ts it x c elt iter ifs → m (.ListComp elt [⟨tg, iter, ifs, 0⟩] csc p)) : m e := by
  refine onLC_ind (and2 h).2 fun elt gs csc p h => on1_ind (m := fun gs => m (.ListComp elt gs csc p)) h fun G h => ?_
  cases G with
  | mk tg iter ifs ia =>
  cases tup with
  | false => exact onName_ind (m := fun tg => m (.ListComp elt [⟨tg, iter, ifs, ia⟩] csc p)) h fun _ _ h => goOk_ind f .name h
  | true => exact Bool.noConfusion h
end

mutual
noncomputable def mtX (P : Pg) (top : Bool) (sc : Scope) (nm : List Str) : X → PySem.Expr → Bool
  | .lit v, e => mLit v e
  | .var i, e => mVar sc nm i e
  | .glob n, e => nameIs sc n e
  | .bin op a b, e => mBin op (mtX P top sc nm a) (mtX P top sc nm b) e
  | .neg a, e => mNeg (mtX P top sc nm a) e
  | .not a, e => mNot (mtX P top sc nm a) e
  | .ao isAnd xs, e => mAo isAnd (mtXs P top sc nm xs) e
  | .cmp op a b, e => mCmp op (mtX P top sc nm a) (mtX P top sc nm b) e
  | .cmp2 op₁ op₂ a b d, e => mCmp2 op₁ op₂ (mtX P top sc nm a) (mtX P top sc nm b) (mtX P top sc nm d) e
  | .sub a i, e => mSub (mtX P top sc nm a) (mtX P top sc nm i) e
  | .attr a n, e => mAttr (mtX P top sc nm a) n e
  | .call f xs, e => mCall sc (P.gfns.contains f) f (mtXs P top sc nm xs) e
  | .new cl xs, e => mCall sc (P.classes.contains cl) cl (mtXs P top sc nm xs) e
  | .meth a m xs, e => mMeth m (mtX P top sc nm a) (mtXs P top sc nm xs) e
  | .bm a m xs, e => mMeth m.str (mtX P top sc nm a) (mtXs P top sc nm xs) e
  | .prim f xs, e => mCall sc (P.prims.contains f.str) f.str (mtXs P top sc nm xs) e
  | .isinst a ty, e => mIsi P sc (mtX P top sc nm a) ty e
  | .list xs, e => mList (mtXs P top sc nm xs) e
  | .tuple xs, e => mTup (mtXs P top sc nm xs) e
  | .dict ks vs, e => mDict ks vs (mtOs P top sc nm ks) (mtXs P top sc nm vs) e
  | .comp x k tup it c, e => mComp top tup k sc nm (mtX P top sc nm it) (fun csc nm' => mtX P false csc nm' x) (fun csc nm' => mtC P csc nm' c) e
noncomputable def mtXs (P : Pg) (top : Bool) (sc : Scope) (nm : List Str) : List X → List PySem.Expr → Bool
  | [], es => es.isEmpty
  | x :: r, es => onC es fun e q => mtX P top sc nm x e && noStar e && mtXs P top sc nm r q
noncomputable def mtOs (P : Pg) (top : Bool) (sc : Scope) (nm : List Str) : List X → List (Option PySem.Expr) → Bool
  | [], es => es.isEmpty
  | x :: r, es => onC es fun o q => (onSome o fun e => mtX P top sc nm x e) && mtOs P top sc nm r q
noncomputable def mtC (P : Pg) (sc : Scope) (nm : List Str) : Option X → List PySem.Expr → Bool
  | none, es => es.isEmpty
  | some x, es => on1 es fun e => mtX P false sc nm x e
end

noncomputable def locKind (sc : Scope) (id : Str) : Bool := match sc.names.lookup id with
  | some .local => true
  | some .cell => true
  | _ => false
inductive OVW : Option AV → Option Value → Prop
  | none {x} : OVW Option.none x
  | some {a v} : VR a v → OVW (Option.some a) (Option.some v)
structure Frm (R : RR) (env : Env) (sc : Scope) (nm : List Str) (V : VV) : Prop where
  kind : env.scope.kind = .function
  glob : env.globals = mainGlobals
  blt : env.builtins = builtinsNs
  sco : ∀ id, isGlob sc id = true → env.kindOf id = some .globalImplicit
  kok : ∀ id, kindOk sc id = true → env.kindOf id = some .local ∨ env.kindOf id = some .cell ∨ env.kindOf id = some .free
  lok : ∀ id, locKind sc id = true → env.kindOf id = some .local ∨ env.kindOf id = some .cell
  lco : ∀ id, sc.names.lookup id = some .local → env.kindOf id = some .local
  cco : ∀ id, sc.names.lookup id = some .cell → env.kindOf id = some .cell
  len : V.length = nm.length
  inj : ∀ n n' a, env.cells.lookup n = some a → env.cells.lookup n' = some a → n = n'
  ns : ∃ m, R env.locals = some (.ns m) ∧ ∀ (i : Nat) n, nm[i]? = some n → env.kindOf n = some .local → ∃ v, V[i]? = some v ∧ OVW v (m n)
  cell : ∀ (i : Nat) n, nm[i]? = some n → (env.kindOf n = some .cell ∨ env.kindOf n = some .free) → ∃ a x v, env.cells.lookup n = some a ∧ R a = some (.cell x) ∧ V[i]? = some v ∧ OVW v x

noncomputable def veM : List Value := [.type "ValueError", .type "Exception", .type "BaseException", .type "object"]
noncomputable def typeNames : List String := ["int", "bool", "str", "list"]
structure PgOk (c : Cx) : Prop where
  fn : ∀ f, c.P.gfns.contains f = true → nsIn c.K mainGlobals (Str.ofString f) = some (some (.ref (c.fa f))) ∧ keepIn c.K (.ref (c.fa f)) = true
  cls : ∀ cl, c.P.classes.contains cl = true → nsIn c.K mainGlobals (Str.ofString cl) = some (some (.ref (c.ca cl))) ∧ keepIn c.K (.ref (c.ca cl)) = true ∧ makesIn c.K (c.ca cl) = true ∧
    findIn c.K (.ref (c.ca cl)) "__init__" = some (some (.ref (c.fa (cl ++ ".__init__")))) ∧ isFn c.K (.ref (c.fa (cl ++ ".__init__"))) = true
  meth : ∀ cl m, c.P.meths.contains (cl, m) = true → plainGet c.K (c.ca cl) (Str.ofString m) = true ∧ findIn c.K (.ref (c.ca cl)) (Str.ofString m) = some (some (.ref (c.fa (cl ++ "." ++ m)))) ∧ isFn c.K (.ref (c.fa (cl ++ "." ++ m))) = true ∧
    keepIn c.K (.ref (c.fa (cl ++ "." ++ m))) = true
  attr : ∀ cl n, c.P.attrs.contains (cl, n) = true → plainGet c.K (c.ca cl) (Str.ofString n) = true ∧ hasDictIn c.K (c.ca cl) = true ∧ findIn c.K (.ref (c.ca cl)) (Str.ofString n) = some none ∧
    findIn c.K (.ref (c.ca cl)) "__setattr__" = some (some (.builtin "object.__setattr__")) ∧ plainOver c.K (c.ca cl) = true ∧ takerIn c.K (c.ca cl) (Str.ofString n) = some none
  prim : ∀ f, c.P.prims.contains f = true → nsIn c.K mainGlobals (Str.ofString f) = some none ∧ (Str.ofString f == Str.ofString "__name__") = false ∧ bootBuiltins (Str.ofString f) = some (primValS f)
  exc : ∀ cl ty, ((c.P.excs.lookup cl).map (·.contains ty)).getD false = true → c.P.prims.contains ty = true → ty = "ValueError" ∧ subIn c.K (.ref (c.ca cl)) (.type ty) = some true
  excR : ∀ cl, (c.P.excs.lookup cl).isSome = true → nsIn c.K mainGlobals (Str.ofString cl) = some (some (.ref (c.ca cl))) ∧ excIn c.K (c.ca cl) veM "ValueError.__new__" = true ∧ instIn c.K (.ref (c.ca cl)) (.type "tuple") = some false ∧ subIn c.K (.ref (c.ca cl)) (.type "BaseException") = some true ∧ (clsIn c.K (c.ca cl)).isSome = true ∧
    typeIn c.K (.ref (c.ca cl)) = some (.type "type") ∧ instIn c.K (.ref (c.ca cl)) (.type "type") = some true ∧ typeNames.contains cl = false
  excC : ∀ cl d, (c.P.excs.lookup cl).isSome = true → (c.P.excs.lookup d).isSome = true → subIn c.K (.ref (c.ca cl)) (.ref (c.ca d)) = some (excSub c.P cl d)
  excG : ∀ cl, (c.P.excs.lookup cl).isSome = true → findIn c.K (.ref (c.ca cl)) "__getattribute__" = some (some (.builtin "BaseException.__getattribute__")) ∧ findIn c.K (.ref (c.ca cl)) "__getattr__" = some none ∧ findIn c.K (.ref (c.ca cl)) "__class__" = some (some (.builtin "object.__class__")) ∧
    specialIn c.K (.builtin "object.__class__") "__get__" = some (some (.builtin "getset_descriptor.__get__")) ∧ takesIn c.K (.builtin "object.__class__") = some true ∧ mroIn c.K (c.ca cl) (.type "object") = some true ∧ excSub c.P cl cl = true
  const : ∀ n v, c.P.consts.lookup n = some v → ∃ x, nsIn c.K mainGlobals (Str.ofString n) = some (some x) ∧ VR v x
end Mine

namespace Mine
noncomputable def onRet (e : PySem.Stmt) (k : Option PySem.Expr → Pos → Bool) : Bool := if h : e.ctorIdx = 3 then PySem.Stmt.Return.elim (motive_2 := fun _ => Bool) e h k else false
theorem onRet_ind {m : PySem.Stmt → Prop} {e : PySem.Stmt} {k : Option PySem.Expr → Pos → Bool} (h : onRet e k = true) (f : ∀ v p, k v p = true → m (.Return v p)) : m e :=
  (dn h).elim fun q z => PySem.Stmt.Return.elim (motive_2 := fun e => ∀ q, PySem.Stmt.Return.elim (motive_2 := fun _ => Bool) e q k = true → m e) e q (fun v p _ z => f v p z) q z
noncomputable def onAsg (e : PySem.Stmt) (k : List PySem.Expr → PySem.Expr → Pos → Bool) : Bool := if h : e.ctorIdx = 5 then PySem.Stmt.Assign.elim (motive_2 := fun _ => Bool) e h k else false
theorem onAsg_ind {m : PySem.Stmt → Prop} {e : PySem.Stmt} {k : List PySem.Expr → PySem.Expr → Pos → Bool} (h : onAsg e k = true) (f : ∀ ts v p, k ts v p = true → m (.Assign ts v p)) : m e :=
  (dn h).elim fun q z => PySem.Stmt.Assign.elim (motive_2 := fun e => ∀ q, PySem.Stmt.Assign.elim (motive_2 := fun _ => Bool) e q k = true → m e) e q (fun ts v p _ z => f ts v p z) q z
noncomputable def onFor (e : PySem.Stmt) (k : PySem.Expr → PySem.Expr → List Stmt → List Stmt → Pos → Bool) : Bool := if h : e.ctorIdx = 9 then PySem.Stmt.For.elim (motive_2 := fun _ => Bool) e h k else false
theorem onFor_ind {m : PySem.Stmt → Prop} {e : PySem.Stmt} {k : PySem.Expr → PySem.Expr → List Stmt → List Stmt → Pos → Bool} (h : onFor e k = true) (f : ∀ t i b o p, k t i b o p = true → m (.For t i b o p)) : m e :=
  (dn h).elim fun q z => PySem.Stmt.For.elim (motive_2 := fun e => ∀ q, PySem.Stmt.For.elim (motive_2 := fun _ => Bool) e q k = true → m e) e q (fun t i b o p _ z => f t i b o p z) q z
noncomputable def onWhile (e : PySem.Stmt) (k : PySem.Expr → List Stmt → List Stmt → Pos → Bool) : Bool := if h : e.ctorIdx = 11 then PySem.Stmt.While.elim (motive_2 := fun _ => Bool) e h k else false
theorem onWhile_ind {m : PySem.Stmt → Prop} {e : PySem.Stmt} {k : PySem.Expr → List Stmt → List Stmt → Pos → Bool} (h : onWhile e k = true) (f : ∀ t b o p, k t b o p = true → m (.While t b o p)) : m e :=
  (dn h).elim fun q z => PySem.Stmt.While.elim (motive_2 := fun e => ∀ q, PySem.Stmt.While.elim (motive_2 := fun _ => Bool) e q k = true → m e) e q (fun t b o p _ z => f t b o p z) q z
noncomputable def onIfS (e : PySem.Stmt) (k : PySem.Expr → List Stmt → List Stmt → Pos → Bool) : Bool := if h : e.ctorIdx = 12 then PySem.Stmt.If.elim (motive_2 := fun _ => Bool) e h k else false
theorem onIfS_ind {m : PySem.Stmt → Prop} {e : PySem.Stmt} {k : PySem.Expr → List Stmt → List Stmt → Pos → Bool} (h : onIfS e k = true) (f : ∀ t b o p, k t b o p = true → m (.If t b o p)) : m e :=
  (dn h).elim fun q z => PySem.Stmt.If.elim (motive_2 := fun e => ∀ q, PySem.Stmt.If.elim (motive_2 := fun _ => Bool) e q k = true → m e) e q (fun t b o p _ z => f t b o p z) q z
noncomputable def onRaise (e : PySem.Stmt) (k : Option PySem.Expr → Option PySem.Expr → Pos → Bool) : Bool := if h : e.ctorIdx = 16 then PySem.Stmt.Raise.elim (motive_2 := fun _ => Bool) e h k else false
theorem onRaise_ind {m : PySem.Stmt → Prop} {e : PySem.Stmt} {k : Option PySem.Expr → Option PySem.Expr → Pos → Bool} (h : onRaise e k = true) (f : ∀ x c p, k x c p = true → m (.Raise x c p)) : m e :=
  (dn h).elim fun q z => PySem.Stmt.Raise.elim (motive_2 := fun e => ∀ q, PySem.Stmt.Raise.elim (motive_2 := fun _ => Bool) e q k = true → m e) e q (fun x c p _ z => f x c p z) q z
noncomputable def onTry (e : PySem.Stmt) (k : List Stmt → List ExceptHandler → List Stmt → List Stmt → Pos → Bool) : Bool := if h : e.ctorIdx = 17 then PySem.Stmt.Try.elim (motive_2 := fun _ => Bool) e h k else false
theorem onTry_ind {m : PySem.Stmt → Prop} {e : PySem.Stmt} {k : List Stmt → List ExceptHandler → List Stmt → List Stmt → Pos → Bool} (h : onTry e k = true) (f : ∀ b hs o fi p, k b hs o fi p = true → m (.Try b hs o fi p)) : m e :=
  (dn h).elim fun q z => PySem.Stmt.Try.elim (motive_2 := fun e => ∀ q, PySem.Stmt.Try.elim (motive_2 := fun _ => Bool) e q k = true → m e) e q (fun b hs o fi p _ z => f b hs o fi p z) q z
noncomputable def onExpr (e : PySem.Stmt) (k : PySem.Expr → Pos → Bool) : Bool := if h : e.ctorIdx = 24 then PySem.Stmt.Expr.elim (motive_2 := fun _ => Bool) e h k else false
theorem onExpr_ind {m : PySem.Stmt → Prop} {e : PySem.Stmt} {k : PySem.Expr → Pos → Bool} (h : onExpr e k = true) (f : ∀ v p, k v p = true → m (.Expr v p)) : m e :=
  (dn h).elim fun q z => PySem.Stmt.Expr.elim (motive_2 := fun e => ∀ q, PySem.Stmt.Expr.elim (motive_2 := fun _ => Bool) e q k = true → m e) e q (fun v p _ z => f v p z) q z
noncomputable def onPass (e : PySem.Stmt) (k : Pos → Bool) : Bool := if h : e.ctorIdx = 25 then PySem.Stmt.Pass.elim (motive_2 := fun _ => Bool) e h k else false
theorem onPass_ind {m : PySem.Stmt → Prop} {e : PySem.Stmt} {k : Pos → Bool} (h : onPass e k = true) (f : ∀ p, k p = true → m (.Pass p)) : m e :=
  (dn h).elim fun q z => PySem.Stmt.Pass.elim (motive_2 := fun e => ∀ q, PySem.Stmt.Pass.elim (motive_2 := fun _ => Bool) e q k = true → m e) e q (fun p _ z => f p z) q z
noncomputable def notComp (e : PySem.Expr) : Bool := e.ctorIdx != 8 && e.ctorIdx != 9 && e.ctorIdx != 10 && e.ctorIdx != 7
noncomputable def tgtOk (sc : Scope) (nm : List Str) (i : Nat) (e : PySem.Expr) : Bool := onName e fun id _ => nm[i]? == some id && locKind sc id
theorem tgt_ind {sc : Scope} {nm : List Str} {i : Nat} {m : PySem.Expr → Prop} {e : PySem.Expr} (h : tgtOk sc nm i e = true) (f : ∀ id p, nm[i]? = some id → locKind sc id = true → m (.Name id p)) : m e :=
  onName_ind h fun id p h => f id p (eq_of_beq (and2 h).1) (and2 h).2
noncomputable def tgOk (sc : Scope) (nm : List Str) (t : Tg) (e : PySem.Expr) : Bool := match t with
  | .var i => tgtOk sc nm i e
  | .tup _ => false
noncomputable def notTup (e : PySem.Expr) : Bool := e.ctorIdx != 25
noncomputable def mtT (P : Pg) (sc : Scope) (nm : List Str) (t : T) (e : PySem.Expr) : Bool := match t with
  | .var i => tgtOk sc nm i e
  | .sub a i => onSub e fun v sl _ => noSlice sl && mtX P true sc nm a v && mtX P true sc nm i sl
  | .attr a n => onAttr e fun v at' _ => at' == Str.ofString n && mtX P true sc nm a v
  | .tup _ => false
noncomputable def notTupT : T → Bool
  | .tup _ => false
  | _ => true
noncomputable def mStr1 (msg : Str) (es : List PySem.Expr) : Bool := on1 es fun e => mLit (.str msg) e
noncomputable def nmOk (sc : Scope) (nm : List Str) (nmi : Option Nat) (name : Option Str) : Bool := match nmi with
  | none => name.isNone
  | some i => onSome name fun n => nm[i]? == some n && sc.names.lookup n == some .local
mutual
noncomputable def mtS (P : Pg) (sc : Scope) (nm : List Str) : S → Stmt → Bool
  | .assign t e, st => onAsg st fun ts v _ => on1 ts fun tg => (notComp v || (isLC v && isComp e)) && (notTup v || notTupT t) && mtT P sc nm t tg && mtX P true sc nm e v
  | .expr e, st => onExpr st fun v _ => notComp v && mtX P true sc nm e v
  | .ret e, st => onRet st fun v _ => onSome v fun v => mtX P true sc nm e v
  | .ite c a b, st => onIfS st fun t x y _ => mtX P true sc nm c t && mtSs P sc nm a x && mtSs P sc nm b y
  | .while c b, st => onWhile st fun t x o _ => o.isEmpty && (mtX P true sc nm c t && mtSs P sc nm b x)
  | .for t it b, st => onFor st fun tg iter x o _ => o.isEmpty && (notSet iter && tgOk sc nm t tg && mtX P true sc nm it iter && mtSs P sc nm b x)
  | .raise cl msg, st => onRaise st fun c z _ => z.isNone && onSome c fun c => mCall sc (P.excs.lookup cl).isSome cl (mStr1 msg) c
  | .try b hs, st => onTry st fun x hs' o z _ => (o.isEmpty && z.isEmpty) && (mtSs P sc nm b x && onC hs' fun h₀ r => mtHs P sc nm hs (h₀ :: r))
  | .pass, st => onPass st fun _ => true
noncomputable def mtSs (P : Pg) (sc : Scope) (nm : List Str) : List S → List Stmt → Bool
  | [], es => es.isEmpty
  | x :: r, es => onC es fun e q => mtS P sc nm x e && mtSs P sc nm r q
noncomputable def mtHs (P : Pg) (sc : Scope) (nm : List Str) : List Hd → List ExceptHandler → Bool
  | [], es => es.isEmpty
  | h :: r, es => onC es fun e q => mtH P sc nm h e && mtHs P sc nm r q
noncomputable def mtH (P : Pg) (sc : Scope) (nm : List Str) : Hd → ExceptHandler → Bool
  | .mk cl nmi b, e => match e with
    | .ExceptHandler ty name body _ => onSome ty fun t => onC body fun x body => nameIs sc cl t && (P.excs.lookup cl).isSome && mtSs P sc nm b (x :: body) && nmOk sc nm nmi name
end
end Mine

end
section
open PySem PySem.W PyProof.Rows PySem.Spec PySem.SeqAt PySem.Calls
namespace Mine

noncomputable def HX (g : Gx) (A : Around) (R : RR) (V : VV) (s₀ : Shared) (x : X) (t : Sem Value) : Prop :=
  ∀ (H : AHeap) (s : Shared) (Q : AV → AHeap → Prop) (E : String → AHeap → Prop), St g.c R H s.heap → Sm s₀ s → wpX g x V Q E H → wpAny (model g.c.prog g.c.w) A t (TQ g R s₀ Q) (TE g R s₀ E) s
inductive TTi (c : Cx) (R : RR) (s₀ : Shared) (Q : AV → Bool → AHeap → Prop) (b : Bool) (s' : Shared) : Prop
  | mk (v : AV) (H' : AHeap) (S : St c R H' s'.heap) (m : Sm s₀ s') (q : Q v b H') (h : ∀ P : Bool → Prop, wtruth v H' P → P b) : TTi c R s₀ Q b s'
noncomputable def TT (g : Gx) (R : RR) (s₀ : Shared) (Q : AV → Bool → AHeap → Prop) (b : Bool) (s' : Shared) : Prop := TTi g.c R s₀ Q b s'
noncomputable def HT (g : Gx) (A : Around) (R : RR) (V : VV) (s₀ : Shared) (x : X) (t : Sem Bool) : Prop :=
  ∀ (H : AHeap) (s : Shared) (Q : AV → Bool → AHeap → Prop) (E : String → AHeap → Prop), St g.c R H s.heap → Sm s₀ s → wpX g x V (fun v H => wtruth v H fun b => Q v b H) E H →
    wpAny (model g.c.prog g.c.w) A t (TT g R s₀ Q) (TE g R s₀ E) s
inductive TQsi (c : Cx) (R : RR) (s₀ : Shared) (Q : List AV → AHeap → Prop) (vs : List Value) (s' : Shared) : Prop
  | mk (as : List AV) (H' : AHeap) (hv : VRs as vs) (S : St c R H' s'.heap) (m : Sm s₀ s') (q : Q as H') : TQsi c R s₀ Q vs s'
noncomputable def TQs (g : Gx) (R : RR) (s₀ : Shared) (Q : List AV → AHeap → Prop) (vs : List Value) (s' : Shared) : Prop := TQsi g.c R s₀ Q vs s'
noncomputable def HXs (g : Gx) (A : Around) (R : RR) (V : VV) (s₀ : Shared) (xs : List X) (t : Sem (List Value)) : Prop :=
  ∀ (H : AHeap) (s : Shared) (Q : List AV → AHeap → Prop) (E : String → AHeap → Prop), St g.c R H s.heap → Sm s₀ s → wpXs g xs V Q E H → wpAny (model g.c.prog g.c.w) A t (TQs g R s₀ Q) (TE g R s₀ E) s

set_option tactic.hygienic false in
theorem wtruth_self {v : AV} {H : AHeap} {P : Bool → Prop} (h : wtruth v H P) : ∃ b, P b ∧ (∀ P' : Bool → Prop, wtruth v H P' → P' b) ∧ ∀ P' : Bool → Prop, P' b → wtruth v H P' := by
  cases v with
  | none => exact ⟨_, h, fun _ x => x, fun _ x => x⟩
  | bool b => exact ⟨_, h, fun _ x => x, fun _ x => x⟩
  | int i => exact ⟨_, h, fun _ x => x, fun _ x => x⟩
  | str s => exact ⟨_, h.2, fun _ x => x.2, fun _ x => ⟨h.1, x⟩⟩
  | ref a =>
    have t : ∀ {P' : Bool → Prop}, wtruth (.ref a) H P' = _ := t_ref
    rw [t] at h; simp only [t]
    generalize H a = o at h ⊢
    cases o with
    | none => exact h.elim
    | some o => cases o with
      | list xs => exact ⟨_, h.2, fun P' x => x.2, fun P' x => ⟨h.1, x⟩⟩
      | tuple xs => exact ⟨_, h.2, fun P' x => x.2, fun P' x => ⟨h.1, x⟩⟩
      | _ => exact h.elim

section
variable {g : Gx} {A : Around} {R : RR} {V : VV} {s₀ : Shared} {env : Env} {mg mb : Str → Option Value} {e₀ : Env} {l₀ : List Env}

set_option tactic.hygienic false in
theorem s_truthT {H : AHeap} {s : Shared} {v : Value} {a : AV} {Q : AV → Bool → AHeap → Prop} {E : Value → Shared → Prop} (hv : VR a v) (S : St g.c R H s.heap) (m : Sm s₀ s) (q : wtruth a H (fun b => Q a b H)) :
    wpAny (model g.c.prog g.c.w) A (truthy v) (TT g R s₀ Q) E s := by
  obtain ⟨b, qb, hb, hb'⟩ := wtruth_self q
  refine wpAny_mono (s_truth (A := A) (E := E) (Qb := fun b' H' => H' = H ∧ b' = b) hv S m (hb' _ ⟨rfl, rfl⟩)) (fun b' s' h => ?_) fun _ _ x => x
  obtain ⟨H', S', m', e1, e2⟩ := h
  subst e1 e2
  exact ⟨a, H', S', m', qb, hb⟩

set_option tactic.hygienic false in
theorem HT.plain {x : X} {e : PySem.Expr} {whole : Sem Value} (h : HX g A R V s₀ x whole) (he : isTrue e env whole = (do let v ← whole; standAt e.pos; holding [v] (truthy v))) :
    HT g A R V s₀ x (isTrue e env whole) := fun H s Q E S m q => by
  refine isTrue_plain (wpAny_mono (h H s _ E S m q) (fun v s' z => ?_) fun _ _ z => z) he
  obtain ⟨a, H', hv, S', m', q'⟩ := z
  exact s_truthT hv S' m' q'

set_option tactic.hygienic false in
theorem hx_lit {v : AV} {cc : Const} {k : Nat} {p : Pos} (hc : litOk v cc = true) : HX g A R V s₀ (.lit v) (eval (.Constant cc k p) env) := fun H s Q E S m q => by
  cases v with
  | none => rw [eq_of_beq hc]; exact wpAny_Constant_none (TQ.pure .none S m q)
  | bool b => rw [eq_of_beq hc]; exact wpAny_Constant_bool (TQ.pure (.bool _) S m q)
  | int i => rw [eq_of_beq hc]; exact wpAny_Constant_int (TQ.toks (.int _ _) S m q)
  | str x => rw [eq_of_beq (and2 hc).1]; exact wpAny_Constant_str (TQ.toks (.str _ _ (and2 hc).2) S m q)
  | ref a => exact Bool.noConfusion hc

set_option tactic.hygienic false in
theorem hx_var {sc : Scope} {nm : List Str} {i : Nat} {id : Str} {p : Pos} (fr : Frm R env sc nm V) (h1 : nm[i]? = some id) (h2 : kindOk sc id = true) (h3 : plainName id = true) :
    HX g A R V s₀ (.var i) (eval (.Name id p) env) := fun H s Q E S m q => by
  unfold plainName at h3
  simp only [Bool.and_eq_true, Bool.not_eq_true'] at h3
  dsimp only [x_lit, x_var, x_bin, x_neg, x_not, x_ao, x_cmp, x_cmp2, x_sub, x_glob, x_call, x_prim, x_bm, x_isi, x_list, x_tup, x_new, x_dict0, x_dict1, x_attr, x_meth, x_comp] at q
  rcases fr.kok id h2 with k | k | k
  · obtain ⟨mm, r1, r2⟩ := fr.ns
    obtain ⟨v, e, ov⟩ := r2 i id h1 k
    rw [e] at q
    generalize hw : mm id = w at ov
    cases ov with
    | none => exact q.elim
    | some hv => exact wpAny_Name (wpAny_loadName_local fr.kind k (S.res _ _ r1).2 hw (TQ.pure hv S m q)) h3.1
  · obtain ⟨a, x, v, e1, e2, e3, ov⟩ := fr.cell i id h1 (.inl k)
    rw [e3] at q
    cases ov with
    | none => exact q.elim
    | some hv => exact wpAny_Name (wpAny_loadName_cell fr.kind k e1 (S.res _ _ e2).2 (TQ.pure hv S m q)) h3.1
  · obtain ⟨a, x, v, e1, e2, e3, ov⟩ := fr.cell i id h1 (.inr k)
    rw [e3] at q
    cases ov with
    | none => exact q.elim
    | some hv => exact wpAny_Name (wpAny_loadName_free fr.kind k e1 (S.res _ _ e2).2 (TQ.pure hv S m q) h3.2) h3.1

set_option tactic.hygienic false in
theorem glob_K {sc : Scope} {nm : List Str} {n : String} {e : PySem.Expr} {v : Value} {H : AHeap} {s : Shared} {Q : Value → Shared → Prop} {E : Value → Shared → Prop} (C : g.c.Ok mg mb) (fr : Frm R env sc nm V) (S : St g.c R H s.heap)
    (hn : nameIs sc n e = true) (hk : nsIn g.c.K mainGlobals (Str.ofString n) = some (some v)) (q : Q v s) : wpAny (model g.c.prog g.c.w) A (eval e env) Q E s := by
  refine onName_ind (m := fun e => wpAny (model g.c.prog g.c.w) A (eval e env) Q E s) hn fun id p hn => ?_
  have h2 := and2 hn; have h1 := and2 h2.1
  refine Name_function_global fr.kind (fr.sco _ h1.2) (loadGlobal_global (mg := mg) ?_ (eq_of_beq h1.1 ▸ mg_of C.kin C.g hk) q) (not1 (and2 h2.2).1)
  rw [fr.glob]; exact C.g.keeps S.stays
set_option tactic.hygienic false in
theorem glob_B {sc : Scope} {nm : List Str} {n : String} {e : PySem.Expr} {v : Value} {H : AHeap} {s : Shared} {Q : Value → Shared → Prop} {E : Value → Shared → Prop} (C : g.c.Ok mg mb) (fr : Frm R env sc nm V) (S : St g.c R H s.heap)
    (hn : nameIs sc n e = true) (hk : nsIn g.c.K mainGlobals (Str.ofString n) = some none) (hne : (Str.ofString n == Str.ofString "__name__") = false) (hb : bootBuiltins (Str.ofString n) = some v) (q : Q v s) :
    wpAny (model g.c.prog g.c.w) A (eval e env) Q E s := by
  refine onName_ind (m := fun e => wpAny (model g.c.prog g.c.w) A (eval e env) Q E s) hn fun id p hn => ?_
  have h2 := and2 hn; have h1 := and2 h2.1
  have he := eq_of_beq h1.1
  refine Name_function_global fr.kind (fr.sco _ h1.2) (loadGlobal_builtin (mg := mg) (mb := mb) ?_ (he ▸ mg_none_of C.kin C.g hk) ?_ (he ▸ (C.builtins _ (ne_of_beq_false hne)).trans hb) q) (not1 (and2 h2.2).1)
  · rw [fr.glob]; exact C.g.keeps S.stays
  · rw [fr.blt]; exact C.b.keeps S.stays

theorem hx_glob {sc : Scope} {nm : List Str} {n : String} {e : PySem.Expr} (C : g.c.Ok mg mb) (PO : PgOk g.c) (fr : Frm R env sc nm V) (hn : nameIs sc n e = true) : HX g A R V s₀ (.glob n) (eval e env) := fun H s Q E S m q => by
  dsimp only [x_lit, x_var, x_bin, x_neg, x_not, x_ao, x_cmp, x_cmp2, x_sub, x_glob, x_call, x_prim, x_bm, x_isi, x_list, x_tup, x_new, x_dict0, x_dict1, x_attr, x_meth, x_comp] at q
  split at q
  · rename_i v hv
    obtain ⟨x, h1, h2⟩ := PO.const n v hv
    exact glob_K C fr S hn h1 (TQ.pure h2 S m q)
  · exact q.elim

set_option tactic.hygienic false in
theorem hx_bin {op : Operator} {a b : X} {l r : PySem.Expr} {p : Pos} (C : g.c.Ok mg mb) (ev : Ev g A R e₀ l₀) (ha : HX g A R V s₀ a (eval l env)) (hb : HX g A R V s₀ b (eval r env)) : HX g A R V s₀ (.bin op a b) (eval (.BinOp l op r p) env) :=
  fun H s Q E S m q => by
  dsimp only [x_lit, x_var, x_bin, x_neg, x_not, x_ao, x_cmp, x_cmp2, x_sub, x_glob, x_call, x_prim, x_bm, x_isi, x_list, x_tup, x_new, x_dict0, x_dict1, x_attr, x_meth, x_comp] at q
  refine wpAny_BinOp (wpAny_mono (ha H s _ E S m q) (fun u s₁ z => ?_) fun _ _ z => z)
  obtain ⟨au, H₁, hu, S₁, m₁, q₁⟩ := z
  refine wpAny_mono (hb H₁ s₁ _ E S₁ m₁ q₁) (fun v s₂ z => ?_) fun _ _ z => z
  obtain ⟨av, H₂, hv, S₂, m₂, q₂⟩ := z
  exact s_bin C ev hu hv S₂ m₂ q₂

set_option tactic.hygienic false in
theorem hx_neg {a : X} {l : PySem.Expr} {p : Pos} (ha : HX g A R V s₀ a (eval l env)) : HX g A R V s₀ (.neg a) (eval (.UnaryOp .USub l p) env) := fun H s Q E S m q => by
  dsimp only [x_lit, x_var, x_bin, x_neg, x_not, x_ao, x_cmp, x_cmp2, x_sub, x_glob, x_call, x_prim, x_bm, x_isi, x_list, x_tup, x_new, x_dict0, x_dict1, x_attr, x_meth, x_comp] at q
  refine wpAny_UnaryOp (wpAny_mono (ha H s _ E S m q) (fun u s₁ z => ?_) fun _ _ z => z)
  obtain ⟨au, H₁, hu, S₁, m₁, q₁⟩ := z
  split at q₁
  · cases hu; exact neg_int (TQ.toks (.int _ _) S₁ m₁ q₁)
  · exact q₁.elim

set_option tactic.hygienic false in
theorem hx_not {a : X} {l : PySem.Expr} {p : Pos} (ha : HX g A R V s₀ a (eval l env)) : HX g A R V s₀ (.not a) (eval (.UnaryOp .Not l p) env) := fun H s Q E S m q => by
  dsimp only [x_lit, x_var, x_bin, x_neg, x_not, x_ao, x_cmp, x_cmp2, x_sub, x_glob, x_call, x_prim, x_bm, x_isi, x_list, x_tup, x_new, x_dict0, x_dict1, x_attr, x_meth, x_comp] at q
  refine wpAny_UnaryOp (wpAny_mono (ha H s _ E S m q) (fun u s₁ z => ?_) fun _ _ z => z)
  obtain ⟨au, H₁, hu, S₁, m₁, q₁⟩ := z
  refine not_of (wpAny_mono (s_truth hu S₁ m₁ (Qb := fun b H => Q (.bool (!b)) H) q₁) (fun b s₂ z => ?_) fun _ _ z => z)
  obtain ⟨H₂, S₂, m₂, q₂⟩ := z
  exact TQ.pure (.bool _) S₂ m₂ q₂
set_option tactic.hygienic false in
theorem ht_not {a : X} {l : PySem.Expr} {p : Pos} {whole : Sem Value} (ha : HT g A R V s₀ a (isTrue l env (eval l env))) : HT g A R V s₀ (.not a) (isTrue (.UnaryOp .Not l p) env whole) := fun H s Q E S m q => by
  dsimp only [x_lit, x_var, x_bin, x_neg, x_not, x_ao, x_cmp, x_cmp2, x_sub, x_glob, x_call, x_prim, x_bm, x_isi, x_list, x_tup, x_new, x_dict0, x_dict1, x_attr, x_meth, x_comp] at q
  refine isTrue_not (wpAny_mono (ha H s (fun _ b H => Q (.bool (!b)) (!b) H) E S m q) (fun b s₁ z => ?_) fun _ _ z => z)
  obtain ⟨v, H₁, S₁, m₁, q₁, _⟩ := z
  exact ⟨.bool (!b), H₁, S₁, m₁, q₁, fun P z => z⟩

set_option tactic.hygienic false in
theorem hx_cmp {op : CmpOp} {a b : X} {l r : PySem.Expr} {p : Pos} (C : g.c.Ok mg mb) (ev : Ev g A R e₀ l₀) (hm : behindInMarks op r = false) (ha : HX g A R V s₀ a (eval l env)) (hb : HX g A R V s₀ b (eval r env)) :
    HX g A R V s₀ (.cmp op a b) (eval (.Compare l [op] [r] p) env) := fun H s Q E S m q => by
  dsimp only [x_lit, x_var, x_bin, x_neg, x_not, x_ao, x_cmp, x_cmp2, x_sub, x_glob, x_call, x_prim, x_bm, x_isi, x_list, x_tup, x_new, x_dict0, x_dict1, x_attr, x_meth, x_comp] at q
  refine wpAny_Compare1 (wpAny_mono (ha H s _ E S m q) (fun u s₁ z => ?_) fun _ _ z => z) hm
  obtain ⟨au, H₁, hu, S₁, m₁, q₁⟩ := z
  refine wpAny_mono (hb H₁ s₁ _ E S₁ m₁ q₁) (fun v s₂ z => ?_) fun _ _ z => z
  obtain ⟨av, H₂, hv, S₂, m₂, q₂⟩ := z
  exact s_cmp C ev hu hv S₂ m₂ q₂
set_option tactic.hygienic false in
theorem ht_cmp {op : CmpOp} {a b : X} {l r : PySem.Expr} {p : Pos} {whole : Sem Value} (C : g.c.Ok mg mb) (ev : Ev g A R e₀ l₀) (hm : behindInMarks op r = false) (ha : HX g A R V s₀ a (eval l env)) (hb : HX g A R V s₀ b (eval r env)) :
    HT g A R V s₀ (.cmp op a b) (isTrue (.Compare l [op] [r] p) env whole) := fun H s Q E S m q => by
  dsimp only [x_lit, x_var, x_bin, x_neg, x_not, x_ao, x_cmp, x_cmp2, x_sub, x_glob, x_call, x_prim, x_bm, x_isi, x_list, x_tup, x_new, x_dict0, x_dict1, x_attr, x_meth, x_comp] at q
  refine wpAny_isTrue_Compare1 (wpAny_mono (ha H s _ E S m q) (fun u s₁ z => ?_) fun _ _ z => z) hm
  obtain ⟨au, H₁, hu, S₁, m₁, q₁⟩ := z
  refine wpAny_mono (hb H₁ s₁ _ E S₁ m₁ q₁) (fun v s₂ z => ?_) fun _ _ z => z
  obtain ⟨av, H₂, hv, S₂, m₂, q₂⟩ := z
  refine wpAny_mono (s_cmp C ev hu hv S₂ m₂ q₂) (fun c s₃ z => ?_) fun _ _ z => z
  obtain ⟨ac, H₃, hc, S₃, m₃, q₃⟩ := z
  exact s_truthT hc S₃ m₃ q₃

set_option tactic.hygienic false in
theorem chain2 {M : Model} {E : Value → Shared → Prop} {s : Shared} {pos : Pos} {a : Value} {op₁ op₂ : CmpOp} {t₁ t₂ : Sem Value} {Q : Value → Shared → Prop}
    (h : wpAny M A t₁ (fun b s₁ => wpAny M A (compareOp op₁ a b) (fun c s₂ => wpAny M A (truthy c) (fun t s₃ => if t then wpAny M A t₂ (fun d s₄ => wpAny M A (compareOp op₂ b d) Q E s₄) E s₃ else Q c s₃) E s₂) E s₁) E s) :
    wpAny M A (compareChain pos a [op₁, op₂] [t₁, t₂]) Q E s := by
  unfold compareChain
  refine wpAny_bind (wpAny_holding (wpAny_mono h (fun b s₁ z => ?_) fun _ _ z => z))
  refine wpAny_bind (wpAny_standAt (wpAny_bind (wpAny_holding (wpAny_mono z (fun c s₂ z => ?_) fun _ _ z => z))))
  refine wpAny_bind (wpAny_release (wpAny_bind (wpAny_holding (wpAny_mono z (fun t s₃ z => ?_) fun _ _ z => z))))
  cases t with
  | false => exact wpAny_pure z
  | true =>
    simp only [if_true] at z ⊢
    unfold compareChain
    exact wpAny_bind (wpAny_holding (wpAny_mono z (fun d s₄ z => wpAny_bind (wpAny_standAt (wpAny_operating z))) fun _ _ z => z))
set_option tactic.hygienic false in
theorem test2 {M : Model} {E : Value → Shared → Prop} {s : Shared} {pos : Pos} {a : Value} {op₁ op₂ : CmpOp} {t₁ t₂ : Sem Value} {Q : Bool → Shared → Prop}
    (h : wpAny M A t₁ (fun b s₁ => wpAny M A (compareOp op₁ a b) (fun c s₂ => wpAny M A (truthy c) (fun t s₃ => if t then wpAny M A t₂ (fun d s₄ => wpAny M A (compareOp op₂ b d) (fun c' s₅ => wpAny M A (truthy c') Q E s₅) E s₄) E s₃ else Q false s₃) E s₂) E s₁) E s) :
    wpAny M A (testChain pos a [op₁, op₂] [t₁, t₂]) Q E s := by
  unfold testChain
  refine wpAny_bind (wpAny_holding (wpAny_mono h (fun b s₁ z => ?_) fun _ _ z => z))
  refine wpAny_bind (wpAny_standAt (wpAny_bind (wpAny_holding (wpAny_mono z (fun c s₂ z => ?_) fun _ _ z => z))))
  refine wpAny_bind (wpAny_release (wpAny_bind (wpAny_holding (wpAny_mono z (fun t s₃ z => ?_) fun _ _ z => z))))
  cases t with
  | false => exact wpAny_pure z
  | true =>
    simp only [if_true] at z ⊢
    unfold testChain
    exact wpAny_bind (wpAny_holding (wpAny_mono z (fun d s₄ z => wpAny_bind (wpAny_standAt (wpAny_bind (wpAny_operating (wpAny_mono z (fun c' s₅ z => wpAny_holding z) fun _ _ z => z))))) fun _ _ z => z))

set_option tactic.hygienic false in
theorem hx_cmp2 {op₁ op₂ : CmpOp} {a b d : X} {l r₁ r₂ : PySem.Expr} {p : Pos} (C : g.c.Ok mg mb) (ev : Ev g A R e₀ l₀) (hm : lastMarks [op₁, op₂] [r₁, r₂] = false)
    (ha : HX g A R V s₀ a (eval l env)) (hb : HX g A R V s₀ b (eval r₁ env)) (hd : HX g A R V s₀ d (eval r₂ env)) :
    HX g A R V s₀ (.cmp2 op₁ op₂ a b d) (eval (.Compare l [op₁, op₂] [r₁, r₂] p) env) := fun H s Q E S m q => by
  dsimp only [x_lit, x_var, x_bin, x_neg, x_not, x_ao, x_cmp, x_cmp2, x_sub, x_glob, x_call, x_prim, x_bm, x_isi, x_list, x_tup, x_new, x_dict0, x_dict1, x_attr, x_meth, x_comp] at q
  rw [arm_eval_Compare, markedEach_of_false _ _ _ hm]
  refine wpAny_bind (wpAny_mono (ha H s _ E S m q) (fun u s₁ z => ?_) fun _ _ z => z)
  obtain ⟨au, H₁, hu, S₁, m₁, q₁⟩ := z
  refine chain2 (wpAny_mono (hb H₁ s₁ _ E S₁ m₁ q₁) (fun v s₂ z => ?_) fun _ _ z => z)
  obtain ⟨av, H₂, hv, S₂, m₂, q₂⟩ := z
  refine wpAny_mono (s_cmp C ev hu hv S₂ m₂ q₂) (fun c s₃ z => ?_) fun _ _ z => z
  obtain ⟨ac, H₃, hc, S₃, m₃, q₃⟩ := z
  refine wpAny_mono (s_truth (Qb := fun t H => if t then wpX g d V (fun z H => wcmp op₂ av z Q H) E H else Q ac H) hc S₃ m₃ q₃) (fun t s₄ z => ?_) fun _ _ z => z
  obtain ⟨H₄, S₄, m₄, q₄⟩ := z
  cases t with
  | false => exact TQ.pure hc S₄ m₄ q₄
  | true =>
    refine wpAny_mono (hd H₄ s₄ _ E S₄ m₄ q₄) (fun w s₅ z => ?_) fun _ _ z => z
    obtain ⟨aw, H₅, hw, S₅, m₅, q₅⟩ := z
    exact s_cmp C ev hv hw S₅ m₅ q₅
set_option tactic.hygienic false in
theorem ht_cmp2 {op₁ op₂ : CmpOp} {a b d : X} {l r₁ r₂ : PySem.Expr} {p : Pos} {whole : Sem Value} (C : g.c.Ok mg mb) (ev : Ev g A R e₀ l₀) (hm : lastMarks [op₁, op₂] [r₁, r₂] = false)
    (ha : HX g A R V s₀ a (eval l env)) (hb : HX g A R V s₀ b (eval r₁ env)) (hd : HX g A R V s₀ d (eval r₂ env)) :
    HT g A R V s₀ (.cmp2 op₁ op₂ a b d) (isTrue (.Compare l [op₁, op₂] [r₁, r₂] p) env whole) := fun H s Q E S m q => by
  dsimp only [x_lit, x_var, x_bin, x_neg, x_not, x_ao, x_cmp, x_cmp2, x_sub, x_glob, x_call, x_prim, x_bm, x_isi, x_list, x_tup, x_new, x_dict0, x_dict1, x_attr, x_meth, x_comp] at q
  rw [arm_isTrue_Compare, markedEach_of_false _ _ _ hm]
  refine wpAny_bind (wpAny_mono (ha H s _ E S m q) (fun u s₁ z => ?_) fun _ _ z => z)
  obtain ⟨au, H₁, hu, S₁, m₁, q₁⟩ := z
  refine test2 (wpAny_mono (hb H₁ s₁ _ E S₁ m₁ q₁) (fun v s₂ z => ?_) fun _ _ z => z)
  obtain ⟨av, H₂, hv, S₂, m₂, q₂⟩ := z
  refine wpAny_mono (s_cmp C ev hu hv S₂ m₂ q₂) (fun c s₃ z => ?_) fun _ _ z => z
  obtain ⟨ac, H₃, hc, S₃, m₃, q₃⟩ := z
  refine wpAny_mono (s_truthT (Q := fun ac t H => if t then wpX g d V (fun z H => wcmp op₂ av z (fun v H => wtruth v H fun b => Q v b H) H) E H else wtruth ac H fun b => Q ac b H) hc S₃ m₃ q₃) (fun t s₄ z => ?_) fun _ _ z => z
  obtain ⟨ac', H₄, S₄, m₄, q₄, hb4⟩ := z
  cases t with
  | false =>
    simp only [Bool.false_eq_true, if_false] at q₄ ⊢
    exact ⟨ac', H₄, S₄, m₄, hb4 _ q₄, hb4⟩
  | true =>
    simp only [if_true] at q₄ ⊢
    refine wpAny_mono (hd H₄ s₄ _ E S₄ m₄ q₄) (fun w s₅ z => ?_) fun _ _ z => z
    obtain ⟨aw, H₅, hw, S₅, m₅, q₅⟩ := z
    refine wpAny_mono (s_cmp C ev hv hw S₅ m₅ q₅) (fun c' s₆ z => ?_) fun _ _ z => z
    obtain ⟨ac'', H₆, hc'', S₆, m₆, q₆⟩ := z
    exact s_truthT hc'' S₆ m₆ q₆

inductive Each (P : X → PySem.Expr → Prop) : List X → List PySem.Expr → Prop
  | nil : Each P [] []
  | cons {x e xs es} : P x e → Each P xs es → Each P (x :: xs) (e :: es)

set_option tactic.hygienic false in
theorem hx_ao {isAnd : Bool} {p : Pos} : ∀ {xs : List X} {es : List PySem.Expr}, Each (fun x e => HX g A R V s₀ x (eval e env)) xs es → HX g A R V s₀ (.ao isAnd xs) (boolOp p (if isAnd then .And else .Or) (evalEach es env))
  | _, _, .nil => fun H s Q E S m q => q.elim
  | [x], [e], .cons hx .nil => fun H s Q E S m q => by
    dsimp only [x_lit, x_var, x_bin, x_neg, x_not, x_ao, x_cmp, x_cmp2, x_sub, x_glob, x_call, x_prim, x_bm, x_isi, x_list, x_tup, x_new, x_dict0, x_dict1, x_attr, x_meth, x_comp, ao_one, ao_cons] at q
    show wpAny _ _ (eval e env) _ _ _
    exact hx H s Q E S m q
  | x :: y :: xs, e :: f :: es, .cons hx (.cons hy r) => fun H s Q E S m q => by
    have ih := hx_ao (isAnd := isAnd) (p := p) (.cons hy r)
    dsimp only [x_lit, x_var, x_bin, x_neg, x_not, x_ao, x_cmp, x_cmp2, x_sub, x_glob, x_call, x_prim, x_bm, x_isi, x_list, x_tup, x_new, x_dict0, x_dict1, x_attr, x_meth, x_comp] at q ih
    rw [ao_cons] at q
    show wpAny _ _ (do
      let v ← eval e env
      standAt p
      let t ← holding [v] (truthy v)
      match (if isAnd then PySem.BoolOp.And else PySem.BoolOp.Or), t with
      | .And, false | .Or, true => pure v
      | _, _ => boolOp p (if isAnd then .And else .Or) (evalEach (f :: es) env)) _ _ _
    refine wpAny_bind (wpAny_mono (hx H s _ E S m q) (fun v s₁ z => ?_) fun _ _ z => z)
    obtain ⟨av, H₁, hv, S₁, m₁, q₁⟩ := z
    refine wpAny_bind (wpAny_standAt (wpAny_bind (wpAny_holding (wpAny_mono (s_truth (Qb := fun b H => if b = isAnd then wpAO g isAnd (y :: xs) V Q E H else Q av H) hv S₁ m₁ q₁) (fun t s₂ z => ?_) fun _ _ z => z))))
    obtain ⟨H₂, S₂, m₂, q₂⟩ := z
    have ih' := ih H₂ s₂ Q E S₂ m₂
    dsimp only [x_lit, x_var, x_bin, x_neg, x_not, x_ao, x_cmp, x_cmp2, x_sub, x_glob, x_call, x_prim, x_bm, x_isi, x_list, x_tup, x_new, x_dict0, x_dict1, x_attr, x_meth, x_comp] at ih'
    cases isAnd <;> cases t <;> simp only [Bool.false_eq_true, if_false, if_true, reduceIte] at q₂ ih' ⊢
    · exact ih' q₂
    · exact wpAny_pure (TQ.pure hv S₂ m₂ q₂)
    · exact wpAny_pure (TQ.pure hv S₂ m₂ q₂)
    · exact ih' q₂

set_option tactic.hygienic false in
theorem ht_ao {isAnd : Bool} : ∀ {xs : List X} {es : List PySem.Expr}, Each (fun x e => HT g A R V s₀ x (isTrue e env (eval e env))) xs es → HT g A R V s₀ (.ao isAnd xs) (allTrue (if isAnd then .And else .Or) es env)
  | _, _, .nil => fun H s Q E S m q => q.elim
  | [x], [e], .cons hx .nil => fun H s Q E S m q => by
    dsimp only [x_lit, x_var, x_bin, x_neg, x_not, x_ao, x_cmp, x_cmp2, x_sub, x_glob, x_call, x_prim, x_bm, x_isi, x_list, x_tup, x_new, x_dict0, x_dict1, x_attr, x_meth, x_comp, ao_one, ao_cons] at q
    rw [arm_allTrue_cons]
    refine wpAny_bind (wpAny_mono (hx H s Q E S m q) (fun t s₁ z => ?_) fun _ _ z => z)
    cases isAnd <;> cases t <;> exact wpAny_pure z
  | x :: y :: xs, e :: f :: es, .cons hx (.cons hy r) => fun H s Q E S m q => by
    have ih := ht_ao (isAnd := isAnd) (.cons hy r)
    dsimp only [x_lit, x_var, x_bin, x_neg, x_not, x_ao, x_cmp, x_cmp2, x_sub, x_glob, x_call, x_prim, x_bm, x_isi, x_list, x_tup, x_new, x_dict0, x_dict1, x_attr, x_meth, x_comp] at q
    rw [ao_cons] at q
    rw [arm_allTrue_cons]
    refine wpAny_bind (wpAny_mono (hx H s (fun v b H => if b = isAnd then wpAO g isAnd (y :: xs) V (fun v H => wtruth v H fun b => Q v b H) E H else wtruth v H fun b => Q v b H) E S m q) (fun t s₁ z => ?_) fun _ _ z => z)
    obtain ⟨v, H₁, S₁, m₁, q₁, hb⟩ := z
    have ih' := ih H₁ s₁ Q E S₁ m₁
    dsimp only [x_lit, x_var, x_bin, x_neg, x_not, x_ao, x_cmp, x_cmp2, x_sub, x_glob, x_call, x_prim, x_bm, x_isi, x_list, x_tup, x_new, x_dict0, x_dict1, x_attr, x_meth, x_comp] at ih'
    cases isAnd <;> cases t <;> simp only [Bool.false_eq_true, if_false, if_true, reduceIte] at q₁ ih' ⊢
    · exact ih' q₁
    · exact wpAny_pure ⟨v, H₁, S₁, m₁, hb (fun b => Q v b H₁) q₁, hb⟩
    · exact wpAny_pure ⟨v, H₁, S₁, m₁, hb (fun b => Q v b H₁) q₁, hb⟩
    · exact ih' q₁
end
end Mine

end
section
open PySem PySem.W PyProof.Rows PySem.Spec PySem.SeqAt PySem.Calls
namespace Mine

set_option tactic.hygienic false in
theorem starEach_plain {e : PySem.Expr} {r : List PySem.Expr} {env : Env} (h : noStar e = true) : starEach (e :: r) env = (false, eval e env) :: starEach r env := by
  cases e <;> first | rfl | exact Bool.noConfusion h
theorem backTo_cons {pos : Pos} {t : Sem Value} {r : List (Bool × Sem Value)} : backTo pos ((false, t) :: r) = (false, t) :: backTo pos r := rfl

section
variable {g : Gx} {A : Around} {R : RR} {V : VV} {s₀ : Shared} {env : Env} {mg mb : Str → Option Value} {e₀ : Env} {l₀ : List Env}

abbrev EachX (g : Gx) (A : Around) (R : RR) (V : VV) (s₀ : Shared) (env : Env) : List X → List PySem.Expr → Prop := Each (fun x e => HX g A R V s₀ x (eval e env) ∧ noStar e = true)

set_option tactic.hygienic false in
theorem hxs {pos : Pos} : ∀ {xs : List X} {es : List PySem.Expr}, EachX g A R V s₀ env xs es → HXs g A R V s₀ xs (spliced (backTo pos (starEach es env)))
  | _, _, .nil => fun H s Q E S m q => by
    simp only [xs_nil, xs_cons] at q
    exact spliced_nil ⟨[], H, .nil, S, m, q⟩
  | _, _, .cons hx r => fun H s Q E S m q => by
    dsimp only [xs_nil, xs_cons] at q
    rw [starEach_plain hx.2, backTo_cons]
    refine spliced_cons (wpAny_mono (hx.1 H s _ E S m q) (fun v s₁ z => ?_) fun _ _ z => z)
    obtain ⟨av, H₁, hv, S₁, m₁, q₁⟩ := z
    refine wpAny_mono (hxs r H₁ s₁ _ E S₁ m₁ q₁) (fun vs s₂ z => ?_) fun _ _ z => z
    obtain ⟨as, H₂, hvs, S₂, m₂, q₂⟩ := z
    exact ⟨av :: as, H₂, .cons hv hvs, S₂, m₂, q₂⟩

set_option tactic.hygienic false in
theorem each_plain {pos : Pos} : ∀ {xs : List X} {es : List PySem.Expr}, EachX g A R V s₀ env xs es → (backTo pos (starEach es env)).any (·.1) = false
  | _, _, .nil => rfl
  | _, _, .cons hx r => by
    rw [starEach_plain hx.2, backTo_cons, List.any_cons, each_plain r]; rfl

set_option tactic.hygienic false in
theorem args_of {pos : Pos} {f : Value} {xs : List X} {es : List PySem.Expr} {H : AHeap} {s : Shared} {Q' : List AV → AHeap → Prop} {E : String → AHeap → Prop} {Q : Args → Shared → Prop} (hx : EachX g A R V s₀ env xs es) (S : St g.c R H s.heap) (m : Sm s₀ s)
    (q : wpXs g xs V Q' E H) (k : ∀ as vs H' s', VRs as vs → St g.c R H' s'.heap → Sm s₀ s' → Q' as H' → Q ⟨vs, []⟩ s') :
    wpAny (model g.c.prog g.c.w) A (evalArgs f true (backTo pos (starEach es env)) []) Q (TE g R s₀ E) s := by
  have z := hxs (pos := pos) hx H s Q' E S m q
  cases hx with
  | nil =>
    simp only [xs_nil, xs_cons] at q
    exact evalArgs_nil3 (k [] [] H s .nil S m q)
  | cons hx r =>
    rw [starEach_plain hx.2, backTo_cons] at z ⊢
    refine evalArgs_plain (wpAny_mono z (fun vs s' z => ?_) fun _ _ z => z)
    obtain ⟨as, H', h1, h2, h3, h4⟩ := z
    exact k as vs H' s' h1 h2 h3 h4

theorem cw_ref {pos : Pos} {f : Addr} {first : List Value} {xs : List X} {es : List PySem.Expr} {H : AHeap} {s : Shared} {Q' : List AV → AHeap → Prop} {E : String → AHeap → Prop} {Q : Value → Shared → Prop} (C : g.c.Ok mg mb) (hk : keepIn g.c.K (.ref f) = true)
    (hx : EachX g A R V s₀ env xs es) (S : St g.c R H s.heap) (m : Sm s₀ s) (q : wpXs g xs V Q' E H)
    (k : ∀ as vs H' s', VRs as vs → St g.c R H' s'.heap → Sm s₀ s' → Q' as H' → wpAny (model g.c.prog g.c.w) A (call (.ref f) (first ++ vs)) Q (TE g R s₀ E) s') :
    wpAny (model g.c.prog g.c.w) A (callWith pos (.ref f) first (backTo pos (starEach es env)) []) Q (TE g R s₀ E) s :=
  callWith_of (P := fun h => g.c.K.In h) (by rw [each_plain hx]; rfl) (keeps_K hk) (args_of hx S m q fun as vs H' s' h1 h2 h3 h4 => ⟨C.kin.keeps h2.stays, k as vs H' s' h1 h2 h3 h4⟩)
set_option tactic.hygienic false in
theorem cw_prim {pos : Pos} {f : Value} {first : List Value} {xs : List X} {es : List PySem.Expr} {H : AHeap} {s : Shared} {Q' : List AV → AHeap → Prop} {E : String → AHeap → Prop} {Q : Value → Shared → Prop} (hf : (∃ i, f = .builtin i) ∨ ∃ i, f = .type i)
    (hx : EachX g A R V s₀ env xs es) (S : St g.c R H s.heap) (m : Sm s₀ s) (q : wpXs g xs V Q' E H)
    (k : ∀ as vs H' s', VRs as vs → St g.c R H' s'.heap → Sm s₀ s' → Q' as H' → wpAny (model g.c.prog g.c.w) A (call f (first ++ vs)) Q (TE g R s₀ E) s') :
    wpAny (model g.c.prog g.c.w) A (callWith pos f first (backTo pos (starEach es env)) []) Q (TE g R s₀ E) s := by
  rcases hf with ⟨i, rfl⟩ | ⟨i, rfl⟩
  · exact Calls.callWith_builtin (each_plain hx) (args_of hx S m q k)
  · exact PyProof.Rows.callWith_type (each_plain hx) (args_of hx S m q k)

set_option tactic.hygienic false in
theorem nameIs_name {sc : Scope} {n : String} {e : PySem.Expr} (h : nameIs sc n e = true) : ∃ id p, e = .Name id p := by
  exact onName_ind (m := fun e => ∃ id p, e = .Name id p) h fun id p _ => ⟨id, p, rfl⟩

set_option tactic.hygienic false in
theorem callOK_at {f : String} {as : List AV} {vs : List Value} {H : AHeap} {s : Shared} {Q : AV → AHeap → Prop} {E : String → AHeap → Prop} (ev : Ev g A R e₀ l₀) (hv : VRs as vs) (S : St g.c R H s.heap) (m : Sm s₀ s)
    (q : CallOK g.c g.n g.md f as Q E H) : wpAny (model g.c.prog g.c.w) A (call (.ref (g.c.fa f)) vs) (TQ g R s₀ Q) (TE g R s₀ E) s := by
  refine wpAny_call (q A (e₀ :: l₀) R s vs _ ⟨ev.aok.frames, by have := ev.aok.depth; omega, by have := ev.aok.units; omega, ev.aok.hand⟩ ev.stk S hv ?_ ?_)
  · exact fun av v s' H' h1 h2 h3 h4 => ⟨av, H', h1, h2, m.trans h3, h4⟩
  · exact fun e cl s' H' h1 h2 h3 => ⟨e, cl, H', rfl, h1, m.trans h2, h3⟩

set_option tactic.hygienic false in
theorem hx_call {sc : Scope} {nm : List Str} {f : String} {fe : PySem.Expr} {args : List PySem.Expr} {xs : List X} {pos : Pos} (C : g.c.Ok mg mb) (PO : PgOk g.c) (ev : Ev g A R e₀ l₀) (fr : Frm R env sc nm V) (hn : nameIs sc f fe = true)
    (hg : g.c.P.gfns.contains f = true) (hx : EachX g A R V s₀ env xs args) : HX g A R V s₀ (.call f xs) (eval (.Call fe args [] pos) env) := fun H s Q E S m q => by
  dsimp only [x_lit, x_var, x_bin, x_neg, x_not, x_ao, x_cmp, x_cmp2, x_sub, x_glob, x_call, x_prim, x_bm, x_isi, x_list, x_tup, x_new, x_dict0, x_dict1, x_attr, x_meth, x_comp] at q
  obtain ⟨h1, h2⟩ := PO.fn f hg
  obtain ⟨id, p, rfl⟩ := nameIs_name hn
  refine wpAny_Call_NameR (glob_K C fr S hn h1 ?_)
  refine cw_ref C h2 hx S m q fun as vs H' s' k1 k2 k3 k4 => ?_
  exact callOK_at ev k1 k2 k3 k4

set_option tactic.hygienic false in
theorem hx_prim {sc : Scope} {nm : List Str} {f : Pr} {fe : PySem.Expr} {args : List PySem.Expr} {xs : List X} {pos : Pos} (C : g.c.Ok mg mb) (PO : PgOk g.c) (ev : Ev g A R e₀ l₀) (fr : Frm R env sc nm V) (hn : nameIs sc f.str fe = true)
    (hg : g.c.P.prims.contains f.str = true) (hx : EachX g A R V s₀ env xs args) : HX g A R V s₀ (.prim f xs) (eval (.Call fe args [] pos) env) := fun H s Q E S m q => by
  dsimp only [x_lit, x_var, x_bin, x_neg, x_not, x_ao, x_cmp, x_cmp2, x_sub, x_glob, x_call, x_prim, x_bm, x_isi, x_list, x_tup, x_new, x_dict0, x_dict1, x_attr, x_meth, x_comp] at q
  obtain ⟨h1, h2, h3⟩ := PO.prim f.str hg
  rw [primValS_str] at h3
  obtain ⟨id, p, rfl⟩ := nameIs_name hn
  refine wpAny_Call_NameR (glob_B C fr S hn h1 h2 h3 ?_)
  exact cw_prim (primVal_is f) hx S m q fun as vs H' s' k1 k2 k3 k4 => s_prim C ev k1 k2 k3 k4

set_option tactic.hygienic false in
theorem hx_isa {sc : Scope} {nm : List Str} {ty : String} {fe t x : PySem.Expr} {a : X} {pos : Pos} {tv : Value} (C : g.c.Ok mg mb) (PO : PgOk g.c) (fr : Frm R env sc nm V) (hn : nameIs sc "isinstance" fe = true) (hg : g.c.P.prims.contains "isinstance" = true)
    (hst : noStar t = true) (ht : ∀ {H : AHeap} {s : Shared} {Q : Value → Shared → Prop} {E : Value → Shared → Prop}, St g.c R H s.heap → Q tv s → wpAny (model g.c.prog g.c.w) A (eval t env) Q E s) (hx : HX g A R V s₀ a (eval x env)) (hs : noStar x = true)
    (k : ∀ {av : AV} {v : Value} {H : AHeap} {s : Shared} {Q : AV → AHeap → Prop} {E : String → AHeap → Prop} {b : Bool}, VR av v → St g.c R H s.heap → Sm s₀ s → isinstV g.c.P H av ty = some b → Q (.bool b) H → wpAny (model g.c.prog g.c.w) A (call (.builtin "isinstance") [v, tv]) (TQ g R s₀ Q) (TE g R s₀ E) s) :
    HX g A R V s₀ (.isinst a ty) (eval (.Call fe [x, t] [] pos) env) := fun H s Q E S m q => by
  replace q : wpX g a V (fun x H => wisi g.c.P ty x Q H) E H := q
  obtain ⟨h1, h2, h3⟩ := PO.prim _ hg
  refine name_ind (m := fun fe => wpAny (model g.c.prog g.c.w) A (eval (.Call fe [x, t] [] pos) env) (TQ g R s₀ Q) (TE g R s₀ E) s) hn fun id p hn => ?_
  refine wpAny_Call_NameR (glob_B C fr S hn h1 h2 h3 ?_)
  refine Calls.callWith_builtin (by rw [starEach_plain hs, starEach_plain hst]; rfl) ?_
  rw [starEach_plain hs, backTo_cons, starEach_plain hst, backTo_cons]
  refine evalArgs_plain (spliced_cons (wpAny_mono (hx H s _ E S m q) (fun v s₁ z => ?_) fun _ _ z => z))
  obtain ⟨av, H₁, hv, S₁, m₁, q₁⟩ := z
  refine spliced_cons (ht S₁ (spliced_nil ?_))
  unfold wisi at q₁
  cases hb : isinstV g.c.P H₁ av ty with
  | none => rw [hb] at q₁; exact q₁.elim
  | some b => rw [hb] at q₁; exact k hv S₁ m₁ hb q₁
theorem name_star {sc : Scope} {n : String} {e : PySem.Expr} (h : nameIs sc n e = true) : noStar e = true := onName_ind (m := fun e => noStar e = true) h fun _ _ _ => rfl
set_option tactic.hygienic false in
theorem hx_isT {sc : Scope} {nm : List Str} {ty : String} {fe t x : PySem.Expr} {a : X} {pos : Pos} (C : g.c.Ok mg mb) (PO : PgOk g.c) (fr : Frm R env sc nm V) (hn : nameIs sc "isinstance" fe = true) (hg : g.c.P.prims.contains "isinstance" = true)
    (ht : g.c.P.prims.contains ty = true) (hn' : nameIs sc ty t = true) (hty : ty = "int" ∨ ty = "bool" ∨ ty = "str" ∨ ty = "list") (hx : HX g A R V s₀ a (eval x env)) (hs : noStar x = true) :
    HX g A R V s₀ (.isinst a ty) (eval (.Call fe [x, t] [] pos) env) := by
  obtain ⟨k1, k2, k3⟩ := PO.prim _ ht
  have hp : primValS ty = .type ty := by rcases hty with rfl | rfl | rfl | rfl <;> rfl
  rw [hp] at k3
  refine hx_isa C PO fr hn hg (name_star hn') (fun S q => glob_B C fr S hn' k1 k2 k3 q) hx hs fun hv S m hb q => ?_
  unfold isinstV at hb
  rw [if_pos hty] at hb
  obtain ⟨k, e1, e2⟩ := Option.map_eq_some_iff.mp hb
  exact s_isT hv S m e1 hty e2 q

set_option tactic.hygienic false in
theorem hx_sub {a i : X} {v sl : PySem.Expr} {pos : Pos} (C : g.c.Ok mg mb) (hns : noSlice sl = true) (ha : HX g A R V s₀ a (eval v env)) (hi : HX g A R V s₀ i (eval sl env)) : HX g A R V s₀ (.sub a i) (eval (.Subscript v sl pos) env) :=
  fun H s Q E S m q => by
  dsimp only [x_lit, x_var, x_bin, x_neg, x_not, x_ao, x_cmp, x_cmp2, x_sub, x_glob, x_call, x_prim, x_bm, x_isi, x_list, x_tup, x_new, x_dict0, x_dict1, x_attr, x_meth, x_comp] at q
  refine Subscript_ (wpAny_mono (ha H s _ E S m q) (fun u s₁ z => ?_) fun _ _ z => z)
  obtain ⟨au, H₁, hu, S₁, m₁, q₁⟩ := z
  refine wpAny_mono (hi H₁ s₁ _ E S₁ m₁ q₁) (fun w s₂ z => ?_) fun _ _ z => z
  obtain ⟨aw, H₂, hw, S₂, m₂, q₂⟩ := z
  exact s_sub C hu hw S₂ m₂ q₂ (by intro o j; cases sl <;> first | rfl | exact Bool.noConfusion hns)

set_option tactic.hygienic false in
theorem handed_of {a : AV} {v : Value} (h : VR a v) : handedIn v = true := by cases h <;> rfl

set_option tactic.hygienic false in
theorem ofString_inj {a b : String} (h : Str.ofString a = Str.ofString b) : a = b := by
  rw [Str.ofString_eq_toList, Str.ofString_eq_toList] at h
  have h1 := congrArg (fun x : Str => x.cps.toList) h
  dsimp only [List.toList_toArray] at h1
  have h2 := (List.map_inj_right (f := Char.toNat) fun x y e => Char.ext (UInt32.toNat_inj.mp e)).mp h1
  exact String.ext h2

set_option tactic.hygienic false in
theorem attrs_find {n : String} : ∀ {es : List (String × AV)} {ents : List DictEntry}, attrsAre es ents → OVR (lookA es n) ((ents.find? (·.key.isStr (Str.ofString n))).map (·.val)) ∧ (ents.any (·.refKey)) = false
  | [], [], _ => ⟨.none, rfl⟩
  | (n', a) :: r, e :: q, h => by
    obtain ⟨⟨t, hk⟩, hv, hr⟩ := h
    obtain ⟨i1, i2⟩ := attrs_find (n := n) hr
    refine ⟨?_, ?_⟩
    · unfold lookA at i1 ⊢
      simp only [List.find?_cons, hk, Value.isStr]
      by_cases z : n' = n
      · subst z; simp; exact .some hv
      · have : (Str.ofString n' == Str.ofString n) = false := by
          apply beq_eq_false_iff_ne.mpr
          intro w
          exact z (ofString_inj w)
        simp only [this, z]; exact i1
    · rw [List.any_cons, i2]
      simp [DictEntry.refKey, hk]
  | [], _ :: _, h => h.elim
  | _ :: _, [], h => h.elim

set_option tactic.hygienic false in
theorem attr_base {v : PySem.Expr} {at' : Str} (hb : baseOk v = true) : attributeBase v at' env (eval v env) = eval v env := by
  cases v with
  | Call f as ks p => exact onAttr_ind (m := fun f => attributeBase (.Call f as ks p) at' env (eval (.Call f as ks p) env) = eval (.Call f as ks p) env) (show (onAttr f fun _ _ _ => true) = true from hb) fun _ _ _ _ => rfl
  | _ => rfl

inductive ObjAt (c : Cx) (h : Heap) (p : Addr) (cl : String) (es : List (String × AV)) : Prop
  | mk {d ents k} (I : InstAt h p (instObj (c.ca cl) d) (c.ca cl) (some (dictOf ents k))) (a : attrsAre es ents) : ObjAt c h p cl es
set_option tactic.hygienic false in
theorem obj_at {H : AHeap} {h : Heap} {p : Addr} {cl : String} {es : List (String × AV)} (S : St g.c R H h) (e : H p = some (.inst cl es)) : ObjAt g.c h p cl es := by
  obtain ⟨d, ents, k, x1, x2, x3, x4, _⟩ := S.setAttr e
  exact .mk ⟨x1, rfl, rfl, x2⟩ x3
set_option tactic.hygienic false in
theorem attr_ind {H : AHeap} {h : Heap} {n : String} {x : AV} {u : Value} {Q : AV → AHeap → Prop} {m : Value → Prop} (S : St g.c R H h) (ho : VR x u) (q : wattr g.c.P n x Q H)
    (f : ∀ p cl es v, g.c.P.attrs.contains (cl, n) = true → ObjAt g.c h p cl es → lookA es n = some v → Q v H → m (.ref p)) : m u := by
  cases ho with
  | ref p =>
    obtain ⟨oo, e⟩ : ∃ oo, H p = oo := ⟨_, rfl⟩
    dsimp only [wattr] at q
    rw [e] at q
    cases oo with
    | none => exact q.elim
    | some oo => cases oo with
      | inst cl es =>
        obtain ⟨hat, q⟩ := q
        cases hw : lookA es n with
        | none => rw [hw] at q; exact q.elim
        | some w => rw [hw] at q; exact f p cl es w hat (obj_at S e) hw q
      | book B =>
        obtain ⟨rfl, hat, q⟩ := q
        obtain ⟨fr, sa, pa, d, ents, k, x1, x2, x3⟩ := S.bookAttr e
        exact f p "Book" _ _ hat (.mk ⟨x1, rfl, rfl, x2⟩ x3) rfl q
      | _ => exact q.elim
  | _ => exact q.elim
set_option tactic.hygienic false in
theorem meth_ind {H : AHeap} {h : Heap} {n : String} {x : AV} {u : Value} {K : String → Addr → AHeap → Prop} {m : Value → Prop} (S : St g.c R H h) (ho : VR x u) (q : wmeth g.c.P n x K H)
    (f : ∀ p cl es, g.c.P.meths.contains (cl, n) = true → ObjAt g.c h p cl es → lookA es n = none → K (cl ++ "." ++ n) p H → m (.ref p)) : m u := by
  cases ho with
  | ref p =>
    obtain ⟨oo, e⟩ : ∃ oo, H p = oo := ⟨_, rfl⟩
    dsimp only [wmeth] at q
    rw [e] at q
    cases oo with
    | none => exact q.elim
    | some oo => cases oo with
      | inst cl es => exact f p cl es q.1 (obj_at S e) q.2.1 q.2.2
      | book B =>
        obtain ⟨hat, hno, q⟩ := q
        obtain ⟨fr, sa, pa, d, ents, k, x1, x2, x3⟩ := S.bookAttr e
        refine f p "Book" _ hat (.mk ⟨x1, rfl, rfl, x2⟩ x3) ?_ q
        simp only [bookAttrs, List.contains_cons, List.contains_nil, Bool.or_false, Bool.or_eq_false_iff, beq_eq_false_iff_ne] at hno
        obtain ⟨n1, n2, n3, n4⟩ := hno
        simp [lookA, n1.symm, n2.symm, n3.symm, n4.symm]
      | _ => exact q.elim
  | _ => exact q.elim
set_option tactic.hygienic false in
theorem hx_attr {a : X} {n : String} {v : PySem.Expr} {pos : Pos} (C : g.c.Ok mg mb) (PO : PgOk g.c) (hb : baseOk v = true) (ha : HX g A R V s₀ a (eval v env)) : HX g A R V s₀ (.attr a n) (eval (.Attribute v (Str.ofString n) pos) env) :=
  fun H s Q E S m q => by
  replace q : wpX g a V (fun x H => wattr g.c.P n x Q H) E H := q
  rw [arm_eval_Attribute, attr_base hb]
  refine wpAny_bind (wpAny_mono (ha H s _ E S m q) (fun o s₁ z => ?_) fun _ _ z => z)
  obtain ⟨ao, H₁, ho, S₁, m₁, q₁⟩ := z
  refine wpAny_bind (wpAny_standAt (wpAny_bind (wpAny_holding ?_)))
  refine attr_ind (m := fun o => wpAny (model g.c.prog g.c.w) A (getAttr o (Str.ofString n) true) (fun a s' => wpAny (model g.c.prog g.c.w) A (do letTemporaryGo v o a; pure a) (TQ g R s₀ Q) (TE g R s₀ E) s') (TE g R s₀ E) s₁) S₁ ho q₁ fun p cl es w hat O hw q₁ => ?_
  obtain ⟨c1, c2, c3, _⟩ := PO.attr cl n hat
  obtain ⟨I, x3⟩ := O
  obtain ⟨f1, f2⟩ := attrs_find (n := n) x3
  rw [hw] at f1
  generalize hf : (List.find? (fun x : DictEntry => x.key.isStr (Str.ofString n)) _) = fe at f1
  cases fe with
  | none => cases f1
  | some en =>
    cases f1 with
    | some hv =>
      refine get_value (v := en.val) (C.kin.keeps S₁.stays) I (plainGet_of c1).1 (findObj_own c2 c3 rfl ?_) ?_ ?_
      · rw [lookIn_dict]; unfold getL; rw [hf]
      · exact handed_of hv
      · exact wpAny_bind (wpAny_letTemporaryGo (wpAny_pure (TQ.toks hv S₁ m₁ q₁)))
end
end Mine

end
section
open PySem PySem.W PyProof.Rows PySem.Spec PySem.SeqAt PySem.Calls
namespace Mine

section
variable {g : Gx} {A : Around} {R : RR} {V : VV} {s₀ : Shared} {env : Env} {mg mb : Str → Option Value} {e₀ : Env} {l₀ : List Env}

set_option tactic.hygienic false in
theorem hxsL {pos : Pos} : ∀ {xs : List X} {es : List PySem.Expr}, EachX g A R V s₀ env xs es → ∀ (H : AHeap) (s : Shared) (Q : List AV → AHeap → Prop) (E : String → AHeap → Prop), St g.c R H s.heap → Sm s₀ s → wpXs g xs V Q E H →
    wpAny (model g.c.prog g.c.w) A (spliced (backTo pos (starEach es env))) (fun vs s' => vs.length = es.length ∧ TQs g R s₀ Q vs s') (TE g R s₀ E) s
  | _, _, .nil => fun H s Q E S m q => by
    dsimp only [xs_nil, xs_cons] at q
    exact spliced_nil ⟨rfl, [], H, .nil, S, m, q⟩
  | _, _, .cons hx r => fun H s Q E S m q => by
    dsimp only [xs_nil, xs_cons] at q
    rw [starEach_plain hx.2, backTo_cons]
    refine spliced_cons (wpAny_mono (hx.1 H s _ E S m q) (fun v s₁ z => ?_) fun _ _ z => z)
    obtain ⟨av, H₁, hv, S₁, m₁, q₁⟩ := z
    refine wpAny_mono (hxsL r H₁ s₁ _ E S₁ m₁ q₁) (fun vs s₂ z => ?_) fun _ _ z => z
    obtain ⟨hl, as, H₂, hvs, S₂, m₂, q₂⟩ := z
    exact ⟨by simp [hl], av :: as, H₂, .cons hv hvs, S₂, m₂, q₂⟩

set_option tactic.hygienic false in
theorem hx_list {xs : List X} {es : List PySem.Expr} {pos : Pos} (hx : EachX g A R V s₀ env xs es) (hl : es.length < 1000) : HX g A R V s₀ (.list xs) (eval (.List es pos) env) := fun H s Q E S m q => by
  dsimp only [x_lit, x_var, x_bin, x_neg, x_not, x_ao, x_cmp, x_cmp2, x_sub, x_glob, x_call, x_prim, x_bm, x_isi, x_list, x_tup, x_new, x_dict0, x_dict1, x_attr, x_meth, x_comp] at q
  refine wpAny_List (wpAny_mono (hxsL hx H s _ E S m q) (fun vs s₁ z => ?_) fun _ _ z => z)
  obtain ⟨hn, as, H₁, hv, S₁, m₁, q₁⟩ := z
  refine ⟨by rw [hn]; unfold sizeLine; omega, ?_⟩
  obtain ⟨e, S'⟩ := S₁.newObj (o := .list as) (Nat.le_refl _) (fun _ _ z => Heap.get?_push_of_some _ z) (by rw [Heap.size_push]; omega) (by intro _ _ z; cases z) (fun D => ⟨vs, 0, Heap.get?_push_size _ rfl, hv⟩)
  exact ⟨_, _, .ref _, S', m₁.heap _, q₁ _ e⟩

set_option tactic.hygienic false in
theorem hx_tuple {xs : List X} {es : List PySem.Expr} {k : Nat} {pos : Pos} (hx : EachX g A R V s₀ env xs es) (hl : es.length < 1000) : HX g A R V s₀ (.tuple xs) (eval (.Tuple es k pos) env) := fun H s Q E S m q => by
  dsimp only [x_lit, x_var, x_bin, x_neg, x_not, x_ao, x_cmp, x_cmp2, x_sub, x_glob, x_call, x_prim, x_bm, x_isi, x_list, x_tup, x_new, x_dict0, x_dict1, x_attr, x_meth, x_comp] at q
  refine wpAny_Tuple (wpAny_mono (hxsL hx H s _ E S m q) (fun vs s₁ z => ?_) fun _ _ z => z)
  obtain ⟨hn, as, H₁, hv, S₁, m₁, q₁⟩ := z
  refine ⟨by rw [hn]; unfold sizeLine; omega, ?_⟩
  obtain ⟨e, S'⟩ := S₁.newObj (o := .tuple as) (Nat.le_refl _) (fun _ _ z => Heap.get?_push_of_some _ z) (by rw [Heap.size_push]; omega) (by intro _ _ z; cases z) (fun D => ⟨vs, 0, Heap.get?_push_size _ rfl, hv⟩)
  exact ⟨_, _, .ref _, S', m₁.heap _, q₁ _ e⟩

set_option tactic.hygienic false in
theorem hx_dict0 {pos : Pos} : HX g A R V s₀ (.dict [] []) (eval (.Dict [] [] pos) env) := fun H s Q E S m q => by
  dsimp only [x_lit, x_var, x_bin, x_neg, x_not, x_ao, x_cmp, x_cmp2, x_sub, x_glob, x_call, x_prim, x_bm, x_isi, x_list, x_tup, x_new, x_dict0, x_dict1, x_attr, x_meth, x_comp] at q
  refine wpAny_Dict_empty ?_
  obtain ⟨e, S'⟩ := S.newObj (o := .dict 0 []) (h' := s.heap.push { cls := .type "dict", data := .dict #[] }) (Nat.le_refl _) (fun _ _ z => Heap.get?_push_of_some _ z) (by rw [Heap.size_push]; omega) (by intro _ _ z; cases z) (fun D => ⟨[], ⟨_, #[], Heap.get?_push_size _ rfl, ⟨rfl, rfl, rfl⟩, rfl, fun _ h => by simp at h, .nil, List.nodup_nil⟩, .nil⟩)
  · exact ⟨_, _, .ref _, S', m.heap _, q _ e⟩

set_option tactic.hygienic false in
theorem each_all {pos : Pos} : ∀ {xs : List X} {es : List PySem.Expr}, EachX g A R V s₀ env xs es → (backTo pos (starEach es env)).all (fun x => !x.1) = true
  | _, _, .nil => rfl
  | _, _, .cons hx r => by
    rw [starEach_plain hx.2, backTo_cons, List.all_cons, each_all r]; rfl

set_option tactic.hygienic false in
theorem meth_call {M : Model} {E : Value → Shared → Prop} {s : Shared} {o : PySem.Expr} {name : Str} {apos pos : Pos} {args : List PySem.Expr} {Q : Value → Shared → Prop} (hb : baseOk o = true) (hall : (backTo pos (starEach args env)).all (fun x => !x.1) = true)
    (hlen : args.length < 29) (hline : (apos.endLine == pos.line) = true)
    (h : wpAny M A (eval o env) (fun ov s₁ => ∀ pl, wpAny M A (getMethod ov name pl) (fun fx s₂ => wpAny M A (callWith pos fx.1 fx.2 (backTo pos (starEach args env)) []) Q E s₂) E s₁) E s) :
    wpAny M A (eval (.Call (.Attribute o name apos) args [] pos) env) Q E s := by
  rw [arm_eval_Call, attr_base hb]
  refine wpAny_bind (wpAny_mono h (fun ov s₁ h₁ => ?_) fun _ _ e => e)
  refine wpAny_bind (wpAny_standAt ?_)
  have hform : methodCallForm (args.length + ([] : List Keyword).length) (backTo pos (starEach args env)) (backToKw pos (keywordEach [] env)) = true := by
    unfold methodCallForm
    rw [hall]
    simp only [Bool.true_and]
    show (true && decide (args.length + 0 + 0 < 30)) = true
    simp; omega
  have hpos : methodCallPos true o env apos pos = pure pos := by unfold methodCallPos; simp [hline]
  unfold methodCall
  rw [hform]
  refine wpAny_bind (wpAny_holding (wpAny_mono (h₁ _) (fun fx s₂ h₂ => ?_) fun _ _ e => e))
  exact wpAny_bind (wpAny_of_eq hpos h₂)

set_option tactic.hygienic false in
theorem s_index {p : Addr} {v : AV} {u : Value} {xs : List AV} {H : AHeap} {s : Shared} {Q : AV → AHeap → Prop} {E : Value → Shared → Prop} {d : PyData} {ds : List PyData} {k : Nat} (hv : VR v u) (S : St g.c R H s.heap) (m : Sm s₀ s) (e : H p = some (.list xs))
    (h1 : RD H v d) (h2 : RDs H xs ds) (h3 : okD d) (h4 : flatDs ds = true) (hz : xs.length < 2 ^ 62) (un : A.units + 1 + 64 < cLine) (h5 : ds.findIdx? (fun y => PyData.eqv y d) = some k) (q : Q (.int k) H) :
    wpAny (model g.c.prog g.c.w) A (call (.builtin "list.index") [.ref p, u]) (TQ g R s₀ Q) E s := by
  obtain ⟨⟨as, r1⟩, c1⟩ := reads_of S h1 hv
  obtain ⟨ws, n, k1, k2, k3⟩ := isList_of S e
  obtain ⟨⟨bs, r2⟩, c2⟩ := readsAll_of S h2 k2
  have dd : d.depth ≤ 64 := h3.2
  have cd := c1 h3.1
  have cs := c2 h4
  have hl := RDs.len h2
  have hl2 := k2.length
  have hkl : k < ds.length := by
    have := List.findIdx?_eq_some_iff_findIdx_eq.mp h5
    exact this.1
  have mp := readsAll_map ds _ _ cs r2
  have hget : ∀ (j : Nat) (h1 : j < ws.length) (h2 : j < ds.length), readOf s.heap ws[j] = ds[j] := by
    intro j h1 h2
    have : (ws.map (readOf s.heap))[j]'(by simpa using h1) = ds[j] := by simp only [mp]
    simpa using this
  have hf := List.findIdx?_eq_some_iff_getElem.mp h5
  obtain ⟨hk, hyes, hno⟩ := hf
  refine call_meets PySem.F.slot_list_index ⟨_, k1, rfl⟩ PySem.F.entry_list_index (PySem.F.args_list_index_2 _ _)
    (list_indexAt p ws.toArray n none #[] u (fun y => PyData.eqv (readOf s.heap y) d) k (by simp; omega) (by omega) ?_ ?_) ⟨k1, items_eqAt (by simpa using r2) r1 cs cd (by omega), TQ.toks (.int _ _) S m q⟩
  · simp only [List.getElem_toArray]
    rw [hget k (by omega) hk]; exact hyes
  · intro j hj hlt
    simp only [List.getElem_toArray]
    rw [hget j (by simpa using hj) (by omega)]
    simpa using hno j hlt

set_option tactic.hygienic false in
theorem hx_meth {a : X} {mt : String} {xs : List X} {o : PySem.Expr} {args : List PySem.Expr} {apos pos : Pos} (C : g.c.Ok mg mb) (PO : PgOk g.c) (ev : Ev g A R e₀ l₀) (hb : baseOk o = true) (hline : (apos.endLine == pos.line) = true) (hlen : args.length < 29)
    (ha : HX g A R V s₀ a (eval o env)) (hx : EachX g A R V s₀ env xs args) : HX g A R V s₀ (.meth a mt xs) (eval (.Call (.Attribute o (Str.ofString mt) apos) args [] pos) env) := fun H s Q E S m q => by
  replace q : wpX g a V (fun x H => wmeth g.c.P mt x (fun f p H => wpXs g xs V (fun vs H => CallOK g.c g.n g.md f (.ref p :: vs) Q E H) E H) H) E H := q
  refine meth_call hb (each_all hx) hlen hline (wpAny_mono (ha H s _ E S m q) (fun ov s₁ z => ?_) fun _ _ z => z)
  obtain ⟨ao, H₁, ho, S₁, m₁, q₁⟩ := z
  intro pl
  refine meth_ind (m := fun ov => wpAny _ A (getMethod ov (Str.ofString mt) pl) _ (TE g R s₀ E) s₁) S₁ ho q₁ fun p cl es hmm O hno q₁ => ?_
  obtain ⟨c1, c2, c3, c4⟩ := PO.meth cl mt hmm
  obtain ⟨I, x3⟩ := O
  obtain ⟨f1, f2⟩ := attrs_find (n := mt) x3
  rw [hno] at f1
  generalize hf : (List.find? (fun x : DictEntry => x.key.isStr (Str.ofString mt)) _) = fe at f1
  cases fe with
  | some => cases f1
  | none =>
  refine method_fn (C.kin.keeps S₁.stays) I (plainGet_of c1).1 (plainGet_of c1).2 c2 (beq_iff_eq.mp c3) ?_ ?_
  · show (lookIn (Str.ofString mt) (dictOf _ _)).map _ = _
    rw [lookIn_dict]; unfold getL; rw [hf, f2]; rfl
  · exact cw_ref C c4 hx S₁ m₁ q₁ fun as vs H' s' k1 k2 k3 k4 => callOK_at ev (.cons (.ref p) k1) k2 k3 k4

set_option tactic.hygienic false in
theorem s_count {p : Addr} {v : AV} {u : Value} {xs : List AV} {H : AHeap} {s : Shared} {Q : AV → AHeap → Prop} {E : Value → Shared → Prop} {d : PyData} {ds : List PyData} (hv : VR v u) (S : St g.c R H s.heap) (m : Sm s₀ s) (e : H p = some (.list xs))
    (h1 : RD H v d) (h2 : RDs H xs ds) (h3 : okD d) (h4 : flatDs ds = true) (un : A.units + 1 + 64 < cLine) (q : Q (.int (ds.countP fun y => PyData.eqv y d)) H) :
    wpAny (model g.c.prog g.c.w) A (call (.builtin "list.count") [.ref p, u]) (TQ g R s₀ Q) E s := by
  obtain ⟨⟨as, r1⟩, c1⟩ := reads_of S h1 hv
  obtain ⟨ws, n, k1, k2, k3⟩ := isList_of S e
  obtain ⟨⟨bs, r2⟩, c2⟩ := readsAll_of S h2 k2
  have dd : d.depth ≤ 64 := h3.2
  have cd := c1 h3.1
  have cs := c2 h4
  have mp := readsAll_map ds _ _ cs r2
  refine call_meets PySem.F.slot_list_count ⟨_, k1, rfl⟩ PySem.F.entry_list_count (PySem.F.args_list_count_2 _ _)
    (list_countAt p ws.toArray n none #[] u (fun y => PyData.eqv (readOf s.heap y) d)) ⟨k1, items_eqAt (by simpa using r2) r1 cs cd (by omega), TQ.toks (.int _ _) S m ?_⟩
  rw [← mp, List.countP_map] at q
  exact q
set_option tactic.hygienic false in
theorem s_clear {p : Addr} {xs : List AV} {H : AHeap} {s : Shared} {Q : AV → AHeap → Prop} {E : Value → Shared → Prop} (S : St g.c R H s.heap) (m : Sm s₀ s) (e : H p = some (.list xs)) (hz : xs.length ≤ sizeLine) (q : Q .none (up H p (.list []))) :
    wpAny (model g.c.prog g.c.w) A (call (.builtin "list.clear") [.ref p]) (TQ g R s₀ Q) E s := by
  obtain ⟨vs, n, k1, k2, k3⟩ := isList_of S e
  refine call_meets PySem.F.slot_list_clear ⟨_, k1, rfl⟩ PySem.F.entry_list_clear (PySem.F.args_list_clear_1 _) (AutoSeq1.list_clear_list_0 p vs.toArray n (by simp only [List.size_toArray]; rw [← k2.length]; exact hz)) ⟨k1, ?_⟩
  refine ⟨.none, _, .none, S.setObj (o' := .list []) e (by intro _ _ z; cases z) (Heap.SameBut.update ..) (fun D => ⟨[], _, Heap.get?_update_self (Obj.mapSeq fun _ => (#[] : Array Value)) k1 rfl, .nil⟩), m.step _ _, q⟩
theorem DRs.without {es : List (Str × AV)} {kvs : List (Str × Value)} (h : DRs es kvs) (k : Str) : DRs (es.filter fun e => e.1 ≠ k) (PySem.without kvs k) := by
  unfold PySem.without
  induction h with
  | nil => exact .nil
  | cons h1 h2 _ ih =>
    rename_i k' a v as vs _
    by_cases z : k' = k
    · simpa [z] using ih
    · simpa [z] using DRs.cons h1 h2 ih
set_option tactic.hygienic false in
theorem s_pop {p : Addr} {k : Str} {t : Tok} {es : List (Str × AV)} {ep : Nat} {v : AV} {H : AHeap} {s : Shared} {Q : AV → AHeap → Prop} {E : Value → Shared → Prop} (S : St g.c R H s.heap) (m : Sm s₀ s) (e : H p = some (.dict ep es)) (hz : es.length ≤ sizeLine)
    (hv : lookS es k = some v) (q : ∀ ep, Q v (up H p (.dict ep (es.filter fun e => e.1 ≠ k)))) :
    wpAny (model g.c.prog g.c.w) A (call (.builtin "dict.pop") [.ref p, .str k t]) (TQ g R s₀ Q) E s := by
  obtain ⟨kvs, hd, hr⟩ := isDict_of S e
  have hlk := hr.look k
  rw [hv] at hlk
  generalize hw : valueAt kvs k = w at hlk
  cases hlk with
  | some hvr =>
  refine call_meetsIn PySem.F.slot_dict_pop hd.dictOf.typeIs PySem.F.entry_dict_pop (PySem.F.args_dict_pop_2 _ _) (meets_dict_pop_there (strKind g.c.prog g.c.w) p (strKind_is _ _ k t) [] (.inl rfl) rfl) ⟨kvs, _, hd.dictOf, by rw [hr.length]; exact hz, hw, fun h' hd' hs => ?_⟩
  obtain ⟨ep', hat⟩ := hd'.dictAt
  exact ⟨v, _, hvr, S.setObj (o' := .dict ep' _) e (by intro _ _ z; cases z) hs fun D => ⟨_, hat, hr.without k⟩, m.step _ _, q ep'⟩
set_option tactic.hygienic false in
theorem s_values {p : Addr} {es : List (Str × AV)} {ep : Nat} {H : AHeap} {s : Shared} {Q : AV → AHeap → Prop} {E : Value → Shared → Prop} (C : g.c.Ok mg mb) (S : St g.c R H s.heap) (m : Sm s₀ s) (e : H p = some (.dict ep es)) (q : ∀ z, H z = none → Q (.ref z) (up H z (.vals p))) :
    wpAny (model g.c.prog g.c.w) A (call (.builtin "dict.values") [.ref p]) (TQ g R s₀ Q) E s := by
  obtain ⟨kvs, hd, hr⟩ := isDict_of S e
  refine call_meetsIn PySem.F.slot_dict_values hd.dictOf.typeIs PySem.F.entry_dict_values (PySem.F.args_dict_values_1 _) (meets_dict_values (strKind g.c.prog g.c.w) p (hds_of C S e)) ⟨⟨kvs, hd.dictOf⟩, ?_⟩
  obtain ⟨z, S'⟩ := S.newObj (o := .vals p) (Nat.le_refl _) (fun _ _ z => Heap.get?_push_of_some _ z) (by rw [Heap.size_push]; exact Nat.le_succ _) (by intro _ _ z; cases z) (fun D => Heap.get?_push_size _ rfl)
  exact ⟨_, _, .ref _, S', m.heap _, q _ z⟩
set_option tactic.hygienic false in
theorem s_upper {x : Str} {t : Tok} {H : AHeap} {s : Shared} {Q : AV → AHeap → Prop} {E : Value → Shared → Prop} (S : St g.c R H s.heap) (m : Sm s₀ s) (hz : (upperS x).length ≤ sizeLine) (hk : PyData.strOk (upperS x) = true) (q : Q (.str (upperS x)) H) :
    wpAny (model g.c.prog g.c.w) A (call (.builtin "str.upper") [.str x t]) (TQ g R s₀ Q) E s := by
  have hf : Builtin.Str.tooLong (upperS x).length = false := by unfold Builtin.Str.tooLong; rw [decide_eq_false_iff_not]; exact Nat.not_lt.mpr hz
  exact wpAny_call (codeAny_call_builtin PySem.F.slot_str_upper.plain PySem.F.entry_str_upper (PySem.F.slot_str_upper.check _ _ _ _ _ _ _ _ (typeIs_str _ _ _) (PySem.F.args_str_upper_1 _) (gives_str_upper x t hf _ _ _ (wants (TQ g R s₀ Q) E) s ⟨hz, TQ.toks (.str _ _ hk) S m q⟩)))

noncomputable def BM.id : BM → String
  | .append => "list.append" | .index => "list.index" | .count => "list.count" | .clear => "list.clear" | .values => "dict.values" | .pop => "dict.pop" | .upper => "str.upper"
set_option tactic.hygienic false in
theorem s_bm {o : AV} {u : Value} {bm : BM} {as : List AV} {vs : List Value} {H : AHeap} {s : Shared} {Q : AV → AHeap → Prop} {E : Value → Shared → Prop} (C : g.c.Ok mg mb) (un : A.units + 1 + 64 < cLine) (ho : VR o u) (hv : VRs as vs) (S : St g.c R H s.heap) (m : Sm s₀ s) (q : wbm o bm as Q H) :
    wpAny (model g.c.prog g.c.w) A (call (.builtin bm.id) (u :: vs)) (TQ g R s₀ Q) E s := by
  cases bm with
  | append => exact onV1_ind (m := fun vs => wpAny _ A (call (.builtin "list.append") (u :: vs)) (TQ g R s₀ Q) E s) hv q fun a v h q => atL_ind (m := fun u => wpAny _ A (call (.builtin "list.append") [u, v]) (TQ g R s₀ Q) E s) ho q fun p xs e q => s_append h S m e q.1 q.2
  | index =>
    refine onV1_ind (m := fun vs => wpAny _ A (call (.builtin "list.index") (u :: vs)) (TQ g R s₀ Q) E s) hv q fun a v h q => atL_ind (m := fun u => wpAny _ A (call (.builtin "list.index") [u, v]) (TQ g R s₀ Q) E s) ho q fun p xs e q => ?_
    obtain ⟨z1, d, ds, z2, z3, z4, z5, k, z6, z7⟩ := q
    exact s_index h S m e z2 z3 z4 z5 z1 un z6 z7
  | count =>
    refine onV1_ind (m := fun vs => wpAny _ A (call (.builtin "list.count") (u :: vs)) (TQ g R s₀ Q) E s) hv q fun a v h q => atL_ind (m := fun u => wpAny _ A (call (.builtin "list.count") [u, v]) (TQ g R s₀ Q) E s) ho q fun p xs e q => ?_
    obtain ⟨d, ds, z2, z3, z4, z5, z6⟩ := q
    exact s_count h S m e z2 z3 z4 z5 un z6
  | clear => cases hv with
    | nil => exact atL_ind (m := fun u => wpAny _ A (call (.builtin "list.clear") [u]) (TQ g R s₀ Q) E s) ho q fun p xs e q => s_clear S m e q.1 q.2
    | cons => exact q.elim
  | values => cases hv with
    | nil => exact atD_ind (m := fun u => wpAny _ A (call (.builtin "dict.values") [u]) (TQ g R s₀ Q) E s) ho q fun p ep es e q => s_values C S m e q
    | cons => exact q.elim
  | pop =>
    refine onV1_ind (m := fun vs => wpAny _ A (call (.builtin "dict.pop") (u :: vs)) (TQ g R s₀ Q) E s) hv q fun a v h q => ?_
    cases h with
    | str k t hk =>
      refine atD_ind (m := fun u => wpAny _ A (call (.builtin "dict.pop") [u, .str k t]) (TQ g R s₀ Q) E s) ho q fun p ep es e q => ?_
      obtain ⟨z1, v, z2, z3⟩ := q
      exact s_pop S m e z1 z2 z3
    | _ => exact q.elim
  | upper => cases hv with
    | nil => cases ho with
      | str x t hx => exact s_upper S m q.1 q.2.1 q.2.2
      | _ => exact q.elim
    | cons => exact q.elim

set_option tactic.hygienic false in
theorem s_getm {o : AV} {u : Value} {bm : BM} {pl : Sem Bool} {H : AHeap} {s : Shared} {Q : Value × List Value → Shared → Prop} {E : Value → Shared → Prop} (ho : VR o u) (S : St g.c R H s.heap) (hon : bmOn bm o H) (q : Q (.builtin bm.id, [u]) s) :
    wpAny (model g.c.prog g.c.w) A (getMethod u (Str.ofString bm.str) pl) Q E s := by
  cases ho with
  | str x t hx => cases hon; exact getMethod_builtin (typeIs_str _ _ _) PySem.F.plainAttrs_str PySem.F.slot_str_upper PySem.F.type_str_upper (fun a h => by cases h) q
  | ref p =>
    obtain ⟨oo, e⟩ : ∃ oo, H p = oo := ⟨_, rfl⟩
    dsimp only [bmOn] at hon
    rw [e] at hon
    cases oo with
    | none => exact hon.elim
    | some oo =>
    cases oo with
    | list xs =>
      obtain ⟨ws, n, k1, k2, k3⟩ := isList_of S e
      have k0 : ∀ a, Value.ref p = .ref a → ∃ o, s.heap.get? a = some o ∧ o.dict = none := fun a h => by cases h; exact ⟨_, k1, rfl⟩
      rcases hon with rfl | rfl | rfl | rfl
      · exact getMethod_builtin ⟨_, k1, rfl⟩ PySem.F.plainAttrs_list PySem.F.slot_list_append PySem.F.type_list_append k0 q
      · exact getMethod_builtin ⟨_, k1, rfl⟩ PySem.F.plainAttrs_list PySem.F.slot_list_clear PySem.F.type_list_clear k0 q
      · exact getMethod_builtin ⟨_, k1, rfl⟩ PySem.F.plainAttrs_list PySem.F.slot_list_index PySem.F.type_list_index k0 q
      · exact getMethod_builtin ⟨_, k1, rfl⟩ PySem.F.plainAttrs_list PySem.F.slot_list_count PySem.F.type_list_count k0 q
    | dict ep es =>
      obtain ⟨kvs, ⟨od, es, k1, kc, _⟩, hr⟩ := isDict_of S e
      have k0 : ∀ a, Value.ref p = .ref a → ∃ o, s.heap.get? a = some o ∧ o.dict = none := fun a h => by cases h; exact ⟨_, k1, kc.2.1⟩
      rcases hon with rfl | rfl
      · exact getMethod_builtin ⟨_, k1, kc.1⟩ PySem.F.plainAttrs_dict PySem.F.slot_dict_values PySem.F.type_dict_values k0 q
      · exact getMethod_builtin ⟨_, k1, kc.1⟩ PySem.F.plainAttrs_dict PySem.F.slot_dict_pop PySem.F.type_dict_pop k0 q
    | _ => exact hon.elim
  | _ => exact hon.elim

set_option tactic.hygienic false in
theorem hx_bm {a : X} {bm : BM} {xs : List X} {o : PySem.Expr} {args : List PySem.Expr} {apos pos : Pos} (C : g.c.Ok mg mb) (ev : Ev g A R e₀ l₀) (hb : baseOk o = true) (hline : (apos.endLine == pos.line) = true) (hlen : args.length < 29)
    (ha : HX g A R V s₀ a (eval o env)) (hx : EachX g A R V s₀ env xs args) : HX g A R V s₀ (.bm a bm xs) (eval (.Call (.Attribute o (Str.ofString bm.str) apos) args [] pos) env) := fun H s Q E S m q => by
  dsimp only [x_lit, x_var, x_bin, x_neg, x_not, x_ao, x_cmp, x_cmp2, x_sub, x_glob, x_call, x_prim, x_bm, x_isi, x_list, x_tup, x_new, x_dict0, x_dict1, x_attr, x_meth, x_comp] at q
  refine meth_call hb (each_all hx) hlen hline (wpAny_mono (ha H s _ E S m q) (fun ov s₁ z => ?_) fun _ _ z => z)
  obtain ⟨ao, H₁, ho, S₁, m₁, hon, q₁⟩ := z
  intro pl
  refine s_getm ho S₁ hon ?_
  exact cw_prim (.inl ⟨_, rfl⟩) hx S₁ m₁ q₁ fun as vs H' s' k1 k2 k3 k4 => s_bm C (by have := ev.aok.units; omega) ho k1 k2 k3 k4

set_option tactic.hygienic false in
theorem hx_new {sc : Scope} {nm : List Str} {cl : String} {fe : PySem.Expr} {args : List PySem.Expr} {xs : List X} {pos : Pos} (C : g.c.Ok mg mb) (PO : PgOk g.c) (ev : Ev g A R e₀ l₀) (fr : Frm R env sc nm V) (hn : nameIs sc cl fe = true)
    (hg : g.c.P.classes.contains cl = true) (hx : EachX g A R V s₀ env xs args) : HX g A R V s₀ (.new cl xs) (eval (.Call fe args [] pos) env) := fun H s Q E S m q => by
  dsimp only [x_lit, x_var, x_bin, x_neg, x_not, x_ao, x_cmp, x_cmp2, x_sub, x_glob, x_call, x_prim, x_bm, x_isi, x_list, x_tup, x_new, x_dict0, x_dict1, x_attr, x_meth, x_comp] at q
  obtain ⟨h1, h2, h3, h4, h5⟩ := PO.cls cl hg
  obtain ⟨id, p, rfl⟩ := nameIs_name hn
  refine wpAny_Call_NameR (glob_K C fr S hn h1 ?_)
  refine cw_ref C h2 hx S m q fun as vs H' s' k1 k2 k3 k4 => ?_
  obtain ⟨hh, gg, dd, t, os⟩ := s'
  have X := C.kin.keeps k2.stays
  obtain ⟨e, S'⟩ := k2.newInst (cl := cl)
  refine wpAny_call (make_core (makes_of X h3) (looks_findIn X h4) (fun self => bind_fn X self (beq_iff_eq.mp h5)) (.inl rfl) ?_)
  refine k4 _ e _ (e₀ :: l₀) R _ _ _ ⟨?_, ?_, ?_, ?_⟩ ev.stk S' (.cons (.ref _) k1) ?_ ?_
  · exact ev.aok.frames
  · have := ev.aok.depth
    have hw : (Code.builtin "type.__call__" ⟨.ref (g.c.ca cl) :: vs, []⟩).weight = 1 := rfl
    show A.depth + (Code.builtin "type.__call__" ⟨.ref (g.c.ca cl) :: vs, []⟩).weight + 110 + 0 + 8 * g.n < recursionLimit
    omega
  · have := ev.aok.units
    have hw : (Code.builtin "type.__call__" ⟨.ref (g.c.ca cl) :: vs, []⟩).cUnits = 1 := rfl
    show A.units + (Code.builtin "type.__call__" ⟨.ref (g.c.ca cl) :: vs, []⟩).cUnits + 100 + 10 * 0 + 60 * g.n < cLine
    omega
  · exact ev.aok.hand
  · rintro av v s' H' z1 z2 z3 ⟨rfl, z4⟩
    cases z1
    exact ⟨rfl, _, _, .ref _, z2, k3.trans ((Sm.mk' _ _ _).trans z3), z4⟩
  · exact fun e cl s' H' z1 z2 z3 => ⟨e, cl, H', rfl, z1, k3.trans ((Sm.mk' _ _ _).trans z2), z3⟩
end
end Mine

end
section
open PySem PySem.W PyProof.Rows PySem.Spec PySem.SeqAt PySem.Calls
namespace Mine

set_option tactic.hygienic false in
theorem type_ve : typeOf (.type "ValueError") = pure (.type "type") := by kernel_rfl

set_option tactic.hygienic false in
theorem isi_nestedT {M : Model} {A : Around} {E : Value → Shared → Prop} {K : Frag} {s : Shared} {v : Value} {C : Addr} {T : String} {dep : Int} {tk : Tok} {Q : Fin → Shared → Prop} (X : K.In s.heap) (ht : Looks M s.heap (typeOf v) (.ref C))
    (hty : typeOf (.type T) = pure (.type "type")) (e : subIn K (.ref C) (.type T) = some true) (h : Q (.done (.ret (.bool true))) s) :
    wpAny M A (Builtin.«isinstance.nested» ⟨[v, .type T, .int dep tk], []⟩) Q E s := by
  obtain ⟨hh, g, d, tt, os⟩ := s
  unfold Builtin.«isinstance.nested»
  refine wpAny_bind (ht.at ?_)
  rw [if_neg (by simp)]
  have L3 : Looks M hh (isInstance v (.type T)) true := ht.andThen (looks_subIn X e)
  rw [hty]
  refine wpAny_bind (wpAny_pure ?_)
  rw [if_pos (by decide)]
  k_delta "plainIsInstance"
  unfold isType
  refine wpAny_bind (wpAny_bind (wpAny_pure ?_))
  dsimp only [Bool.not_true, Bool.false_eq_true, if_false]
  refine wpAny_bind (L3.at ?_)
  simp only [if_true]
  exact wpAny_pure (wpAny_pure h)
theorem isi_callT {prog : Program} {w : World} {A : Around} {E : Value → Shared → Prop} {K : Frag} {s : Shared} {v : Value} {C : Addr} {T : String} {Q : Value → Shared → Prop} (X : K.In s.heap) (ht : ∀ M, Looks M s.heap (typeOf v) (.ref C))
    (hty : typeOf (.type T) = pure (.type "type")) (e : subIn K (.ref C) (.type T) = some true) (hx : v ≠ .builtin "__main__.__loader__#opaque") (h : Q (.bool true) s) :
    wpAny (model prog w) A (call (.builtin "isinstance") [v, .type T]) Q E s :=
  call_isinstance (S := fun _ R s => (K.In s.heap ∧ ∀ M, Looks M s.heap (typeOf v) (.ref C)) ∧ R (.ok (.ret (.bool true))) s) (fun _ _ _ _ _ hs => isinstance_outer (isi_nestedT hs.1.1 (hs.1.2 _) hty e hs.2) hx) ⟨⟨X, ht⟩, h⟩

section
variable {prog : Program} {w : World} {A : Around} {E : Value → Shared → Prop} {s : Shared} {K : Frag} {x C D : Addr}
noncomputable def dataIn (K : Frag) (D : Addr) : Prop := findIn K (.ref D) "__class__" = some (some (.builtin "object.__class__")) ∧ specialIn K (.builtin "object.__class__") "__get__" = some (some (.builtin "getset_descriptor.__get__")) ∧ takesIn K (.builtin "object.__class__") = some true
set_option tactic.hygienic false in
theorem look_class {M : Model} {h : Heap} (X : K.In h) (e : dataIn K D) : Looks M h (Builtin.ObjectAttr.find (.ref x) (.ref D) "__class__") (.bind (.builtin "getset_descriptor.__get__") (.builtin "object.__class__")) := by
  obtain ⟨h1, h2, h3⟩ := e
  have L1 := looks_findIn (M := M) X h1
  have L2 : Looks M h (Builtin.ObjectAttr.getOf (some (.builtin "object.__class__"))) (some (.builtin "getset_descriptor.__get__")) := looks_specialIn X h2
  refine L1.andThen (L2.andThen ?_)
  have L3 := looks_takesIn (M := M) X h3
  exact (show Looks M h (Builtin.ObjectAttr.dataDescriptor? (some (.builtin "object.__class__")) (some (.builtin "getset_descriptor.__get__"))) (some (.builtin "getset_descriptor.__get__", .builtin "object.__class__")) from L3.andThen .now).andThen (Looks.tag .now)
set_option tactic.hygienic false in
open Builtin Builtin.ObjectAttr Builtin.Getset_descriptor in
theorem cls_get {tp : Value} {R : Result → Shared → Prop} (X : K.In s.heap) (I : ∀ M, Looks M s.heap (typeOf (.ref x)) (.ref D)) (hm : mroIn K D (.type "object") = some true) (h : R (.ok (.ret (.ref D))) s) :
    codeAny (model prog w) A (.call (.builtin "getset_descriptor.__get__") ⟨[.builtin "object.__class__", .ref x, tp], []⟩) R s := by
  obtain ⟨hh, g, dr, t, os⟩ := s
  have L0 := I (model prog w)
  have L1 := looks_mroIn (M := model prog w) X hm
  refine codeAny_call_builtin KF.slot_gs.plain KF.entry_gs (KF.slot_gs.check _ _ _ _ _ _ _ _ KF.type_class (KF.args_gs _ _ _) ?_)
  unfold Builtin.«getset_descriptor.__get__» descrGet
  rw [dga_obj]
  refine wpAny_bind (wpAny_pure ?_)
  unfold descrGetter descrCheckInstance descrNameAndClass isInstance
  simp only [KF.owner_class]
  repeat lk
  refine ⟨Code.quiet_builtin _ (by decide +kernel), codeAny_builtin KF.entry_class ?_⟩
  unfold Builtin.«object.__class__» shownTypeOf
  repeat lk
  exact h
set_option tactic.hygienic false in
theorem exc_entry {tk : Tok} {Q : Fin → Shared → Prop} (X : K.In s.heap) (I : ∀ M, Looks M s.heap (typeOf (.ref x)) (.ref D)) (hf : dataIn K D) (hm : mroIn K D (.type "object") = some true) (h : Q (.done (.ret (.ref D))) s) :
    wpAny (model prog w) A (Builtin.«object.__getattribute__» ⟨[.ref x, .str "__class__" tk], []⟩) Q E s := by
  obtain ⟨hh, g, d, t, os⟩ := s
  have L0 := I (model prog w)
  have L1 := look_class (x := x) (M := model prog w) X hf
  unfold Builtin.«object.__getattribute__»
  refine wpAny_bind (wpAny_pure ?_)
  refine wpAny_bind (wpAny_pure ?_)
  refine wpAny_bind (L0.at (wpAny_bind (L1.at ?_)))
  show wpAny _ _ (holding [Value.builtin "object.__class__"] (call (.builtin "getset_descriptor.__get__") [.builtin "object.__class__", .ref x, .ref D]) >>= ret) _ _ _
  exact wpAny_bind (wpAny_holding (wpAny_call (cls_get X I hm (wpAny_pure h))))
set_option tactic.hygienic false in
theorem exc_ga {tk : Tok} {R : Result → Shared → Prop} (X : K.In s.heap) (I : ∀ M, Looks M s.heap (typeOf (.ref x)) (.ref D)) (hb : subIn K (.ref D) (.type "BaseException") = some true) (hf : dataIn K D) (hm : mroIn K D (.type "object") = some true) (h : R (.ok (.ret (.ref D))) s) :
    codeAny (model prog w) A (.call (.builtin "BaseException.__getattribute__") ⟨[.ref x, .str "__class__" tk], []⟩) R s := by
  have hk : builtinKind "BaseException.__getattribute__" = some .slot := by decide +kernel
  have hsplit : splitId "BaseException.__getattribute__" = some ("BaseException", "__getattribute__") := by decide +kernel
  have ha := F.args_bexc_ga (.ref x) (.str "__class__" tk)
  obtain ⟨hh, g, d, t, os⟩ := s
  have L0 := I (model prog w)
  have L3 : Looks (model prog w) hh (isInstance (.ref x) (.type "BaseException")) true := L0.andThen (looks_subIn X hb)
  refine codeAny_call_builtin (by decide +kernel) F.entry_bexc_ga ?_
  simp only [checkBuiltinCall, hk, hsplit]
  refine wpAny_bind (L3.at ?_)
  rw [if_neg (by decide)]
  revert ha
  unfold argsOk
  generalize Manifest.signature? "BaseException.__getattribute__" = sg
  cases sg with
  | none => exact fun _ => wpAny_pure (exc_entry X I hf hm h)
  | some sig =>
    intro ha
    show wpAny _ _ (Bind.checkArgs "BaseException.__getattribute__" sig ⟨[.ref x, .str "__class__" tk], []⟩) _ _ _
    rw [show Bind.checkArgs "BaseException.__getattribute__" sig ⟨[.ref x, .str "__class__" tk], []⟩ = pure () from ha]
    exact wpAny_pure (exc_entry X I hf hm h)
set_option tactic.hygienic false in
theorem exc_class {Q : Option Value → Shared → Prop} (X : K.In s.heap) (I : ∀ M, Looks M s.heap (typeOf (.ref x)) (.ref D)) (hga : findIn K (.ref D) "__getattribute__" = some (some (.builtin "BaseException.__getattribute__"))) (hgt : findIn K (.ref D) "__getattr__" = some none) (hb : subIn K (.ref D) (.type "BaseException") = some true) (hf : dataIn K D) (hm : mroIn K D (.type "object") = some true) (h : Q (some (.ref D)) { s with toks := s.toks + 1 }) :
    wpAny (model prog w) A (getAttr? (.ref x) "__class__") Q E s := by
  obtain ⟨hh, g, d, t, os⟩ := s
  have L0 := I (model prog w)
  have L1 := looks_findIn (M := model prog w) X hga
  have L2 := looks_findIn (M := model prog w) X hgt
  unfold getAttr? getAttrBy? getAttrBy
  refine wpAny_bind (wpAny_mkText (wpAny_bind (wpAny_attempt (wpAny_holding (wpAny_bind (L0.at (wpAny_bind (L1.at ?_))))))))
  have hx2 : (Value.builtin "BaseException.__getattribute__" == Value.builtin "object.__getattribute__") = false := by decide +kernel
  dsimp only
  rw [hx2, Bool.and_false, if_neg (by decide)]
  unfold getAttrByItsOwn hookBefore
  refine wpAny_bind ?_
  rw [if_pos (by rfl)]
  refine L2.at ?_
  refine wpAny_bind (wpAny_attempt (wpAny_holding ?_))
  unfold callGetattribute boundAndCalled
  rw [if_neg (by decide)]
  refine wpAny_bind ?_
  unfold bindSpecial
  rw [show typeOf (.builtin "BaseException.__getattribute__") = pure (.type "wrapper_descriptor") by kernel_rfl]
  refine wpAny_bind (wpAny_pure ?_)
  rw [if_pos (by decide +kernel)]
  refine wpAny_pure ?_
  show wpAny _ _ (call (.builtin "BaseException.__getattribute__") [.ref x, .str "__class__" t]) _ _ _
  refine wpAny_call (exc_ga (s := ⟨hh, g, d, t + 1, os⟩) X I hb hf hm ?_)
  exact handed_on rfl (wpAny_pure h)
theorem exc_isnot {C : Addr} {Q : Value → Shared → Prop} (X : K.In s.heap) (I : ∀ M, Looks M s.heap (typeOf (.ref x)) (.ref D)) (hga : findIn K (.ref D) "__getattribute__" = some (some (.builtin "BaseException.__getattribute__"))) (hgt : findIn K (.ref D) "__getattr__" = some none) (hb : subIn K (.ref D) (.type "BaseException") = some true) (hf : dataIn K D) (hm : mroIn K D (.type "object") = some true)
    (hcD : (clsIn K D).isSome = true) (hcC : (clsIn K C).isSome = true) (hty : typeIn K (.ref C) = some (.type "type")) (hne : D ≠ C) (hsub : subIn K (.ref D) (.ref C) = some false) (h : Q (.bool false) { s with toks := s.toks + 1 }) :
    wpAny (model prog w) A (call (.builtin "isinstance") [.ref x, .ref C]) Q E s := by
  have isT : ∀ {M : Model} {h' : Heap} {c : Addr}, K.In h' → (clsIn K c).isSome = true → Looks M h' (isType (.ref c)) true := fun {M h' c} X' e => by
    unfold clsIn at e
    split at e
    · rename_i c' d' cd' sl' ho
      intro A' Q' E' s' k q
      unfold isType loadHead
      exact wpAny_bind (wpAny_loadPart (k _ _ (X' _ _ ho)) (wpAny_pure q))
    · cases e
  refine call_isinstance (S := fun _ R s => (K.In s.heap ∧ ∀ M, Looks M s.heap (typeOf (.ref x)) (.ref D)) ∧ R (.ok (.ret (.bool false))) { s with toks := s.toks + 1 }) (fun p w' A' R s' hs => isinstance_outer ?_ (by intro q; cases q)) ⟨⟨X, I⟩, h⟩
  obtain ⟨⟨X', I'⟩, hR⟩ := hs
  obtain ⟨h0, g, d, tt, os⟩ := s'
  have L0 := I' (model p w')
  have LS := looks_subIn (M := model p w') X' hsub
  have LI : Looks (model p w') h0 (isInstance (.ref x) (.ref C)) false := L0.andThen LS
  unfold Builtin.«isinstance.nested»
  refine wpAny_bind (L0.at ?_)
  rw [if_neg (fun q => hne (Value.ref.inj (beq_iff_eq.mp q)))]
  refine wpAny_bind ((looks_typeIn X' hty).at ?_)
  rw [if_pos (by decide)]
  k_delta "plainIsInstance"
  refine wpAny_bind (wpAny_bind ((isT X' hcC).at ?_))
  simp only [Bool.not_true, Bool.false_eq_true, if_false]
  refine wpAny_bind (LI.at ?_)
  simp only [Bool.false_eq_true, if_false]
  refine wpAny_bind (exc_class X' I' hga hgt hb hf hm ?_)
  refine wpAny_bind ((isT X' hcD).at ?_)
  simp only [Bool.not_true, Bool.false_eq_true, if_false]
  refine wpAny_bind (wpAny_rule ?_)
  refine LS.at ?_
  first
    | exact wpAny_pure hR
    | exact wpAny_pure (wpAny_pure hR)
    | exact wpAny_bind (wpAny_pure (wpAny_pure hR))
end
section
variable {g : Gx} {A : Around} {R : RR} {V : VV} {s₀ : Shared} {env : Env} {mg mb : Str → Option Value} {e₀ : Env} {l₀ : List Env}

set_option tactic.hygienic false in
theorem exc_type {M : Model} {H : AHeap} {h : Heap} {p : Addr} {cl : String} (S : St g.c R H h) (e : H p = some (.exc cl)) : Looks M h (typeOf (.ref p)) (.ref (g.c.ca cl)) := by
  obtain ⟨⟨D, o, o1, o2, vs, o3⟩, _⟩ := S.orep e
  rw [← o2]
  exact (Looks.ld o1).andThen .now
set_option tactic.hygienic false in
theorem isi_exc {P : Pg} {H : AHeap} {v : AV} {ty : String} {b : Bool} (hty : ¬(ty = "int" ∨ ty = "bool" ∨ ty = "str" ∨ ty = "list")) (h : isinstV P H v ty = some b) :
    ∃ p cl, v = .ref p ∧ H p = some (.exc cl) ∧ excSub P cl ty = b ∧ (b = false → (P.excs.lookup ty).isSome = true ∧ (P.excs.lookup cl).isSome = true) := by
  unfold isinstV at h
  rw [if_neg hty] at h
  cases v with
  | ref p =>
    obtain ⟨o, e⟩ : ∃ o, H p = o := ⟨_, rfl⟩
    dsimp only at h
    rw [e] at h
    cases o with
    | none => cases h
    | some o => cases o with
      | exc cl =>
        refine ⟨p, cl, rfl, e, ?_⟩
        replace h : (if excSub P cl ty = true then some true else if ((P.excs.lookup ty).isSome && (P.excs.lookup cl).isSome) = true then some false else none) = some b := h
        cases hc : excSub P cl ty with
        | true => rw [hc, if_pos rfl] at h; cases h; exact ⟨rfl, fun z => Bool.noConfusion z⟩
        | false =>
          rw [hc, if_neg Bool.false_ne_true] at h
          cases hk : ((P.excs.lookup ty).isSome && (P.excs.lookup cl).isSome) with
          | true => rw [hk, if_pos rfl] at h; cases h; exact ⟨rfl, fun _ => and2 hk⟩
          | false => rw [hk, if_neg Bool.false_ne_true] at h; cases h
      | _ => cases h
  | _ => cases h
set_option tactic.hygienic false in
theorem excSub_kn {P : Pg} {cl ty : String} (h : excSub P cl ty = true) : (P.excs.lookup cl).isSome = true := by
  unfold excSub at h
  cases z : P.excs.lookup cl with
  | none => rw [z] at h; cases h
  | some => rfl
set_option tactic.hygienic false in
theorem hx_isinst {sc : Scope} {nm : List Str} {ty : String} {fe t x : PySem.Expr} {a : X} {pos : Pos} (C : g.c.Ok mg mb) (PO : PgOk g.c) (fr : Frm R env sc nm V) (hn : nameIs sc "isinstance" fe = true) (hg : g.c.P.prims.contains "isinstance" = true)
    (ht : (g.c.P.prims.contains ty || (g.c.P.excs.lookup ty).isSome) = true) (hn' : nameIs sc ty t = true) (hx : HX g A R V s₀ a (eval x env)) (hs : noStar x = true) :
    HX g A R V s₀ (.isinst a ty) (eval (.Call fe [x, t] [] pos) env) := by
  cases hx' : (g.c.P.excs.lookup ty).isSome with
  | false =>
    rw [hx', Bool.or_false] at ht
    by_cases hty : ty = "int" ∨ ty = "bool" ∨ ty = "str" ∨ ty = "list"
    · exact hx_isT C PO fr hn hg ht hn' hty hx hs
    obtain ⟨k1, k2, k3⟩ := PO.prim _ ht
    refine hx_isa C PO fr hn hg (name_star hn') (fun S q => glob_B C fr S hn' k1 k2 k3 q) hx hs fun {av v H s Q E b} hv S m hb q => ?_
    obtain ⟨p, cl, rfl, e, hc, hk⟩ := isi_exc hty hb
    cases hv
    cases b with
    | false => rw [(hk rfl).1] at hx'; cases hx'
    | true =>
      obtain ⟨e1, e3⟩ := PO.exc cl ty hc ht
      subst e1
      exact isi_callT (C.kin.keeps S.stays) (fun M => exc_type S e) type_ve e3 (by simp) (TQ.pure (.bool _) S m q)
  | true =>
    obtain ⟨k1, k2, k3, k4, k5, k6, k7, k8⟩ := PO.excR _ hx'
    have hty : ¬(ty = "int" ∨ ty = "bool" ∨ ty = "str" ∨ ty = "list") := by
      rintro (rfl | rfl | rfl | rfl) <;> exact absurd k8 (by decide)
    refine hx_isa C PO fr hn hg (name_star hn') (fun S q => glob_K C fr S hn' k1 q) hx hs fun {av v H s Q E b} hv S m hb q => ?_
    obtain ⟨p, cl, rfl, e, hc, hk⟩ := isi_exc hty hb
    cases hv
    cases b with
    | true =>
      have hsub := PO.excC cl ty (excSub_kn hc) hx'
      rw [hc] at hsub
      refine isi_call (C.kin.keeps S.stays) (fun M => exc_type S e) ?_ (by simp) (TQ.pure (.bool _) S m q)
      unfold isIn
      rw [k5, k6, k7, hsub]
      simp
    | false =>
      have hkn := (hk rfl).2
      have hsub := PO.excC cl ty hkn hx'
      rw [hc] at hsub
      obtain ⟨g1, g2, g3, g4, g5, g6, g7⟩ := PO.excG cl hkn
      obtain ⟨_, _, _, c4, c5, _⟩ := PO.excR cl hkn
      have hne : g.c.ca cl ≠ g.c.ca ty := fun z => by
        have := PO.excC cl cl hkn hkn
        rw [← z, this, g7] at hsub; cases hsub
      exact exc_isnot (C.kin.keeps S.stays) (fun M => exc_type S e) g1 g2 c4 ⟨g3, g4, g5⟩ g6 c5 k5 k6 hne hsub (TQ.toks (.bool _) S m q)
end
end Mine

end
section
open PySem PySem.W PyProof.Rows PySem.Spec PySem.SeqAt PySem.Calls
namespace Mine

section
variable {c : Cx} {R : RR} {H : AHeap} {h h' : Heap}

set_option tactic.hygienic false in
theorem St1.noted (S : St1 c R H h) {ls : List Addr}
    (hls : ∀ a ∈ ls, (∃ m, R a = some (.ns m)) ∨ (R a = none ∧ H a = none ∧ c.base.get? a = none ∧ ∃ o vs, h.get? a = some o ∧ o.data = .fields vs))
    (k : ∀ b o, h.get? b = some o → b ∉ ls → h'.get? b = some o) (sl : ∀ b o, h.get? b = some o → (∀ vs, o.data ≠ .fields vs) → ∃ t, h'.get? b = some { o with slots := t })
    (hsz : c.base.objs.size ≤ h'.objs.size) : St1 c R H h' := by
  obtain ⟨s1, s2, s3, D, s4⟩ := S
  have hb : ∀ b o, c.base.get? b = some o → b ∉ ls := fun b o e hm => by
    rcases hls b hm with ⟨m, q⟩ | ⟨_, _, q, _⟩
    · have := leN (s3 b _ q).1; have := lts e; omega
    · rw [q] at e; cases e
  have hH : ∀ a o, H a = some o → a ∉ ls := fun a o e hm => by
    rcases hls a hm with ⟨m, q⟩ | ⟨_, q, _⟩
    · have := (s4.above a o e).2; rw [q] at this; cases this
    · rw [q] at e; cases e
  refine ⟨fun b o e => k b o (s1 b o e) (hb b o e), hsz, fun b r e => ⟨(s3 b r e).1, ?_⟩, D, ⟨fun a o e => ?_, s4.above, s4.dict, s4.inj⟩⟩
  · by_cases q : b ∈ ls
    · rcases hls b q with ⟨m, z⟩ | ⟨z, _⟩
      · rw [e] at z; cases z
        obtain ⟨o, es, ep, ho, hd, rr⟩ := (s3 b _ e).2
        obtain ⟨t, ht⟩ := sl b o ho (fun vs w => by rw [hd] at w; cases w)
        exact ⟨_, es, ep, ht, hd, rr⟩
      · rw [e] at z; cases z
    · exact (s3 b r e).2.agree fun ob z => k b ob z q
  · refine (s4.rep a o e).agree (fun ob z => k a ob z (hH a o e)) fun cl es eo => ⟨rfl, fun ob z => ?_⟩
    subst eo
    refine k _ ob z fun hm => ?_
    obtain ⟨_, y2, y3⟩ := s4.dict a cl es e
    rcases hls _ hm with ⟨m, q⟩ | ⟨_, _, _, o', vs, q1, q2⟩
    · rw [q] at y2; cases y2
    · obtain ⟨_, ents, n, w, _⟩ := s4.rep a _ e
      rw [w] at q1; cases q1; cases q2

set_option tactic.hygienic false in
theorem St1.frames (S : St1 c R H h) {l : List Env} (hs : Stk R l) {B : Heap} (hB : ∀ e ∈ l, B.get? e.locals = none) : h.FunFrames B l := by
  induction l with
  | nil => trivial
  | cons e l ih =>
    have F := hs e (.head _)
    obtain ⟨m, hm⟩ := F.ns
    obtain ⟨o, es, ep, ho, hd, _⟩ := (S.res _ _ hm).2
    exact ⟨by rw [F.kind]; simp, ⟨e.locals, o, F.frame, hB e (.head _), ho, fun vs w => by rw [hd] at w; cases w⟩, ih (fun x hx => hs x (.tail _ hx)) fun x hx => hB x (.tail _ hx)⟩

noncomputable def FlOk (env : Env) (fl : Value) : Prop := fl = .ellipsis ∨ fl = .none ∨ fl = rawInt env.locals

set_option tactic.hygienic false in
theorem exc_noted {e : Addr} {cl : String} {env : Env} {outer : List Env} {ls : List Addr} {a0 fl : Value} (X : St1 c R H h) (re : R e = none) (he : H e = none) (be : c.base.get? e = none) (hs : Stk R (env :: outer))
    (hls : ∀ a ∈ ls, (∃ m, R a = some (.ns m)) ∨ (R a = none ∧ H a = none ∧ c.base.get? a = none ∧ ∃ o vs, h.get? a = some o ∧ o.data = .fields vs))
    (N : Heap.NotedW (hideAll h ls) (env :: outer) e (.ref (c.ca cl)) a0 fl h h') (hfl : fl ≠ .ellipsis) (kn : (c.P.excs.lookup cl).isSome = true) : ExcSt1 c R H e cl fl h' := by
  obtain ⟨n1, n2, n3, n4⟩ := N
  have F := hs env (.head _)
  obtain ⟨m, hm⟩ := F.ns
  obtain ⟨o, es, ep, ho, hd, _⟩ := (X.res _ _ hm).2
  obtain ⟨t, ht⟩ := n4 _ o ho (fun vs w => by rw [hd] at w; cases w)
  have hsz : c.base.objs.size ≤ h'.objs.size := by
    have h1 := leN (X.res _ _ hm).1; have h2 := lts ht; omega
  have S' := X.noted hls (fun b o e q => n1 b o (hideAll_get _ e q)) n4 hsz
  obtain ⟨oe, vs, T, oT, ts, h1, ⟨h2, h3⟩, h4, h5, h6, h7, h8, h9, h10⟩ := n3
  have out : ∀ b o, h.get? b = some o → b ∉ ls → b ≠ T := fun b o e q z => by
    have := hideAll_get ls e q
    rw [z, h6] at this; cases this
  refine ⟨S', re, he, be, .traced h1 h2 h4 h3 h5 h7 ?_ ?_ ?_ h8 h9 h10 hfl, kn⟩
  · cases q : R T with
    | none => rfl
    | some r =>
      exfalso
      obtain ⟨ob, hob⟩ := (X.res _ _ q).2.there
      by_cases z : T ∈ ls
      · rcases hls T z with ⟨m', q'⟩ | ⟨q', _⟩
        · obtain ⟨o', es', ep', ho', hd', _⟩ := (S'.res _ _ q').2
          rw [h8] at ho'; cases ho'; rw [h9] at hd'; cases hd'
        · rw [q] at q'; cases q'
      · exact out T ob hob z rfl
  · cases q : H T with
    | none => rfl
    | some r =>
      exfalso
      obtain ⟨D, s4⟩ := X.rep
      obtain ⟨ob, hob⟩ := (s4.rep _ _ q).there
      by_cases z : T ∈ ls
      · rcases hls T z with ⟨m', q'⟩ | ⟨_, q', _⟩
        · have := (s4.above _ _ q).2; rw [q'] at this; cases this
        · rw [q] at q'; cases q'
      · exact out T ob hob z rfl
  · cases q : c.base.get? T with
    | none => rfl
    | some ob =>
      exfalso
      by_cases z : T ∈ ls
      · rcases hls T z with ⟨m', q'⟩ | ⟨_, _, q', _⟩
        · have := leN (X.res _ _ q').1; have := lts q; omega
        · rw [q] at q'; cases q'
      · exact out T ob (X.stays _ _ q) z rfl

theorem exc_note1 {M : Model} {A : Around} {E : Value → Shared → Prop} {s : Shared} {e : Addr} {cl : String} {fl : Value} {env : Env} {outer : List Env} {Q : Unit → Shared → Prop} (hfr : A.frames = some (env :: outer)) (hs : Stk R (env :: outer))
    (X : ExcSt1 c R H e cl fl s.heap) (hfl : FlOk env fl) (q : ∀ h', ExcSt1 c R H e cl (rawInt env.locals) h' → Q () { s with heap := h' }) : wpAny M A (noteFrame (.ref e) env) Q E s := by
  obtain ⟨st, re, he, be, ob, kn⟩ := X
  have F := hs env (.head _)
  cases ob with
  | fresh h1 =>
    have hls : ∀ a ∈ e :: (env :: outer).map (·.locals), (∃ m, R a = some (.ns m)) ∨ (R a = none ∧ H a = none ∧ c.base.get? a = none ∧ ∃ o vs, s.heap.get? a = some o ∧ o.data = .fields vs) := by
      intro a ha
      rcases List.mem_cons.mp ha with rfl | ha
      · exact .inr ⟨re, he, be, _, _, h1, rfl⟩
      · obtain ⟨x, hx, rfl⟩ := List.mem_map.mp ha
        exact .inl (hs x hx).ns
    unfold noteFrame
    simp only [F.frame]
    refine wpAny_bind (wpAny_field h1 rfl (x := .none) rfl ?_)
    rw [if_neg (by decide)]
    refine wpAny_entryW (base := hideAll s.heap (e :: (env :: outer).map (·.locals))) (a0 := _) hfr (st.frames hs fun x hx => hideAll_none _ (List.mem_cons_of_mem _ (List.mem_map_of_mem hx))) F.frame h1 (fun b o z => of_hideAll _ z) (hideAll_none _ (List.mem_cons_self ..)) rfl (by simp) rfl fun h' N => q h' ?_
    exact exc_noted st re he be hs hls N (by simp [rawInt]) kn
  | traced h1 h2 h3 h4 h5 h6 h7 h8 h9 h10 h11 h12 h13 =>
    rename_i oe vs T oT ts a0
    rcases hfl with rfl | rfl | rfl
    · exact absurd rfl h13
    · have hls : ∀ a ∈ e :: T :: (env :: outer).map (·.locals), (∃ m, R a = some (.ns m)) ∨ (R a = none ∧ H a = none ∧ c.base.get? a = none ∧ ∃ o vs, s.heap.get? a = some o ∧ o.data = .fields vs) := by
        intro a ha
        rcases List.mem_cons.mp ha with rfl | ha
        · exact .inr ⟨re, he, be, _, _, h1, h3⟩
        · rcases List.mem_cons.mp ha with rfl | ha
          · exact .inr ⟨h7, h8, h9, _, _, h10, h11⟩
          · obtain ⟨x, hx, rfl⟩ := List.mem_map.mp ha
            exact .inl (hs x hx).ns
      refine wpAny_noteFrame_onW (base := hideAll s.heap (e :: T :: (env :: outer).map (·.locals))) (cls := .ref (c.ca cl)) (a0 := a0) hfr (st.frames hs fun x hx => hideAll_none _ (List.mem_cons_of_mem _ (List.mem_cons_of_mem _ (List.mem_map_of_mem hx)))) F.frame
        ⟨oe, vs, T, oT, ts, h1, ⟨h2, h4⟩, h3, h5, hideAll_none _ (List.mem_cons_of_mem _ (List.mem_cons_self ..)), h6, h10, h11, h12⟩ (fun b o z => of_hideAll _ z) (hideAll_none _ (List.mem_cons_self ..)) fun h' N => q h' ?_
      exact exc_noted st re he be hs hls N (by simp [rawInt]) kn
    · refine wpAny_noteFrame_againW (base := hideAll s.heap [T]) (cls := .ref (c.ca cl)) (a0 := a0) F.frame ⟨oe, vs, T, oT, ts, h1, ⟨h2, h4⟩, h3, h5, hideAll_none _ (List.mem_cons_self ..), h6, h10, h11, h12⟩ ?_
      have := q s.heap ⟨st, re, he, be, .traced h1 h2 h3 h4 h5 h6 h7 h8 h9 h10 h11 h12 h13, kn⟩
      exact this

theorem exc_flight1 {M : Model} {A : Around} {E : Value → Shared → Prop} {s : Shared} {e : Addr} {cl : String} {fl : Value} {f : Option Addr} {Q : Unit → Shared → Prop}
    (X : ExcSt1 c R H e cl fl s.heap) (hfl : fl ≠ .ellipsis) (q : ∀ h', ExcSt1 c R H e cl (f.elim .none fun f => rawInt f) h' → Q () { s with heap := h' }) : wpAny M A (setFlight (.ref e) f) Q E s := by
  obtain ⟨st, re, he, be, ob, kn⟩ := X
  cases ob with
  | fresh h1 => exact absurd rfl hfl
  | traced h1 h2 h3 h4 h5 h6 h7 h8 h9 h10 h11 h12 h13 =>
    rename_i oe vs T oT ts a0
    have hsz3 : 3 < ts.size := (Array.getElem?_eq_some_iff.mp h12).1
    have other : ∀ b, b ≠ T → (s.heap.update T (Obj.mapFields (·.setIfInBounds 3 (f.elim Value.none fun f => rawInt f)))).get? b = s.heap.get? b :=
      fun b hb => Heap.get?_update_other _ _ (Ne.symm hb)
    unfold setFlight
    refine wpAny_bind (wpAny_field h1 h3 h5 ?_)
    rw [if_pos (show (Value.ref T != Value.none) = true from by simp)]
    refine wpAny_setField h10 h11 hsz3 (q _ ⟨?_, re, he, be, ?_, kn⟩)
    · refine st.noted (ls := [T]) (fun a ha => .inr ?_) (fun b o hb hn => (other b (by simpa using hn)).trans hb) (fun b o hb hn => ⟨o.slots, (other b (fun z => ?_)).trans hb⟩) ?_
      · simp only [List.mem_singleton] at ha
        subst ha
        exact ⟨h7, h8, h9, _, _, h10, h11⟩
      · rw [z, h10] at hb; cases hb; exact hn _ h11
      · rw [Heap.size_update]; exact st.size
    · exact .traced ((other e (Ne.symm h6)).trans h1) h2 h3 h4 h5 h6 h7 h8 h9 (Heap.get?_update_self _ h10 (Obj.isFreed_of_fields (Obj.data_mapFields h11 _))) (Obj.data_mapFields h11 _) (by simp [hsz3]) (by cases f <;> simp [rawInt])

set_option tactic.hygienic false in
theorem exc_leave1 {M : Model} {A : Around} {E : Value → Shared → Prop} {s : Shared} {e : Addr} {cl : String} {fl : Value} {env : Env} {outer : List Env} {Q : Unit → Shared → Prop} (hfr : A.frames = some (env :: outer)) (hs : Stk R (env :: outer))
    (X : ExcSt1 c R H e cl fl s.heap) (hfl : FlOk env fl) (q : ∀ h', ExcSt1 c R H e cl .none h' → Q () { s with heap := h' }) : wpAny M A (leaving env (.ref e)) Q E s := by
  unfold leaving
  exact wpAny_bind (exc_note1 hfr hs X hfl fun h₁ X₁ => exc_flight1 (s := { s with heap := h₁ }) X₁ (by simp [rawInt]) fun h₂ X₂ => q h₂ X₂)
end

section
variable {c : Cx} {R : RR} {H : AHeap} {h h' : Heap}
theorem exc_note {M : Model} {A : Around} {E : Value → Shared → Prop} {s : Shared} {e : Addr} {cl : String} {fl : Value} {env : Env} {outer : List Env} {Q : Unit → Shared → Prop} (hfr : A.frames = some (env :: outer)) (hs : Stk R (env :: outer))
    (X : ExcSt c R H e cl fl s.heap) (hfl : FlOk env fl) (q : ∀ h', ExcSt c R H e cl (rawInt env.locals) h' → Q () { s with heap := h' }) : wpAny M A (noteFrame (.ref e) env) Q E s :=
  let ⟨H₁, X, r⟩ := X; exc_note1 hfr hs X hfl fun h' X' => q h' ⟨H₁, X', r⟩
theorem exc_flight {M : Model} {A : Around} {E : Value → Shared → Prop} {s : Shared} {e : Addr} {cl : String} {fl : Value} {f : Option Addr} {Q : Unit → Shared → Prop}
    (X : ExcSt c R H e cl fl s.heap) (hfl : fl ≠ .ellipsis) (q : ∀ h', ExcSt c R H e cl (f.elim .none fun f => rawInt f) h' → Q () { s with heap := h' }) : wpAny M A (setFlight (.ref e) f) Q E s :=
  let ⟨H₁, X, r⟩ := X; exc_flight1 X hfl fun h' X' => q h' ⟨H₁, X', r⟩
theorem exc_leave {M : Model} {A : Around} {E : Value → Shared → Prop} {s : Shared} {e : Addr} {cl : String} {fl : Value} {env : Env} {outer : List Env} {Q : Unit → Shared → Prop} (hfr : A.frames = some (env :: outer)) (hs : Stk R (env :: outer))
    (X : ExcSt c R H e cl fl s.heap) (hfl : FlOk env fl) (q : ∀ h', ExcSt c R H e cl .none h' → Q () { s with heap := h' }) : wpAny M A (leaving env (.ref e)) Q E s :=
  let ⟨H₁, X, r⟩ := X; exc_leave1 hfr hs X hfl fun h' X' => q h' ⟨H₁, X', r⟩
theorem ExcSt.st {e : Addr} {cl : String} {fl : Value} (X : ExcSt c R H e cl fl h) : St c R H h := let ⟨H₁, X, r⟩ := X; ⟨H₁, X.st, r⟩
theorem ExcSt.he {e : Addr} {cl : String} {fl : Value} (X : ExcSt c R H e cl fl h) : H e = none := let ⟨_, X, r⟩ := X; r.none X.he
theorem ExcSt.kn {e : Addr} {cl : String} {fl : Value} (X : ExcSt c R H e cl fl h) : (c.P.excs.lookup cl).isSome = true := let ⟨_, X, _⟩ := X; X.kn
end
end Mine

end
section
open PySem PySem.W PyProof.Rows PySem.Spec PySem.SeqAt PySem.Calls
namespace Mine

noncomputable def rdrop (R : RR) (a : Addr) : RR := fun b => if b = a then none else R b
set_option tactic.hygienic false in
theorem rdrop_le {R : RR} {a : Addr} : ∀ b r, rdrop R a b = some r → R b = some r := fun b r e => by
  unfold rdrop at e; split at e
  · cases e
  · exact e
set_option tactic.hygienic false in
theorem rdrop_other {R : RR} {a b : Addr} (h : b ≠ a) : rdrop R a b = R b := by simp [rdrop, h]
set_option tactic.hygienic false in
theorem rdrop_same {R : RR} {a : Addr} : rdrop R a a = none := by simp [rdrop]

noncomputable def ItObj (H : AHeap) (v : AV) (k : Nat) (o : Obj) : Prop :=
  match v with
  | .ref a => (match H a with
    | some (.list _) => o.cls = .type "list_iterator" ∧ o.data = .fields #[.ref a, .int k 0]
    | some (.tuple _) => o.cls = .type "tuple_iterator" ∧ o.data = .fields #[.ref a, .int k 0]
    | some (.range lo hi) => o = { cls := .type "range_iterator", dict := none, data := .fields #[rawInt (lo + k), rawInt (((hi - lo).toNat : Int) - k), rawInt 1], slots := #[] }
    | some (.dict ep es) => o.cls = .type "dict_keyiterator" ∧ o.data = .fields #[.ref a, .int k 0, .int es.length 0, .int ep 0]
    | _ => False)
  | .str s => ∃ t, (o.cls = .type "str_ascii_iterator" ∨ o.cls = .type "str_iterator") ∧ o.data = .fields #[.str s t, .int k 0]
  | _ => False
set_option tactic.hygienic false in
theorem ItObj.same {H H' : AHeap} {v : AV} {k : Nat} {o : Obj} (h : ItObj H v k o) (e : sameIt H H' v) : ItObj H' v k o := by
  cases v with
  | ref a => dsimp only [sameIt] at e; simp only [ItObj] at h ⊢; rw [e]; exact h
  | str s => exact h
  | _ => exact h

set_option tactic.hygienic false in
theorem rg_size {a b : Int} : Builtin.Range.rangeSize a b 1 = ((b - a).toNat : Int) := by
  unfold Builtin.Range.rangeSize
  simp only [Int.ediv_one, show (1 : Int) > 0 from by decide, if_true]
  split <;> omega
set_option tactic.hygienic false in
theorem rg_small {a b : Int} (h : RgOk a b) : Builtin.Range.small a b 1 = true := by
  unfold Builtin.Range.small Builtin.Range.rangeFitsLong
  rw [rg_size]
  obtain ⟨h1, h2, h3, h4⟩ := h
  simp only [show (1 : Int) > 0 from by decide, if_true, Bool.and_eq_true, Bool.or_eq_true, decide_eq_true_eq, beq_iff_eq]
  refine ⟨⟨⟨⟨⟨?_, ?_⟩, ⟨?_, ?_⟩⟩, ⟨?_, ?_⟩⟩, ⟨?_, ?_⟩⟩, .inr ⟨?_, ?_⟩⟩ <;> omega

section
variable {c : Cx} {R : RR} {H : AHeap} {A : Around} {E : Value → Shared → Prop} {s : Shared}

set_option tactic.hygienic false in
theorem it_push {o : Obj} {Q : Value → Shared → Prop} (hnf : o.isFreed = false) (S : St c R H s.heap) (q : ∀ s' a, R a = none → H a = none → St c (rup R a (.obj o)) H s'.heap → Sm s s' → Q (.ref a) s') : Q (.ref s.heap.objs.size) { s with heap := s.heap.push o } := by
  obtain ⟨h1, h2, h3⟩ := S.newRes (x := s.heap.objs.size) (r := .obj o) (h' := s.heap.push o) (Nat.le_refl _) (fun _ _ z => Heap.get?_push_of_some _ z) (by rw [Heap.size_push]; omega) (Heap.get?_push_size _ hnf)
  exact q _ _ h1 h2 h3 ⟨_, _, rfl⟩

theorem it_new {mg mb : Str → Option Value} {v : AV} {u : Value} {xs : List AV} {Q : Value → Shared → Prop} (C : c.Ok mg mb) (hv : VR v u) (S : St c R H s.heap) (hx : itemsOf H v = some xs)
    (q : ∀ s' a o, R a = none → H a = none → ItObj H v 0 o → St c (rup R a (.obj o)) H s'.heap → Sm s s' → Q (.ref a) s') : wpAny (model c.prog c.w) A (pyIter u) Q E s := by
  cases hv with
  | ref a =>
    simp only [itemsOf] at hx
    split at hx
    · rename_i ys e
      obtain ⟨vs, n, k1, k2, k3⟩ := isList_of (g := ⟨c, 0, true⟩) S e
      exact wpAny_pyIter_list k3 (it_push rfl S fun s' b h1 h2 h3 h4 => q s' b _ h1 h2 (by simp [ItObj, e]) h3 h4)
    · rename_i ys e
      obtain ⟨vs, n, k1, k2, k3⟩ := isTup_of (g := ⟨c, 0, true⟩) S e
      exact wpAny_pyIter_tuple ⟨_, k1, rfl, _, rfl⟩ (it_push rfl S fun s' b h1 h2 h3 h4 => q s' b _ h1 h2 (by simp [ItObj, e]) h3 h4)
    · rename_i lo hi e
      obtain ⟨⟨D, rg, t, u, w, hr⟩, _⟩ := S.orep e
      exact wpAny_pyIter_range hr (rg_small rg) (it_push rfl S fun s' b h1 h2 h3 h4 => q s' b _ h1 h2 (by simp [ItObj, e, rg_size]) h3 h4)
    · rename_i ep es e
      obtain ⟨kvs, hd, hr⟩ := isDict_of (g := ⟨c, 0, true⟩) S e
      have hl := hr.length
      refine wpAny_pyIter_dict (hds_of (g := ⟨c, 0, true⟩) C S e) hd (it_push rfl S fun s' b h1 h2 h3 h4 => q s' b _ h1 h2 ?_ h3 h4)
      simp [ItObj, e, hl]
    · cases hx
  | str x t =>
    cases ha : x.cps.all (· < 128)
    · exact wpAny_pyIter_wide ha (it_push rfl S fun s' b h1 h2 h3 h4 => q s' b _ h1 h2 ⟨t, .inr rfl, rfl⟩ h3 h4)
    · exact wpAny_pyIter_ascii ha (it_push rfl S fun s' b h1 h2 h3 h4 => q s' b _ h1 h2 ⟨t, .inl rfl, rfl⟩ h3 h4)
  | none => cases hx
  | bool b => cases hx
  | int i t => cases hx

theorem str_one {x : Str} {i ch : Nat} (h : PyData.strOk x = true) (e : x.cps[i]? = some ch) : PyData.strOk ⟨#[ch]⟩ = true :=
  strOk_of (l := [ch]) (by intro c hc; simp at hc; subst hc; exact strOk_mem h (Array.mem_of_getElem? e))

set_option tactic.hygienic false in
theorem DRs.get {es : List (Str × AV)} {kvs : List (Str × Value)} (h : DRs es kvs) : ∀ {k : Nat} {n : Str} {a : AV}, es[k]? = some (n, a) → PyData.strOk n = true ∧ ∃ v, kvs[k]? = some (n, v) := by
  induction h with
  | nil => intro k n a e; simp at e
  | cons h1 h2 _ ih =>
    intro k n a e
    cases k with
    | zero => simp at e; obtain ⟨rfl, rfl⟩ := e; exact ⟨h1, _, rfl⟩
    | succ k => simp at e ⊢; exact ih e

theorem it_item {v : AV} {xs : List AV} {x : AV} {k : Nat} {a : Addr} {o : Obj} {Q : Option Value → Shared → Prop} (hx : itemsOf H v = some xs) (hk : xs[k]? = some x) (hi : ItObj H v k o) (hr : R a = some (.obj o)) (S : St c R H s.heap)
    (hsv : ∀ y, v = .str y → PyData.strOk y = true)
    (q : ∀ s' u o', VR x u → ItObj H v (k + 1) o' → St c (rup R a (.obj o')) H s'.heap → Sm s s' → Q (some u) s') : wpAny (model c.prog c.w) A (pyNext (.ref a)) Q E s := by
  have ho : s.heap.get? a = some o := (S.res _ _ hr).2
  cases v with
  | ref p =>
    simp only [itemsOf] at hx
    split at hx
    · rename_i ys e
      cases hx
      obtain ⟨vs, n, k1, k2, k3⟩ := isList_of (g := ⟨c, 0, true⟩) S e
      obtain ⟨w, hw, hvr⟩ := k2.get hk
      simp only [ItObj, e] at hi
      refine wpAny_pyNext_list_item ⟨o, ho, hi.1, hi.2⟩ k3 (by simpa using hw) fun h' ⟨o', p1, p2, p3⟩ hs => ?_
      exact q _ w o' hvr (by simp only [ItObj, e]; exact ⟨p2, p3⟩) (S.setRes hr hs p1) ⟨_, _, rfl⟩
    · rename_i ys e
      cases hx
      obtain ⟨vs, n, k1, k2, k3⟩ := isTup_of (g := ⟨c, 0, true⟩) S e
      obtain ⟨w, hw, hvr⟩ := k2.get hk
      simp only [ItObj, e] at hi
      refine wpAny_pyNext_tuple_item (items := vs.toArray) ⟨o, ho, hi.1, hi.2⟩ ⟨_, k1, rfl, _, rfl⟩ (by simpa using hw) fun h' ⟨o', p1, p2, p3⟩ hs => ?_
      exact q _ w o' hvr (by simp only [ItObj, e]; exact ⟨p2, p3⟩) (S.setRes hr hs p1) ⟨_, _, rfl⟩
    · rename_i lo hi' e
      cases hx
      simp only [ItObj, e] at hi
      subst hi
      have hlt : k < (hi' - lo).toNat := by
        have := (List.getElem?_eq_some_iff.mp hk).1
        simpa using this
      have hxe : x = .int (lo + k) := by
        rw [List.getElem?_map, List.getElem?_range hlt] at hk
        simpa using hk.symm
      subst hxe
      refine wpAny_pyNext_range_item (x := lo + k) (left := ((hi' - lo).toNat : Int) - k) (step := 1) ho (by omega) fun h' p1 hs => ?_
      refine q _ _ _ (.int _ _) ?_ (S.setRes (r' := .obj _) hr hs p1) ⟨_, _, rfl⟩
      simp only [ItObj, e]
      have e1 : lo + (k : Int) + 1 = lo + ((k + 1 : Nat) : Int) := by omega
      have e2 : ((hi' - lo).toNat : Int) - k - 1 = ((hi' - lo).toNat : Int) - ((k + 1 : Nat) : Int) := by omega
      rw [e1, e2]
    · rename_i ep es e
      cases hx
      obtain ⟨kvs, hd, hr'⟩ := isDict_of (g := ⟨c, 0, true⟩) S e
      have hl := hr'.length
      simp only [ItObj, e] at hi
      rw [List.getElem?_map, Option.map_eq_some_iff] at hk
      obtain ⟨⟨kk, av⟩, hk1, hk2⟩ := hk
      obtain ⟨hso, vv, hkv⟩ := hr'.get hk1
      subst hk2
      refine wpAny_pyNext_dict_item (k := kk) (v := vv) ⟨o, ho, hi.1, by rw [hl]; exact hi.2⟩ hd hkv fun key h' hkey ⟨o', p1, p2, p3⟩ hs => ?_
      obtain ⟨t, rfl⟩ := strKind_key hkey
      exact q _ _ o' (.str _ _ hso) (by simp only [ItObj, e]; exact ⟨p2, by rw [← hl]; exact p3⟩) (S.setRes hr hs p1) ⟨_, _, rfl⟩
    · cases hx
  | str y =>
    cases hx
    rw [List.getElem?_map, Option.map_eq_some_iff] at hk
    obtain ⟨ch, hk1, rfl⟩ := hk
    have hch : y.cps[k]? = some ch := by rw [← Array.getElem?_toList]; exact hk1
    obtain ⟨t, hc, hd⟩ := hi
    have hok := str_one (hsv y rfl) hch
    rcases hc with hc | hc
    · refine wpAny_pyNext_ascii_item ⟨o, ho, hc, hd⟩ hch fun h' ⟨o', p1, p2, p3⟩ hs => ?_
      exact q _ _ o' (.str _ _ hok) ⟨t, .inl p2, p3⟩ (S.setRes hr hs p1) ⟨_, _, rfl⟩
    · refine wpAny_pyNext_wide_item ⟨o, ho, hc, hd⟩ hch fun h' ⟨o', p1, p2, p3⟩ hs => ?_
      exact q _ _ o' (.str _ _ hok) ⟨t, .inr p2, p3⟩ (S.setRes hr hs p1) ⟨_, _, rfl⟩
  | none => cases hx
  | bool b => cases hx
  | int i => cases hx

set_option tactic.hygienic false in
theorem St1.dropAny {h h' : Heap} {a : Addr} {r₀ : Res} (S : St1 c R H h) (hr : R a = some r₀) (k : Heap.ExtBut a h h') (hsz : c.base.objs.size ≤ h'.objs.size) : St1 c (rdrop R a) H h' := by
  obtain ⟨s1, s2, s3, D, s4⟩ := S
  have nn : ∀ b, R b = none → rdrop R a b = none := fun b e => by
    cases q : rdrop R a b with
    | none => rfl
    | some r => rw [rdrop_le b r q] at e; cases e
  refine ⟨fun b o' e => k b o' (fun z => ?_) (s1 b o' e), hsz, fun b r e => ⟨(s3 b r (rdrop_le b r e)).1, (s3 b r (rdrop_le b r e)).2.agree fun ob z => k b ob (fun w => ?_) z⟩, D, ⟨fun b ao e => ?_, fun b ao e => ⟨(s4.above b ao e).1, nn _ (s4.above b ao e).2⟩, fun b cl es e => ?_, s4.inj⟩⟩
  · have := leN (s3 a _ hr).1; have := lts e; rw [z] at this; omega
  · rw [w, rdrop_same] at e; cases e
  · refine (s4.rep b ao e).agree (fun ob z => k b ob (fun w => ?_) z) fun cl es eo => ⟨rfl, fun ob z => k _ ob (fun w => ?_) z⟩
    · have := (s4.above b ao e).2; rw [w, hr] at this; cases this
    · subst eo; have := (s4.dict b cl es e).2.1; rw [w, hr] at this; cases this
  · obtain ⟨y1, y2, y3⟩ := s4.dict b cl es e
    exact ⟨y1, nn _ y2, y3⟩

theorem St.dropAny {h h' : Heap} {a : Addr} {r₀ : Res} (S : St c R H h) (hr : R a = some r₀) (k : Heap.ExtBut a h h') (hsz : c.base.objs.size ≤ h'.objs.size) : St c (rdrop R a) H h' := let ⟨H₁, s, r⟩ := S; ⟨H₁, s.dropAny hr k hsz, r⟩

theorem it_end {v : AV} {xs : List AV} {k : Nat} {a L : Addr} {m : Str → Option Value} {o : Obj} {Q : Option Value → Shared → Prop} (hh : A.handled = none) (hx : itemsOf H v = some xs) (hk : xs[k]? = none) (hi : ItObj H v k o) (hr : R a = some (.obj o)) (hL : R L = some (.ns m)) (S : St c R H s.heap)
    (q : ∀ s', St c (rdrop R a) H s'.heap → Sm s s' → Q none s') : wpAny (model c.prog c.w) A (pyNext (.ref a)) Q E s := by
  have ho : s.heap.get? a = some o := (S.res _ _ hr).2
  have fin : ∀ h', Heap.ExtBut a s.heap h' → Q none { s with heap := h' } := fun h' k => by
    refine q _ (S.dropAny hr k ?_) ⟨_, _, rfl⟩
    obtain ⟨oL, es, ep, w, _⟩ := (S.res _ _ hL).2
    have h1 := leN (S.res _ _ hL).1
    have h2 := lts (k L oL (fun z => by rw [z, hr] at hL; cases hL) w)
    exact Nat.le_of_lt (Nat.lt_of_le_of_lt h1 h2)
  cases v with
  | ref p =>
    simp only [itemsOf] at hx
    split at hx
    · rename_i ys e
      cases hx
      obtain ⟨vs, n, k1, k2, k3⟩ := isList_of (g := ⟨c, 0, true⟩) S e
      simp only [ItObj, e] at hi
      refine wpAny_pyNext_list_end hh ⟨o, ho, hi.1, hi.2⟩ k3 ?_ fin
      have := k2.length
      simp at hk ⊢; omega
    · rename_i ys e
      cases hx
      obtain ⟨vs, n, k1, k2, k3⟩ := isTup_of (g := ⟨c, 0, true⟩) S e
      simp only [ItObj, e] at hi
      refine wpAny_pyNext_tuple_end (items := vs.toArray) hh ⟨o, ho, hi.1, hi.2⟩ ⟨_, k1, rfl, _, rfl⟩ ?_ fin
      have := k2.length
      simp at hk ⊢; omega
    · rename_i lo hi' e
      cases hx
      simp only [ItObj, e] at hi
      subst hi
      have hlt : (hi' - lo).toNat ≤ k := by simpa using hk
      exact wpAny_pyNext_range_end (x := lo + k) (left := ((hi' - lo).toNat : Int) - k) (step := 1) hh ho (by omega) fin
    · rename_i ep es e
      cases hx
      obtain ⟨kvs, hd, hr'⟩ := isDict_of (g := ⟨c, 0, true⟩) S e
      have hl := hr'.length
      simp only [ItObj, e] at hi
      refine wpAny_pyNext_dict_end hh ⟨o, ho, hi.1, by rw [hl]; exact hi.2⟩ hd ?_ fin
      simp at hk ⊢; omega
    · cases hx
  | str y =>
    cases hx
    have hch : y.cps[k]? = none := by rw [← Array.getElem?_toList]; simpa using hk
    obtain ⟨t, hc, hd⟩ := hi
    rcases hc with hc | hc
    · exact wpAny_pyNext_ascii_end hh ⟨o, ho, hc, hd⟩ hch fin
    · exact wpAny_pyNext_wide_end hh ⟨o, ho, hc, hd⟩ hch fin
  | none => cases hx
  | bool b => cases hx
  | int i => cases hx
end
end Mine

end
section
open PySem PySem.W PyProof.Rows PySem.Spec PySem.SeqAt PySem.Calls
namespace Mine

noncomputable def RStep (env : Env) (R R' : RR) : Prop := ∀ b, R' b = R b ∨ (b = env.locals ∧ ∃ m m', R b = some (.ns m) ∧ R' b = some (.ns m')) ∨ ((∃ n, env.cells.lookup n = some b) ∧ ∃ x x', R b = some (.cell x) ∧ R' b = some (.cell x'))
theorem RStep.refl {env : Env} {R : RR} : RStep env R R := fun _ => .inl rfl
set_option tactic.hygienic false in
theorem RStep.trans {env : Env} {R R' R'' : RR} (x : RStep env R R') (y : RStep env R' R'') : RStep env R R'' := fun b => by
  rcases x b with h | ⟨h1, m, m', h2, h3⟩ | ⟨h1, m, m', h2, h3⟩
  · rcases y b with k | ⟨k1, m, m', k2, k3⟩ | ⟨k1, m, m', k2, k3⟩
    · exact .inl (k.trans h)
    · exact .inr (.inl ⟨k1, m, m', by rw [← h]; exact k2, k3⟩)
    · exact .inr (.inr ⟨k1, m, m', by rw [← h]; exact k2, k3⟩)
  · rcases y b with k | ⟨k1, n, n', k2, k3⟩ | ⟨k1, n, n', k2, k3⟩
    · exact .inr (.inl ⟨h1, m, m', h2, by rw [k]; exact h3⟩)
    · exact .inr (.inl ⟨h1, m, n', h2, k3⟩)
    · rw [h3] at k2; cases k2
  · rcases y b with k | ⟨k1, n, n', k2, k3⟩ | ⟨k1, n, n', k2, k3⟩
    · exact .inr (.inr ⟨h1, m, m', h2, by rw [k]; exact h3⟩)
    · rw [h3] at k2; cases k2
    · exact .inr (.inr ⟨h1, m, n', h2, k3⟩)
set_option tactic.hygienic false in
theorem RStep.ns {env : Env} {R R' : RR} (x : RStep env R R') {a : Addr} {m} (h : R a = some (.ns m)) : ∃ m', R' a = some (.ns m') := by
  rcases x a with k | ⟨_, _, m', _, k⟩ | ⟨_, _, _, k, _⟩
  · exact ⟨m, k.trans h⟩
  · exact ⟨m', k⟩
  · rw [h] at k; cases k
set_option tactic.hygienic false in
theorem RStep.obj {env : Env} {R R' : RR} (x : RStep env R R') {a : Addr} {o} (h : R a = some (.obj o)) : R' a = some (.obj o) := by
  rcases x a with k | ⟨_, _, m', k, _⟩ | ⟨_, _, _, k, _⟩
  · exact k.trans h
  · rw [h] at k; cases k
  · rw [h] at k; cases k
set_option tactic.hygienic false in
theorem RStep.none {env : Env} {R R' : RR} (x : RStep env R R') {a : Addr} (h : R a = Option.none) : R' a = Option.none := by
  rcases x a with k | ⟨_, _, m', k, _⟩ | ⟨_, _, _, k, _⟩
  · exact k.trans h
  · rw [h] at k; cases k
  · rw [h] at k; cases k
theorem RStep.stk {env : Env} {R R' : RR} (x : RStep env R R') {l : List Env} (h : Stk R l) : Stk R' l := fun e he =>
  let F := h e he
  ⟨F.kind, F.frame, F.gen, F.co, F.blt, F.glob, let ⟨_, hm⟩ := F.ns; x.ns hm⟩
theorem Ev.step {g : Gx} {A : Around} {R R' : RR} {env e : Env} {l : List Env} (x : RStep env R R') (h : Ev g A R e l) : Ev g A R' e l := ⟨h.aok, x.stk h.stk⟩

set_option tactic.hygienic false in
theorem Frm.congr {R R' : RR} {env : Env} {sc : Scope} {nm : List Str} {V : VV} (fr : Frm R env sc nm V) (h : ∀ b, (∃ m, R b = some (.ns m)) ∨ (∃ x, R b = some (.cell x)) → R' b = R b) : Frm R' env sc nm V := by
  obtain ⟨k1, k2, k3, k4, k5, k6, k7, kc, kl, k8, ⟨m, n1, n2⟩, k9⟩ := fr
  refine ⟨k1, k2, k3, k4, k5, k6, k7, kc, kl, k8, ⟨m, (h _ (.inl ⟨m, n1⟩)).trans n1, n2⟩, fun i n hn hk => ?_⟩
  obtain ⟨a, x, v, c1, c2, c3⟩ := k9 i n hn hk
  exact ⟨a, x, v, c1, (h _ (.inr ⟨x, c2⟩)).trans c2, c3⟩

section
variable {c : Cx} {R : RR} {H : AHeap} {V : VV} {env : Env} {sc : Scope} {nm : List Str}

set_option tactic.hygienic false in
theorem Frm.local' (fr : Frm R env sc nm V) (nd : nm.Nodup) {i : Nat} {id : Str} {x : Option AV} {w : Option Value} {m : Str → Option Value} (hi : nm[i]? = some id) (hl : env.kindOf id = some .local) (hm : R env.locals = some (.ns m)) (hv : OVW x w) :
    Frm (rup R env.locals (.ns fun y => if y = id then w else m y)) env sc nm (V.set i x) := by
  obtain ⟨k1, k2, k3, k4, k5, k6, k7, kc, kl, k8, ⟨m', n1, n2⟩, k9⟩ := fr
  rw [hm] at n1; cases n1
  have hnd : ∀ {j : Nat} {n : Str}, nm[j]? = some n → (n = id ↔ j = i) := fun {j n} hj => by
    constructor
    · rintro rfl
      have h1 := List.getElem?_eq_some_iff.mp hj
      have h2 := List.getElem?_eq_some_iff.mp hi
      exact (List.getElem_inj nd).mp (h1.2.trans h2.2.symm)
    · rintro rfl; rw [hi] at hj; cases hj; rfl
  refine ⟨k1, k2, k3, k4, k5, k6, k7, kc, by rw [List.length_set]; exact kl, k8, ⟨_, rup_same, fun j n hj hk => ?_⟩, fun j n hj hk => ?_⟩
  · obtain ⟨v, v1, v2⟩ := n2 j n hj hk
    by_cases q : n = id
    · have := (hnd hj).mp q
      subst q this
      have hlt := (List.getElem?_eq_some_iff.mp v1).1
      exact ⟨x, by simp [hlt], by simpa using hv⟩
    · have hne : j ≠ i := fun z => q ((hnd hj).mpr z)
      exact ⟨v, by rw [List.getElem?_set_ne (Ne.symm hne)]; exact v1, by simp only [q, if_false]; exact v2⟩
  · obtain ⟨a, y, v, c1, c2, c3, c4⟩ := k9 j n hj hk
    have hna : a ≠ env.locals := fun z => by rw [z, hm] at c2; cases c2
    have hne : j ≠ i := fun z => by
      have := (hnd hj).mpr z
      subst this
      rw [hl] at hk; rcases hk with hk | hk <;> cases hk
    exact ⟨a, y, v, c1, by rw [rup_other hna]; exact c2, by rw [List.getElem?_set_ne (Ne.symm hne)]; exact c3, c4⟩

set_option tactic.hygienic false in
theorem Frm.cell' (fr : Frm R env sc nm V) (nd : nm.Nodup) {i : Nat} {id : Str} {a : Addr} {x : Option AV} {w y : Option Value} (hi : nm[i]? = some id) (hl : env.kindOf id = some .cell) (ha : env.cells.lookup id = some a) (hr : R a = some (.cell y)) (hv : OVW x w) :
    Frm (rup R a (.cell w)) env sc nm (V.set i x) := by
  obtain ⟨k1, k2, k3, k4, k5, k6, k7, kc, kl, k8, ⟨m', n1, n2⟩, k9⟩ := fr
  have hnd : ∀ {j : Nat} {n : Str}, nm[j]? = some n → (n = id ↔ j = i) := fun {j n} hj => by
    constructor
    · rintro rfl
      have h1 := List.getElem?_eq_some_iff.mp hj
      have h2 := List.getElem?_eq_some_iff.mp hi
      exact (List.getElem_inj nd).mp (h1.2.trans h2.2.symm)
    · rintro rfl; rw [hi] at hj; cases hj; rfl
  have hna : env.locals ≠ a := fun z => by rw [z, hr] at n1; cases n1
  refine ⟨k1, k2, k3, k4, k5, k6, k7, kc, by rw [List.length_set]; exact kl, k8, ⟨m', by rw [rup_other hna]; exact n1, fun j n hj hk => ?_⟩, fun j n hj hk => ?_⟩
  · obtain ⟨v, v1, v2⟩ := n2 j n hj hk
    have hne : j ≠ i := fun z => by
      have := (hnd hj).mpr z
      subst this
      rw [hl] at hk; cases hk
    exact ⟨v, by rw [List.getElem?_set_ne (Ne.symm hne)]; exact v1, v2⟩
  · obtain ⟨b, z, v, c1, c2, c3, c4⟩ := k9 j n hj hk
    by_cases q : n = id
    · have := (hnd hj).mp q
      subst q this
      rw [ha] at c1; cases c1
      have hlt := (List.getElem?_eq_some_iff.mp c3).1
      exact ⟨a, w, x, ha, rup_same, by simp [hlt], hv⟩
    · have hne : j ≠ i := fun z => q ((hnd hj).mpr z)
      have hab : b ≠ a := fun z => q (k8 n id a (by rw [← z]; exact c1) ha)
      exact ⟨b, z, v, c1, by rw [rup_other hab]; exact c2, by rw [List.getElem?_set_ne (Ne.symm hne)]; exact c3, c4⟩

set_option tactic.hygienic false in
theorem st_name {M : Model} {A : Around} {E : Value → Shared → Prop} {s : Shared} {i : Nat} {id : Str} {x : AV} {u : Value} {Q : Unit → Shared → Prop} (fr : Frm R env sc nm V) (nd : nm.Nodup) (hi : nm[i]? = some id) (hk : locKind sc id = true) (hv : VR x u)
    (S : St c R H s.heap) (q : ∀ s' R', RStep env R R' → Frm R' env sc nm (V.set i (some x)) → St c R' H s'.heap → Sm s s' → Q () s') : wpAny M A (storeName env id u) Q E s := by
  obtain ⟨m, hm, _⟩ := fr.ns
  rcases fr.lok id hk with hl | hl
  · refine wpAny_storeName_local hl (S.res _ _ hm).2 (fun h' hn hs => ?_) (by rw [fr.kind]; rfl)
    refine q _ _ (fun b => ?_) (fr.local' nd hi hl hm (.some hv)) (S.setRes (r' := .ns _) hm hs hn) ⟨_, _, rfl⟩
    by_cases z : b = env.locals
    · subst z; exact .inr (.inl ⟨rfl, _, _, hm, rup_same⟩)
    · exact .inl (rup_other z)
  · obtain ⟨a, y, v, c1, c2, c3, c4⟩ := fr.cell i id hi (.inl hl)
    refine wpAny_storeName_cell fr.kind hl c1 (S.res _ _ c2).2 fun h' hn hs => ?_
    refine q _ _ (fun b => ?_) (fr.cell' nd hi hl c1 c2 (.some hv)) (S.setRes (r' := .cell _) c2 hs hn) ⟨_, _, rfl⟩
    by_cases z : b = a
    · subst z; exact .inr (.inr ⟨⟨_, c1⟩, _, _, c2, rup_same⟩)
    · exact .inl (rup_other z)

set_option tactic.hygienic false in
theorem ExcSt1.weaken {R' : RR} {e : Addr} {cl : String} {fl : Value} {h : Heap} (X : ExcSt1 c R' H e cl fl h) (k : ∀ b r, R b = some r → R' b = some r) : ExcSt1 c R H e cl fl h := by
  obtain ⟨st, re, he, be, ob, kn⟩ := X
  have nn : ∀ a, R' a = none → R a = none := fun a e => by
    cases q : R a with
    | none => rfl
    | some r => rw [k a r q] at e; cases e
  refine ⟨st.weaken k, nn _ re, he, be, ?_, kn⟩
  cases ob with
  | fresh h1 => exact .fresh h1
  | traced h1 h2 h3 h4 h5 h6 h7 h8 h9 h10 h11 h12 h13 => exact .traced h1 h2 h3 h4 h5 h6 (nn _ h7) h8 h9 h10 h11 h12 h13

set_option tactic.hygienic false in
theorem ExcAt.obj {e : Addr} {cls fl : Value} {h : Heap} (X : ExcAt c R H h e cls fl) : ∃ o vs, h.get? e = some o ∧ o.cls = cls ∧ o.data = .fields vs := by
  cases X with
  | fresh h1 => exact ⟨_, _, h1, rfl, rfl⟩
  | traced h1 h2 h3 => exact ⟨_, _, h1, h2, h3⟩

set_option tactic.hygienic false in
theorem ExcSt1.caught {e : Addr} {cl : String} {fl : Value} {h : Heap} (X : ExcSt1 c R H e cl fl h) : St1 c R (up H e (.exc cl)) h := by
  obtain ⟨⟨s1, s2, s3, D, s4⟩, re, he, be, ob, kn⟩ := X
  obtain ⟨o, vs, o1, o2, o3⟩ := ob.obj
  refine ⟨s1, s2, s3, D, ⟨fun a ao z => ?_, fun a ao z => ?_, fun a cl' es z => ?_, fun a b cl' es cl'' es' z z' => ?_⟩⟩
  · by_cases q : a = e
    · subst q; rw [up_same] at z; cases z; exact ⟨o, o1, o2, vs, o3⟩
    · rw [up_other q] at z; exact s4.rep a ao z
  · by_cases q : a = e
    · subst q; rw [up_same] at z; cases z; exact ⟨⟨fun _ => be, fun w => by cases w⟩, re⟩
    · rw [up_other q] at z; exact s4.above a ao z
  · by_cases q : a = e
    · subst q; rw [up_same] at z; cases z
    · rw [up_other q] at z
      obtain ⟨y1, y2, y3⟩ := s4.dict a cl' es z
      refine ⟨y1, y2, ?_⟩
      rw [up_other (fun w => ?_)]; · exact y3
      obtain ⟨_, ents, n, w', _⟩ := s4.rep a _ z
      rw [w, o1] at w'; cases w'; cases o3
  · by_cases q : a = e
    · subst q; rw [up_same] at z; cases z
    · by_cases q' : b = e
      · subst q'; rw [up_same] at z'; cases z'
      · rw [up_other q] at z; rw [up_other q'] at z'; exact s4.inj a b cl' es cl'' es' z z'
theorem ExcSt.weaken {R' : RR} {e : Addr} {cl : String} {fl : Value} {h : Heap} (X : ExcSt c R' H e cl fl h) (k : ∀ b r, R b = some r → R' b = some r) : ExcSt c R H e cl fl h := let ⟨H₁, X, r⟩ := X; ⟨H₁, X.weaken k, r⟩
theorem ExcSt.obj {e : Addr} {cl : String} {fl : Value} {h : Heap} (X : ExcSt c R H e cl fl h) : ∃ o vs, h.get? e = some o ∧ o.cls = .ref (c.ca cl) ∧ o.data = .fields vs := let ⟨_, X, _⟩ := X; X.ob.obj
theorem ExcSt.caught {e : Addr} {cl : String} {fl : Value} {h : Heap} (X : ExcSt c R H e cl fl h) : St c R (up H e (.exc cl)) h := let ⟨_, X, r⟩ := X; ⟨_, X.caught, r.put rfl (.inl X.he)⟩
end

inductive TFn (c : Cx) (env : Env) (sc : Scope) (nm : List Str) (R : RR) (s₀ : Shared) (QN : VV → AHeap → Prop) (s' : Shared) : Prop
  | mk (R' : RR) (V' : VV) (H' : AHeap) (r : RStep env R R') (f : Frm R' env sc nm V') (S : St c R' H' s'.heap) (m : Sm s₀ s') (q : QN V' H') : TFn c env sc nm R s₀ QN s'
inductive TFr (c : Cx) (env : Env) (R : RR) (s₀ : Shared) (QR : AV → AHeap → Prop) (v : Value) (s' : Shared) : Prop
  | mk (R' : RR) (av : AV) (H' : AHeap) (r : RStep env R R') (hv : VR av v) (S : St c R' H' s'.heap) (m : Sm s₀ s') (q : QR av H') : TFr c env R s₀ QR v s'
inductive TXi (c : Cx) (env : Env) (sc : Scope) (nm : List Str) (R : RR) (s₀ : Shared) (E : String → VV → AHeap → Prop) (e : Value) (s' : Shared) : Prop
  | mk (a : Addr) (cl : String) (R' : RR) (V' : VV) (H' : AHeap) (fl : Value) (h : e = .ref a) (r : RStep env R R') (f : Frm R' env sc nm V') (k : FlOk env fl) (X : ExcSt c R' H' a cl fl s'.heap) (m : Sm s₀ s') (q : E cl V' H') : TXi c env sc nm R s₀ E e s'
noncomputable def TF (g : Gx) (env : Env) (sc : Scope) (nm : List Str) (R : RR) (s₀ : Shared) (QN : VV → AHeap → Prop) (QR : AV → AHeap → Prop) (f : Flow) (s' : Shared) : Prop :=
  match f with
  | .next => TFn g.c env sc nm R s₀ QN s'
  | .ret v => TFr g.c env R s₀ QR v s'
  | _ => False
noncomputable def TX (g : Gx) (env : Env) (sc : Scope) (nm : List Str) (R : RR) (s₀ : Shared) (E : String → VV → AHeap → Prop) (e : Value) (s' : Shared) : Prop :=
  TXi g.c env sc nm R s₀ E e s'

noncomputable def SOk (g : Gx) (sc : Scope) (nm : List Str) (w : Gx → (VV → AHeap → Prop) → (AV → AHeap → Prop) → (String → VV → AHeap → Prop) → VV → AHeap → Prop) (t : Env → Sem Flow) : Prop :=
  ∀ (md : Bool) (A : Around) (env : Env) (l₀ : List Env) (R : RR) (V : VV) (s₀ s : Shared) (H : AHeap) (QN : VV → AHeap → Prop) (QR : AV → AHeap → Prop) (E : String → VV → AHeap → Prop),
    Ev { g with md := md } A R env l₀ → Frm R env sc nm V → St g.c R H s.heap → Sm s₀ s → w { g with md := md } QN QR E V H →
    wpAny (model g.c.prog g.c.w) A (t env) (TF g env sc nm R s₀ QN QR) (TX g env sc nm R s₀ E) s
end Mine

end
section
open PySem PySem.W PyProof.Rows PySem.Spec PySem.SeqAt PySem.Calls
namespace Mine

section
variable {c : Cx} {R : RR} {H : AHeap} {A : Around} {E : Value → Shared → Prop} {s : Shared}

set_option tactic.hygienic false in
theorem rup_rup {R : RR} {a : Addr} {r r' : Res} : rup (rup R a r) a r' = rup R a r' := by
  funext b
  by_cases q : b = a
  · subst q; rw [rup_same, rup_same]
  · rw [rup_other q, rup_other q, rup_other q]
theorem owned_it {v : AV} {k : Nat} {a : Addr} {o : Obj} {tg : PySem.Expr} {u : Value} {Q : Unit → Shared → Prop} (hi : ItObj H v k o) (ho : s.heap.get? a = some o) (q : Q () s) : wpAny (model c.prog c.w) A (letOwnedTupleGo tg (.ref a) u) Q E s := by
  have key : ∀ n vs, o.cls = .type n → o.data = .fields vs → ["enumerate", "zip", "dict_itemiterator", "dict_reverseitemiterator", "odict_iterator", "itertools.zip_longest", "itertools.pairwise"].contains n = false →
      wpAny (model c.prog c.w) A (letOwnedTupleGo tg (.ref a) u) Q E s := by
    intro n vs h1 h2 h3
    unfold letOwnedTupleGo
    split
    all_goals first | exact wpAny_pure q | skip
    all_goals (
      split
      · rename_i e
        cases e
        refine wpAny_bind (wpAny_load ho ?_)
        rw [h1, h2]
        dsimp only
        rw [h3, Bool.false_and, if_neg Bool.false_ne_true]
        exact wpAny_pure q
      · exact wpAny_pure q)
  cases v with
  | ref p =>
    simp only [ItObj] at hi
    split at hi
    · exact key _ _ hi.1 hi.2 (by decide)
    · exact key _ _ hi.1 hi.2 (by decide)
    · subst hi; exact key _ _ rfl rfl (by decide)
    · exact key _ _ hi.1 hi.2 (by decide)
    · exact hi.elim
  | str y =>
    obtain ⟨t, hc, hd⟩ := hi
    rcases hc with hc | hc
    · exact key _ _ hc hd (by decide)
    · exact key _ _ hc hd (by decide)
  | none => exact hi.elim
  | bool b => exact hi.elim
  | int i => exact hi.elim
end

end Mine

end
section
open PySem PySem.W PyProof.Rows PySem.Spec PySem.SeqAt PySem.Calls
namespace Mine

noncomputable def closL (env : Env) : List (Str × NameKind) → List (Str × Addr) → List (Str × Addr)
  | [], acc => acc
  | (n, k) :: r, acc => if k == .free then closL env r ((n, (env.cells.lookup n).getD 0) :: acc) else closL env r acc

set_option tactic.hygienic false in
theorem clos_eq {env : Env} (f : Str × NameKind → List (Str × Addr) → Sem (ForInStep (List (Str × Addr)))) (hf : ∀ n k cs, f (n, k) cs = if k == .free then (do let a ← cellOf env n; pure (.yield ((n, a) :: cs))) else pure (.yield cs)) :
    ∀ (names : List (Str × NameKind)) (acc : List (Str × Addr)), (∀ p ∈ names, p.2 = .free → ∃ a, env.cells.lookup p.1 = some a) → forIn names acc f = (pure (closL env names acc) : Sem _)
  | [], acc, _ => by rw [List.forIn_nil]; rfl
  | (n, k) :: r, acc, h => by
    rw [List.forIn_cons, hf]
    have ih := clos_eq f hf r
    unfold closL
    cases hk : k == NameKind.free with
    | true =>
      obtain ⟨a, ha⟩ := h (n, k) (.head _) (by simpa using hk)
      simp only [if_true, cellOf, ha, Option.getD_some]
      exact ih _ fun p hp => h p (.tail _ hp)
    | false =>
      simp only [Bool.false_eq_true, if_false]
      exact ih _ fun p hp => h p (.tail _ hp)

set_option tactic.hygienic false in
theorem closureFor_of {env : Env} {sc : Scope} (h : ∀ p ∈ sc.names, p.2 = .free → ∃ a, env.cells.lookup p.1 = some a) : closureFor sc env = pure (closL env sc.names []) := by
  unfold closureFor
  dsimp only
  rw [clos_eq (env := env) _ (fun n k cs => by cases hk : k == NameKind.free <;> simp only [hk]) sc.names [] h]
  rfl

theorem closL_mem {env : Env} : ∀ {names : List (Str × NameKind)} {acc : List (Str × Addr)} {n : Str} {a : Addr}, (n, a) ∈ closL env names acc → (n, a) ∈ acc ∨ ((n, NameKind.free) ∈ names ∧ a = (env.cells.lookup n).getD 0)
  | [], acc, n, a, h => .inl h
  | (n', k) :: r, acc, n, a, h => by
    unfold closL at h
    split at h
    · rename_i hk
      rcases closL_mem h with h | ⟨h1, h2⟩
      · rcases List.mem_cons.mp h with h | h
        · cases h
          exact .inr ⟨by rw [← (by simpa using hk : k = .free)]; exact .head _, rfl⟩
        · exact .inl h
      · exact .inr ⟨.tail _ h1, h2⟩
    · rcases closL_mem h with h | ⟨h1, h2⟩
      · exact .inl h
      · exact .inr ⟨.tail _ h1, h2⟩
set_option tactic.hygienic false in
theorem closL_acc {env : Env} : ∀ {names : List (Str × NameKind)} {acc : List (Str × Addr)} {p : Str × Addr}, p ∈ acc → p ∈ closL env names acc
  | [], _, _, h => h
  | (n', k) :: r, acc, p, h => by
    unfold closL
    split
    · exact closL_acc (.tail _ h)
    · exact closL_acc h
set_option tactic.hygienic false in
theorem closL_has {env : Env} : ∀ {names : List (Str × NameKind)} {acc : List (Str × Addr)} {n : Str}, (n, NameKind.free) ∈ names → (n, (env.cells.lookup n).getD 0) ∈ closL env names acc
  | (n', k) :: r, acc, n, h => by
    unfold closL
    rcases List.mem_cons.mp h with h | h
    · cases h; simp only [beq_self_eq_true, if_true]; exact closL_acc (.head _)
    · split <;> exact closL_has h

set_option tactic.hygienic false in
theorem relabel_lookup {env : Env} : ∀ {names : List (Str × NameKind)} {x : Str},
    (names.map fun (n, k) => if (k == NameKind.free && env.scope.kind == .function && env.kindOf n == some .cell) then (n, NameKind.cell) else (n, k)).lookup x =
      (names.lookup x).map fun k => if (k == NameKind.free && env.scope.kind == .function && env.kindOf x == some .cell) then NameKind.cell else k
  | [], _ => rfl
  | (n, k) :: r, x => by
    have ih := @relabel_lookup env r x
    show List.lookup x ((if (k == NameKind.free && env.scope.kind == .function && env.kindOf n == some .cell) = true then (n, NameKind.cell) else (n, k)) :: _) = _
    cases hx : x == n with
    | true =>
      have : x = n := by simpa using hx
      subst this
      split <;> simp_all [List.lookup_cons]
    | false =>
      split <;> simp only [List.lookup_cons, hx] <;> exact ih

theorem lookup_memK {l : List (Str × NameKind)} {n : Str} {k : NameKind} (h : l.lookup n = some k) : (n, k) ∈ l := mem_of_lookup h

theorem hideN_get {nm ts : List Str} {i : Nat} {n : Str} (h : (hideN nm ts)[i]? = some n) (hn : n.length ≠ 0) : nm[i]? = some n ∧ n ∉ ts := by
  unfold hideN at h
  rw [List.getElem?_map, Option.map_eq_some_iff] at h
  obtain ⟨y, h1, h2⟩ := h
  split at h2
  · subst h2; exact absurd rfl hn
  · rename_i hc; subst h2; exact ⟨h1, by simpa using hc⟩

theorem Frm.inner {R R' : RR} {env : Env} {sc csc : Scope} {nm ts : List Str} {V : VV} {xv : List AV} {C : Addr} {m : Str → Option Value} (fr : Frm R env sc nm V) (hm : compScOk sc csc nm ts = true) (hC : R' C = some (.ns m)) (hk : ∀ b r, R b = some r → R' b = some r)
    (hl : xv.length = ts.length) (hts : ∀ (j : Nat) t, ts[j]? = some t → ∃ a u, xv[j]? = some a ∧ m t = some u ∧ VR a u) : Frm R' (compEnvC csc (closL env csc.names []) C env) csc (hideN nm ts ++ ts) (V ++ xv.map some) := by
  unfold compScOk at hm
  simp only [Bool.and_eq_true, Bool.not_eq_true', beq_iff_eq, List.all_eq_true, decide_eq_true_eq, bne_iff_ne, ne_eq, Bool.or_eq_true] at hm
  obtain ⟨⟨⟨⟨h1, h2⟩, h3⟩, h4⟩, h5⟩ := hm
  have hkd : ∀ n, (compEnvC csc (closL env csc.names []) C env).kindOf n = (csc.names.lookup n).map fun k => if (k == NameKind.free && env.scope.kind == .function && env.kindOf n == some .cell) then NameKind.cell else k := fun n => relabel_lookup
  have hfree : ∀ n, csc.names.lookup n = some .free → env.kindOf n = some .cell ∧ ∃ i, nm[i]? = some n := fun n hn => by
    have := h5 (n, .free) (lookup_memK hn)
    obtain ⟨⟨⟨_, _⟩, a⟩, _⟩ := this
    rcases a with a | ⟨⟨a, b⟩, _⟩
    · exact absurd rfl a
    · have hb : n ∈ nm := by simpa using b
      obtain ⟨i, hi, e⟩ := List.mem_iff_getElem.mp hb
      exact ⟨fr.cco n a, i, by rw [List.getElem?_eq_getElem hi, e]⟩
  have hnc : ∀ n, csc.names.lookup n ≠ some .cell := fun n hn => by
    have := h5 (n, .cell) (lookup_memK hn)
    exact this.1.1.1 rfl
  have hlocal : ∀ n, csc.names.lookup n = some .local → n ∈ ts ∨ n = Str.ofString ".0" := fun n hn => by
    have := h5 (n, .local) (lookup_memK hn)
    rcases this.1.1.2 with a | ⟨_, a⟩
    · exact absurd rfl a
    · simpa using a
  have hlen : ∀ n k, csc.names.lookup n = some k → n.length ≠ 0 := fun n k hn => (h5 (n, k) (lookup_memK hn)).2
  have hclook : ∀ n a, (closL env csc.names []).lookup n = some a → a = (env.cells.lookup n).getD 0 ∧ (n, NameKind.free) ∈ csc.names := fun n a h => by
    rcases closL_mem (mem_of_lookup h) with h | ⟨h1, h2⟩
    · cases h
    · exact ⟨h2, h1⟩
  have hcell : ∀ n, csc.names.lookup n = some .free → ∃ a, env.cells.lookup n = some a ∧ (closL env csc.names []).lookup n = some a := fun n hn => by
    obtain ⟨k1, i, hi⟩ := hfree n hn
    obtain ⟨a, x, v, c1, _⟩ := fr.cell i n hi (.inl k1)
    have hmem := closL_has (env := env) (acc := []) (lookup_memK hn)
    have hs : ((closL env csc.names []).lookup n).isSome = true := by
      cases q : (closL env csc.names []).lookup n with
      | some => rfl
      | none => have := List.lookup_eq_none_iff.mp q _ hmem; simp at this
    obtain ⟨b, hb⟩ := Option.isSome_iff_exists.mp hs
    obtain ⟨e1, _⟩ := hclook n b hb
    rw [c1] at e1
    exact ⟨a, c1, by rw [hb, e1]; rfl⟩
  refine ⟨h1, fr.glob, fr.blt, fun id h => ?_, fun id h => ?_, fun id h => ?_, fun id h => ?_, fun id h => absurd h (hnc id), ?_, fun n n' a e e' => ?_, ⟨m, hC, fun i n hi hk' => ?_⟩, fun i n hi hk' => ?_⟩
  · rw [hkd]; unfold isGlob at h; rw [beq_iff_eq.mp h]; rfl
  · rw [hkd]; unfold kindOk at h
    split at h
    · rename_i z; rw [z]; left; rfl
    · rename_i z; exact absurd z (hnc id)
    · rename_i z; rw [z]; simp only [Option.map_some]; split <;> simp
    · cases h
  · rw [hkd]; unfold locKind at h
    split at h
    · rename_i z; rw [z]; left; rfl
    · rename_i z; exact absurd z (hnc id)
    · cases h
  · rw [hkd, h]; rfl
  · simp only [List.length_append, List.length_map, hideN, fr.len, hl]
  · obtain ⟨e1, f1⟩ := hclook n a e
    obtain ⟨e2, f2⟩ := hclook n' a e'
    have g1 := h5 _ f1
    have g2 := h5 _ f2
    rcases g1.1.2 with z | ⟨_, g1⟩
    · exact absurd rfl z
    rcases g2.1.2 with z | ⟨_, g2⟩
    · exact absurd rfl z
    obtain ⟨a1, c1, _⟩ := hcell n g1
    obtain ⟨a2, c2, _⟩ := hcell n' g2
    rw [c1] at e1; rw [c2] at e2
    simp only [Option.getD_some] at e1 e2
    exact fr.inj n n' a (by rw [c1, e1]) (by rw [c2, e2])
  · have hloc : csc.names.lookup n = some .local := by
      rw [hkd] at hk'
      cases q : csc.names.lookup n with
      | none => rw [q] at hk'; cases hk'
      | some k =>
        rw [q] at hk'
        simp only [Option.map_some, Option.some.injEq] at hk'
        split at hk'
        · cases hk'
        · rw [hk']
    rcases Nat.lt_or_ge i (hideN nm ts).length with hlt | hge
    · rw [List.getElem?_append_left hlt] at hi
      obtain ⟨e1, e2⟩ := hideN_get hi (hlen n _ hloc)
      rcases hlocal n hloc with z | z
      · exact absurd z e2
      · exfalso
        rw [z] at e1
        have : nm.contains (Str.ofString ".0") = true := by simpa using List.mem_of_getElem? e1
        rw [this] at h4; cases h4
    · rw [List.getElem?_append_right hge] at hi
      obtain ⟨a, u, a1, a2, a3⟩ := hts _ n hi
      refine ⟨some a, ?_, by rw [a2]; exact .some a3⟩
      have hL : (hideN nm ts).length = V.length := by simp [hideN, fr.len]
      rw [hL] at hge a1
      rw [List.getElem?_append_right hge, List.getElem?_map, a1]; rfl
  · have hfr : csc.names.lookup n = some .free := by
      rw [hkd] at hk'
      cases q : csc.names.lookup n with
      | none => rw [q] at hk'; rcases hk' with hk' | hk' <;> cases hk'
      | some k =>
        rw [q] at hk'
        simp only [Option.map_some, Option.some.injEq] at hk'
        split at hk'
        · rename_i z; simp only [Bool.and_eq_true, beq_iff_eq] at z; rw [z.1.1]
        · rcases hk' with hk' | hk'
          · exact absurd (q.trans (by rw [hk'])) (hnc n)
          · rw [hk']
    rcases Nat.lt_or_ge i (hideN nm ts).length with hlt | hge
    · rw [List.getElem?_append_left hlt] at hi
      obtain ⟨e1, e2⟩ := hideN_get hi (hlen n _ hfr)
      obtain ⟨k1, _⟩ := hfree n hfr
      obtain ⟨a, x, v, c1, c2, c3, c4⟩ := fr.cell i n e1 (.inl k1)
      obtain ⟨a', d1, d2⟩ := hcell n hfr
      rw [c1] at d1; cases d1
      have hlt' : i < V.length := (List.getElem?_eq_some_iff.mp c3).1
      exact ⟨a, x, v, d2, hk _ _ c2, by rw [List.getElem?_append_left hlt']; exact c3, c4⟩
    · rw [List.getElem?_append_right hge] at hi
      have := (h2 n (List.mem_of_getElem? hi)).1.1
      rw [hfr] at this; cases this
end Mine

end
section
open PySem PySem.W PyProof.Rows PySem.Spec PySem.SeqAt PySem.Calls
namespace Mine
section
variable {c : Cx} {R : RR} {H : AHeap} {A : Around} {E : Value → Shared → Prop} {s : Shared}

set_option tactic.hygienic false in
theorem it_self {v : AV} {k : Nat} {a : Addr} {o : Obj} {Q : Value → Shared → Prop} (hi : ItObj H v k o) (ho : s.heap.get? a = some o) (q : Q (.ref a) s) : wpAny (model c.prog c.w) A (pyIter (.ref a)) Q E s := by
  cases v with
  | ref p =>
    simp only [ItObj] at hi
    split at hi
    · exact wpAny_pyIter_listiter ⟨o, ho, hi.1, hi.2⟩ q
    · exact wpAny_pyIter_tupleiter ⟨o, ho, hi.1, hi.2⟩ q
    · subst hi; exact wpAny_pyIter_rangeiter ho q
    · exact wpAny_pyIter_keyiter ⟨o, ho, hi.1, hi.2⟩ q
    · exact hi.elim
  | str y =>
    obtain ⟨t, hc, hd⟩ := hi
    rcases hc with hc | hc
    · exact wpAny_pyIter_striter_ascii ⟨o, ho, hc, hd⟩ q
    · exact wpAny_pyIter_striter_wide ⟨o, ho, hc, hd⟩ q
  | none => exact hi.elim
  | bool b => exact hi.elim
  | int i => exact hi.elim

set_option tactic.hygienic false in
theorem St1.give {h h' : Heap} {x : Addr} {r₀ : Res} {ao : AObj} (S : St1 c R H h) (hx : R x = some r₀) (hs : Heap.SameBut x h h') (hni : ∀ cl es, ao ≠ .inst cl es) (ho : ∀ D, ORep c h' D x ao) : H x = none ∧ St1 c (rdrop R x) (up H x ao) h' := by
  have bx : c.base.objs.size ≤ x := (S.res x _ hx).1
  obtain ⟨s1, s2, s3, D, s4⟩ := S.dropAny hx hs.extBut (by rw [hs.1]; exact S.size)
  obtain ⟨D₀, s40⟩ := S.rep
  have hHx : H x = none := by
    cases q : H x with
    | none => rfl
    | some o => have := (s40.above x o q).2; rw [hx] at this; cases this
  have hD : ∀ a cl es, H a = some (.inst cl es) → D a ≠ x := fun a cl es e z => by
    have hax : a ≠ x := fun w => by rw [w, hHx] at e; cases e
    obtain ⟨e1, ents, n, e2, _⟩ := s4.rep a _ e
    obtain ⟨p1, ents', n', p2, _⟩ := s40.rep a _ e
    rw [hs.2 a hax] at e1
    rw [p1] at e1
    have hd : D₀ a = D a := by injection e1 with e1; injection e1 with _ z; exact Option.some.inj z
    have := (s40.dict a cl es e).2.1
    rw [hd, z, hx] at this; cases this
  refine ⟨hHx, s1, s2, s3, D, ⟨fun a o e => ?_, fun a o e => ?_, fun a cl es e => ?_, fun a b cl es cl' es' e e' => ?_⟩⟩
  · by_cases q : a = x
    · subst q; rw [up_same] at e; cases e; exact ho D
    · rw [up_other q] at e; exact s4.rep a o e
  · by_cases q : a = x
    · subst q; exact ⟨abv bx, rdrop_same⟩
    · rw [up_other q] at e; exact s4.above a o e
  · by_cases q : a = x
    · subst q; rw [up_same] at e; cases e; exact absurd rfl (hni cl es)
    · rw [up_other q] at e
      obtain ⟨y1, y2, y3⟩ := s4.dict a cl es e
      exact ⟨y1, y2, by rw [up_other (hD a cl es e)]; exact y3⟩
  · by_cases q : a = x
    · subst q; rw [up_same] at e; cases e; exact absurd rfl (hni cl es)
    · by_cases q' : b = x
      · subst q'; rw [up_same] at e'; cases e'; exact absurd rfl (hni cl' es')
      · rw [up_other q] at e; rw [up_other q'] at e'; exact s4.inj a b cl es cl' es' e e'
end
set_option tactic.hygienic false in
theorem St.give {h h' : Heap} {x : Addr} {r₀ : Res} {ao : AObj} (S : St c R H h) (hx : R x = some r₀) (hs : Heap.SameBut x h h') (hni : ∀ cl es, ao ≠ .inst cl es) (ho : ∀ D, ORep c h' D x ao) (hb : ao.isB = false := by rfl) : H x = none ∧ St c (rdrop R x) (up H x ao) h' := by
  obtain ⟨H₁, s, r⟩ := S
  obtain ⟨e, s'⟩ := s.give hx hs hni ho
  exact ⟨r.none e, _, s', r.put hb (.inl e)⟩


noncomputable def XOk (g : Gx) (sc : Scope) (nm : List Str) (x : X) (e : PySem.Expr) : Prop :=
  ∀ (A : Around) (R : RR) (V : VV) (env : Env) (e₀ : Env) (l₀ : List Env) (s₀ : Shared), Ev g A R e₀ l₀ → Frm R env sc nm V → HX g A R V s₀ x (eval e env) ∧ HT g A R V s₀ x (isTrue e env (eval e env))

noncomputable def RC (R : RR) (a D C : Addr) (o l : Obj) (m : Str → Option Value) : RR := rup (rup (rup R a (.obj o)) D (.obj l)) C (.ns m)

set_option tactic.hygienic false in
theorem te_false {g : Gx} {R : RR} {s₀ : Shared} {e : Value} {s' : Shared} {P : Prop} (h : TE g R s₀ (fun _ _ => False) e s') : P := by
  obtain ⟨_, _, _, _, _, _, h⟩ := h; exact h.elim

set_option tactic.hygienic false in
theorem stk_of {R R' : RR} {l : List Env} (h : Stk R l) (k : ∀ b r, R b = some r → R' b = some r) : Stk R' l := fun e he => by
  have F := h e he
  obtain ⟨m, hm⟩ := F.ns
  exact ⟨F.kind, F.frame, F.gen, F.co, F.blt, F.glob, m, k _ _ hm⟩

inductive CTests (g : Gx) (sc : Scope) (nm : List Str) : Option X → List PySem.Expr → Prop
  | nil : CTests g sc nm none []
  | one {x e} : XOk g sc nm x e → CTests g sc nm (some x) [e]

section
variable {g : Gx} {A : Around} {R : RR} {V : VV} {s₀ : Shared} {env : Env} {mg mb : Str → Option Value} {e₀ : Env} {l₀ : List Env} {sc csc : Scope} {nm : List Str}

set_option tactic.hygienic false in
theorem tests_ok {c : Option X} {ifs : List PySem.Expr} {H : AHeap} {s : Shared} {Q : Bool → AHeap → Prop} {E : String → AHeap → Prop} (h : CTests g sc nm c ifs) (ev : Ev g A R e₀ l₀) (fr : Frm R env sc nm V) (S : St g.c R H s.heap) (m : Sm s₀ s)
    (q : wpC g c V Q E H) : wpAny (model g.c.prog g.c.w) A (forIn ifs true fun c r => if r = true then do let ok ← isTrue c env (eval c env); pure (ForInStep.yield ok) else pure (ForInStep.yield r)) (TB g R s₀ Q) (TE g R s₀ E) s := by
  cases h with
  | nil => exact wpAny_tests_nil ⟨H, S, m, q⟩
  | one hx =>
    rw [xc_some] at q
    refine wpAny_tests_one (wpAny_mono ((hx A R V env e₀ l₀ s₀ ev fr).2 H s (fun _ b H => Q b H) E S m q) (fun b s' z => ?_) fun _ _ z => z)
    obtain ⟨v, H', S', m', q', _⟩ := z
    exact ⟨H', S', m', q'⟩

set_option tactic.hygienic false in
theorem asg_comp {c : Cx} {R : RR} {H : AHeap} {A : Around} {E : Value → Shared → Prop} {env : Env} {Q : Unit → Shared → Prop} {mg mb : Str → Option Value} {tg : PySem.Expr} {tup : Bool} {ts : List Str} {y : AV} {u : Value} {P : List AV → Prop} {m : Str → Option Value} {s : Shared} (C : c.Ok mg mb) (hh : A.handled = none)
    (hp : (env.scope.kind == .class || (env.scope.kind == .module && env.locals != env.globals)) = false) (htg : TgN tg tup ts) (nd : ts.Nodup) (hk : ∀ t ∈ ts, env.kindOf t = some .local) (hu : VR y u) (hw : if tup then wunpack ts.length y H P else P [y])
    (S : St c (rup R env.locals (.ns m)) H s.heap)
    (q : ∀ s' m' ys, P ys → ys.length = ts.length → (∀ (j : Nat) t, ts[j]? = some t → ∃ a v, ys[j]? = some a ∧ m' t = some v ∧ VR a v) → St c (rup R env.locals (.ns m')) H s'.heap → Sm s s' → Q () s') : wpAny (model c.prog c.w) A (assign tg env u) Q E s := by
  cases htg with
  | name =>
    refine wpAny_assign_Name (wpAny_storeName_local (hk _ (.head _)) (S.res _ _ rup_same).2 (fun h₃ hn₃ hs₃ => ?_) hp)
    have S₃ := S.setRes (r' := .ns _) rup_same hs₃ hn₃
    rw [rup_rup] at S₃
    refine q _ _ [y] hw rfl (fun j t hj => ?_) S₃ ⟨_, _, rfl⟩
    cases j with
    | zero => cases hj; exact ⟨y, u, rfl, if_pos rfl, hu⟩
    | succ j => simp at hj
set_option tactic.hygienic false in
theorem comp_rule {prog : Program} {w : World} {R : Result → Shared → Prop} {A : Around} {s : Shared} {elt target iter : PySem.Expr} {ifs : List PySem.Expr} {scope : Scope} {pos : Pos} {it acc : Value} {env : Env} (I : Nat → Shared → Prop)
    (turn : ∀ n s, I n s → wpAny (model prog w) A (pyNext it) (fun r s₁ => match r with
      | none => R (.ok .next) s₁
      | some v => wpAny (model prog w) A (letOwnedTupleGo target it v) (fun _ s₁' => wpAny (model prog w) A (assign target env v) (fun _ s₂ =>
          wpAny (model prog w) A (forIn ifs true fun c r => if r = true then do let ok ← isTrue c env (eval c env); pure (ForInStep.yield ok) else pure (ForInStep.yield r)) (fun ok s₃ =>
            if ok = true then wpAny (model prog w) A (eval elt env) (fun x s₄ =>
              wpAny (model prog w) A (call (.builtin "list.append") [acc, x]) (fun _ s₅ => ∃ m, m < n ∧ I m s₅) (notedBy (model prog w) A env fun e s' => R (.error e) s') s₄) (notedBy (model prog w) A env fun e s' => R (.error e) s') s₃
            else ∃ m, m < n ∧ I m s₃) (notedBy (model prog w) A env fun e s' => R (.error e) s') s₂) (notedBy (model prog w) A env fun e s' => R (.error e) s') s₁') (notedBy (model prog w) A env fun e s' => R (.error e) s') s₁) (notedBy (model prog w) A env fun e s' => R (.error e) s') s)
    (n : Nat) (h : I n s) : codeAny (model prog w) A (.compLoop (.ListComp elt [⟨target, iter, ifs, 0⟩] scope pos) 0 it acc env) R s := by
  refine codeAny_loop rfl I (fun n s hI => ?_) n h
  show wpAny _ A ((compTurn (.ListComp elt [⟨target, iter, ifs, 0⟩] scope pos) 0 it acc env).onRaise (fun x => do noteFrame x env; theTreesLotGoes x)) _ _ s
  refine wpAny_noted ?_
  rw [compTurn_list]
  refine wpAny_bind (wpAny_standAt (wpAny_bind (wpAny_mono (turn n s hI) (fun r s₁ h₁ => ?_) fun _ _ h' => h')))
  cases r with
  | none => exact wpAny_pure h₁
  | some v =>
    refine wpAny_bind (wpAny_mono h₁ (fun _ s₁' h₁' => ?_) fun _ _ h' => h')
    refine wpAny_bind (wpAny_mono h₁' (fun _ s₂ h₂ => wpAny_bind (wpAny_mono h₂ (fun ok s₃ h₃ => ?_) fun _ _ h' => h')) fun _ _ h' => h')
    cases ok with
    | false => exact wpAny_pure ⟨rfl, h₃⟩
    | true =>
      exact wpAny_bind (wpAny_bind (wpAny_mono h₃ (fun x s₄ h₄ => wpAny_bind (wpAny_mono h₄ (fun _ s₅ h₅ => wpAny_pure (wpAny_pure ⟨rfl, h₅⟩)) fun _ _ h' => h')) fun _ _ h' => h'))

inductive CompI (c : Cx) (R : RR) (s₀ : Shared) (a D C : Addr) (av : AV) (l : Nat) (I : Nat → List AV → AHeap → Prop) (n : Nat) (s : Shared) : Prop
  | mk (k : Nat) (o' : Obj) (m' : Str → Option Value) (vs : List Value) (cnt : Nat) (acc : List AV) (H' : AHeap) (hn : n = l - k) (hk : k ≤ l) (it : ItObj H' av k o') (hv : VRs acc vs) (ha : acc.length ≤ k) (S : St c (RC R a D C o' (listOf vs.toArray cnt) m') H' s.heap) (m : Sm s₀ s) (q : I k acc H') : CompI c R s₀ a D C av l I n s
set_option tactic.hygienic false in
theorem comp_loop {x : X} {c : Option X} {elt iter tg : PySem.Expr} {ifs : List PySem.Expr} {tup : Bool} {ts : List Str} {pos : Pos} {a D C : Addr} {xs : List AV} {av : AV} {H₀ : AHeap} {I : Nat → List AV → AHeap → Prop} {RR' : Result → Shared → Prop} {s₁ : Shared} {o : Obj} {m₁ : Str → Option Value}
    (Ck : g.c.Ok mg mb) (htg : TgN tg tup ts) (hh : A.handled = none) (ev : Ev g A R e₀ l₀) (fr : Frm R env sc nm V) (hm : compScOk sc csc nm ts = true) (hx : XOk g csc (hideN nm ts ++ ts) x elt) (hc : CTests g csc (hideN nm ts ++ ts) c ifs)
    (ha : R a = none) (hD : R D = none) (hC : R C = none) (hDa : D ≠ a) (hCa : C ≠ a) (hCD : C ≠ D) (hsv : ∀ y, av = .str y → PyData.strOk y = true)
    (hxs : itemsOf H₀ av = some xs) (hz : xs.length ≤ sizeLine)
    (step : ∀ k acc H', I k acc H' → sameIt H₀ H' av ∧ ∀ y, xs[k]? = some y → if tup then wunpack ts.length y H' (fun ys => wpC g c (V ++ ys.map some) (fun b H => if b then wpX g x (V ++ ys.map some) (fun y H => I (k + 1) (acc ++ (some y).toList) H) (fun _ _ => False) H else I (k + 1) (acc ++ (none : Option AV).toList) H) (fun _ _ => False) H') else wpC g c (V ++ [some y]) (fun b H => if b then wpX g x (V ++ [some y]) (fun y H => I (k + 1) (acc ++ (some y).toList) H) (fun _ _ => False) H else I (k + 1) (acc ++ (none : Option AV).toList) H) (fun _ _ => False) H')
    (h0 : I 0 [] H₀) (ho : ItObj H₀ av 0 o) (S : St g.c (RC R a D C o (listOf #[] 0) m₁) H₀ s₁.heap) (ms : Sm s₀ s₁)
    (fin : ∀ acc H' s' m', I xs.length acc H' → H' D = none → St g.c (rup R C (.ns m')) (up H' D (.list acc)) s'.heap → Sm s₀ s' → RR' (.ok .next) s') :
    codeAny (model g.c.prog g.c.w) A (.compLoop (.ListComp elt [⟨tg, iter, ifs, 0⟩] csc pos) 0 (.ref a) (.ref D) (compEnvC csc (closL env csc.names []) C env)) RR' s₁ := by
  have hloc : (∀ t ∈ ts, csc.names.lookup t = some .local) ∧ csc.kind = .function ∧ ts.Nodup := by
    unfold compScOk at hm
    simp only [Bool.and_eq_true, beq_iff_eq, List.all_eq_true, decide_eq_true_eq] at hm
    exact ⟨fun t ht => (hm.1.1.1.2 t ht).1.1, hm.1.1.1.1, hm.1.1.2⟩
  have hRa : ∀ o l m, RC R a D C o l m a = some (.obj o) := fun o l m => by unfold RC; rw [rup_other (Ne.symm hCa), rup_other (Ne.symm hDa), rup_same]
  have hRD : ∀ o l m, RC R a D C o l m D = some (.obj l) := fun o l m => by unfold RC; rw [rup_other (Ne.symm hCD), rup_same]
  have hRC : ∀ o l m, RC R a D C o l m C = some (.ns m) := fun o l m => rup_same
  have hle : ∀ o l m b r, R b = some r → RC R a D C o l m b = some r := fun o l m b r e => by
    have h1 : b ≠ a := fun z => by rw [z, ha] at e; cases e
    have h2 : b ≠ D := fun z => by rw [z, hD] at e; cases e
    have h3 : b ≠ C := fun z => by rw [z, hC] at e; cases e
    unfold RC; rw [rup_other h3, rup_other h2, rup_other h1]; exact e
  have sa : ∀ o l m o', rup (RC R a D C o l m) a (.obj o') = RC R a D C o' l m := fun o l m o' => by
    funext b
    by_cases q : b = a
    · subst q; rw [rup_same, hRa]
    · rw [rup_other q]; unfold RC
      by_cases q2 : b = C
      · subst q2; rw [rup_same, rup_same]
      · rw [rup_other q2, rup_other q2]
        by_cases q3 : b = D
        · subst q3; rw [rup_same, rup_same]
        · rw [rup_other q3, rup_other q3, rup_other q, rup_other q]
  have sD : ∀ o l m l', rup (RC R a D C o l m) D (.obj l') = RC R a D C o l' m := fun o l m l' => by
    funext b
    by_cases q : b = D
    · subst q; rw [rup_same, hRD]
    · rw [rup_other q]; unfold RC
      by_cases q2 : b = C
      · subst q2; rw [rup_same, rup_same]
      · rw [rup_other q2, rup_other q2, rup_other q, rup_other q]
  have sC : ∀ o l m m', rup (RC R a D C o l m) C (.ns m') = RC R a D C o l m' := fun o l m m' => by
    funext b
    by_cases q : b = C
    · subst q; rw [rup_same, hRC]
    · rw [rup_other q]; unfold RC; rw [rup_other q, rup_other q]
  refine comp_rule (CompI g.c R s₀ a D C av xs.length I) ?_ xs.length
    ⟨0, o, m₁, [], 0, [], H₀, rfl, Nat.zero_le _, ho, .nil, Nat.le_refl _, S, ms, h0⟩
  rintro n s ⟨k, o', m', vs, cnt, acc, H', rfl, hk, hio, hvs, hacc, S', ms', hI⟩
  obtain ⟨hsame, hstep⟩ := step k acc H' hI
  have hxs' : itemsOf H' av = some xs := by
    rw [← hxs]
    cases av with
    | ref p => simp only [sameIt] at hsame; simp only [itemsOf, hsame]
    | _ => rfl
  cases hky : xs[k]? with
  | none =>
    have hkl : k = xs.length := by have := List.getElem?_eq_none_iff.mp hky; omega
    refine it_end hh hxs' hky hio (hRa _ _ _) (hRC _ _ _) S' fun s₂ S₂ m₂ => ?_
    have hD₂ : rdrop (RC R a D C o' (listOf vs.toArray cnt) m') a D = some (.obj (listOf vs.toArray cnt)) := by rw [rdrop_other hDa]; exact hRD _ _ _
    obtain ⟨hd, S₃⟩ := S₂.give (ao := .list acc) hD₂ ⟨rfl, fun _ _ => rfl⟩ (by intro _ _ z; cases z) fun _ => ⟨vs, cnt, (S₂.res _ _ hD₂).2, hvs⟩
    subst hkl
    refine fin acc H' s₂ m' hI hd (S₃.weaken fun b r e => ?_) (ms'.trans m₂)
    by_cases q : b = C
    · subst q; rw [rup_same] at e; cases e; rw [rdrop_other hCD, rdrop_other hCa]; exact hRC _ _ _
    · rw [rup_other q] at e
      have h1 : b ≠ a := fun z => by rw [z, ha] at e; cases e
      have h2 : b ≠ D := fun z => by rw [z, hD] at e; cases e
      rw [rdrop_other h2, rdrop_other h1]; exact hle _ _ _ _ _ e
  | some y =>
    have hlt : k < xs.length := (List.getElem?_eq_some_iff.mp hky).1
    refine it_item hxs' hky hio (hRa _ _ _) S' hsv fun s₂ u o₂ hu ho₂ S₂ m₂ => ?_
    rw [sa] at S₂
    have hw := hstep y hky
    refine owned_it ho₂ ((S₂.res _ _ (hRa _ _ _)).2) ?_
    have hRR : RC R a D C o₂ (listOf vs.toArray cnt) m' = rup (RC R a D C o₂ (listOf vs.toArray cnt) m') (compEnvC csc (closL env csc.names []) C env).locals (.ns m') := (sC _ _ _ _).symm
    rw [hRR] at S₂
    refine asg_comp (P := fun ys => wpC g c (V ++ ys.map some) (fun b H => if b then wpX g x (V ++ ys.map some) (fun y H => I (k + 1) (acc ++ (some y).toList) H) (fun _ _ => False) H else I (k + 1) (acc ++ (none : Option AV).toList) H) (fun _ _ => False) H') Ck hh (by simp [compEnvC, relabel, hloc.2.1]) htg hloc.2.2 (fun t ht => lookup_relabel_local (hloc.1 t ht)) hu hw S₂ fun s₃ m₃ ys hw hyl hys S₃ ms3 => ?_
    rw [show rup (RC R a D C o₂ (listOf vs.toArray cnt) m') (compEnvC csc (closL env csc.names []) C env).locals (.ns m₃) = RC R a D C o₂ (listOf vs.toArray cnt) m₃ from sC _ _ _ _] at S₃
    have ev' : ∀ o l m, Ev g A (RC R a D C o l m) e₀ l₀ := fun o l m => ⟨ev.aok, stk_of ev.stk (hle o l m)⟩
    have fr' : ∀ o l, Frm (RC R a D C o l m₃) (compEnvC csc (closL env csc.names []) C env) csc (hideN nm ts ++ ts) (V ++ ys.map some) := fun o l =>
      fr.inner (xv := ys) hm (hRC _ _ _) (hle _ _ _) hyl hys
    refine wpAny_mono (tests_ok hc (ev' _ _ _) (fr' _ _) S₃ ((ms'.trans m₂).trans ms3) hw) (fun ok s₄ z => ?_) fun _ _ z => te_false z
    obtain ⟨H₄, S₄, m₄, q₄⟩ := z
    cases ok with
    | false =>
      simp only [Bool.false_eq_true, if_false, Option.toList_none, List.append_nil] at q₄ ⊢
      have hs4 := (step _ _ _ q₄).1
      exact ⟨xs.length - (k + 1), by omega, k + 1, o₂, _, vs, cnt, acc, H₄, rfl, hlt, ItObj.same ho₂ (by
        cases av with
        | ref p => simp only [sameIt] at hs4 hsame ⊢; rw [hs4, hsame]
        | _ => trivial), hvs, by omega, S₄, m₄, q₄⟩
    | true =>
      simp only [if_true] at q₄ ⊢
      refine wpAny_mono ((hx A _ _ _ e₀ l₀ s₀ (ev' _ _ _) (fr' _ _)).1 H₄ s₄ _ _ S₄ m₄ q₄) (fun w s₅ z => ?_) fun _ _ z => te_false z
      obtain ⟨bv, H₅, hw5, S₅, m₅, q₅⟩ := z
      have hs5 := (step _ _ _ q₅).1
      have hsz : vs.length ≤ sizeLine := by have := hvs.length; omega
      refine append_at (S₅.res _ _ (hRD _ _ _)).2 (fun h₆ hs₆ ho₆ => ?_) (by simpa using hsz)
      have S₆ := S₅.setRes (r' := .obj (listOf (vs ++ [w]).toArray (cnt + 1))) (hRD _ _ _) hs₆ (by show h₆.get? D = _; rw [ho₆]; simp [W.listOf])
      rw [sD] at S₆
      exact ⟨xs.length - (k + 1), by omega, k + 1, o₂, _, vs ++ [w], cnt + 1, acc ++ [bv], H₅, rfl, hlt, ItObj.same ho₂ (by
        cases av with
        | ref p => simp only [sameIt] at hs5 hsame ⊢; rw [hs5, hsame]
        | _ => trivial), hvs.append (.one hw5), by simp; omega, S₆, m₅.heap _, q₅⟩
set_option tactic.hygienic false in
theorem comp_clos {ts : List Str} (fr : Frm R env sc nm V) (hm : compScOk sc csc nm ts = true) : closureFor csc env = pure (closL env csc.names []) := by
  refine closureFor_of fun p hp hk => ?_
  unfold compScOk at hm
  simp only [Bool.and_eq_true, Bool.not_eq_true', beq_iff_eq, List.all_eq_true, decide_eq_true_eq, bne_iff_ne, ne_eq, Bool.or_eq_true] at hm
  rcases (hm.2 p hp).1.2 with z | ⟨⟨z1, z2⟩, _⟩
  · exact absurd hk z
  · have hb : p.1 ∈ nm := by simpa using z2
    obtain ⟨i, hi, e⟩ := List.mem_iff_getElem.mp hb
    obtain ⟨a, x, v, c1, _⟩ := fr.cell i p.1 (by rw [List.getElem?_eq_getElem hi, e]) (.inl (fr.cco _ z1))
    exact ⟨a, c1⟩
set_option tactic.hygienic false in
theorem comp_sc {ts : List Str} (hm : compScOk sc csc nm ts = true) : csc.kind = .function ∧ (∀ y ∈ csc.names, y.2 ≠ .cell) ∧ ∀ y ∈ csc.names, y.2 = .local → csc.names.lookup y.1 = some .local := by
  unfold compScOk at hm
  simp only [Bool.and_eq_true, Bool.not_eq_true', beq_iff_eq, List.all_eq_true, decide_eq_true_eq, bne_iff_ne, ne_eq, Bool.or_eq_true] at hm
  refine ⟨hm.1.1.1.1, fun y hy => (hm.2 y hy).1.1.1, fun y hy hk => ?_⟩
  rcases (hm.2 y hy).1.1.2 with z | z
  · exact absurd hk z
  · exact z.1

theorem comp_block {x : X} {c : Option X} {elt iter tg : PySem.Expr} {ifs : List PySem.Expr} {tup : Bool} {ts : List Str} {pos : Pos} {xs : List AV} {av : AV} {u : Value} {H₀ : AHeap} {I : Nat → List AV → AHeap → Prop} {RR' : Value → Addr → Result → Shared → Prop} {s₁ : Shared} {E : Value → Shared → Prop}
    (Ck : g.c.Ok mg mb) (htg : TgN tg tup ts) (hh : A.handled = none) (ev : Ev g A R e₀ l₀) (fr : Frm R env sc nm V) (hm : compScOk sc csc nm ts = true) (hx : XOk g csc (hideN nm ts ++ ts) x elt) (hc : CTests g csc (hideN nm ts ++ ts) c ifs)
    (hv : VR av u) (S : St g.c R H₀ s₁.heap) (ms : Sm s₀ s₁) (hxs : itemsOf H₀ av = some xs) (hz : xs.length ≤ sizeLine) (h0 : I 0 [] H₀)
    (step : ∀ k acc H', I k acc H' → sameIt H₀ H' av ∧ ∀ y, xs[k]? = some y → if tup then wunpack ts.length y H' (fun ys => wpC g c (V ++ ys.map some) (fun b H => if b then wpX g x (V ++ ys.map some) (fun y H => I (k + 1) (acc ++ (some y).toList) H) (fun _ _ => False) H else I (k + 1) (acc ++ (none : Option AV).toList) H) (fun _ _ => False) H') else wpC g c (V ++ [some y]) (fun b H => if b then wpX g x (V ++ [some y]) (fun y H => I (k + 1) (acc ++ (some y).toList) H) (fun _ _ => False) H else I (k + 1) (acc ++ (none : Option AV).toList) H) (fun _ _ => False) H')
    (fin : ∀ D Ca acc H' s' m', R Ca = none → I xs.length acc H' → H' D = none → St g.c (rup R Ca (.ns m')) (up H' D (.list acc)) s'.heap → Sm s₀ s' → RR' (.ref D) Ca (.ok .next) s') :
    wpAny (model g.c.prog g.c.w) A (pyIter u) (fun it s₂ => wpAny (model g.c.prog g.c.w) A (newList []) (fun acc s₃ => wpAny (model g.c.prog g.c.w) A (newFunctionEnv csc env.globals (closL env csc.names []) [] env.qual none .none (some env)) (fun cenv s₄ =>
      codeAny (model g.c.prog g.c.w) A (.compStart (.ListComp elt [⟨tg, iter, ifs, 0⟩] csc pos) 0 it acc { cenv with scope := relabel csc env }) (RR' acc cenv.locals) s₄) E s₃) E s₂) E s₁ := by
  obtain ⟨hkind, hcell, _⟩ := comp_sc hm
  have hsv : ∀ y, av = .str y → PyData.strOk y = true := by rintro y rfl; cases hv; assumption
  refine it_new Ck hv S hxs fun s₂ a o ha hHa ho S₂ m₂ => ?_
  refine wpAny_newObj_type (wpAny_newFunctionEnv hcell (by intro y hy; simp at hy) (fun h₁ hns₁ hsb₁ => ?_) hkind)
  dsimp only at hns₁ hsb₁ ⊢
  obtain ⟨hD1, hD2, S₃⟩ := S₂.newRes (x := s₂.heap.objs.size) (r := .obj (listOf #[] 0)) (h' := s₂.heap.push { cls := .type "list", dict := none, data := .seq ([] : List Value).toArray }) (Nat.le_refl _) (fun _ _ z => Heap.get?_push_of_some _ z) (by rw [Heap.size_push]; omega) (Heap.get?_push_size _ rfl)
  generalize hH2 : s₂.heap.push { cls := .type "list", dict := none, data := .seq ([] : List Value).toArray } = H2 at hns₁ hsb₁ S₃ ⊢
  obtain ⟨hC1, hC2, S₄⟩ := S₃.newRes (x := H2.objs.size) (r := .ns _) (h' := h₁) (Nat.le_refl _) (fun b ob z => hsb₁.extBut b ob (Nat.ne_of_lt (Heap.lt_size z)) (Heap.get?_push_of_some _ z)) (by rw [hsb₁.1, Heap.size_push]; omega) hns₁
  generalize s₂.heap.objs.size = D at hD1 hD2 S₃ S₄ hC1 ⊢
  generalize H2.objs.size = Ca at hC1 hC2 S₄ hns₁ hsb₁ ⊢
  have hDa : D ≠ a := fun z => by rw [z, rup_same] at hD1; cases hD1
  have hCD : Ca ≠ D := fun z => by rw [z, rup_same] at hC1; cases hC1
  rw [rup_other hCD] at hC1
  have hCa : Ca ≠ a := fun z => by rw [z, rup_same] at hC1; cases hC1
  rw [rup_other hCa] at hC1
  rw [rup_other hDa] at hD1
  have loop : ∀ s₃ : Shared, s₃ = { s₂ with heap := h₁, toks := s₂.toks + ([] : List (Str × Value)).length } →
      codeAny (model g.c.prog g.c.w) A (.compLoop (.ListComp elt [⟨tg, iter, ifs, 0⟩] csc pos) 0 (.ref a) (.ref D) (compEnvC csc (closL env csc.names []) Ca env)) (RR' (.ref D) Ca) s₃ := by
    rintro s₃ rfl
    exact comp_loop Ck htg hh ev fr hm hx hc ha hD1 hC1 hDa hCa hCD hsv hxs hz step h0 ho S₄ ((ms.trans m₂).step _ _) fun acc H' s' m' h1 h2 h3 h4 => fin D Ca acc H' s' m' hC1 h1 h2 h3 h4
  refine codeAny_compStart_list (loop _ rfl) (it_self ho ?_ (loop _ rfl))
  refine (S₄.res a (.obj o) ?_).2
  rw [rup_other (Ne.symm hCa), rup_other (Ne.symm hDa), rup_same]

set_option tactic.hygienic false in
theorem hx_comp {x it : X} {c : Option X} {elt iter tg : PySem.Expr} {ifs : List PySem.Expr} {tup : Bool} {ts : List Str} {pos : Pos} (Ck : g.c.Ok mg mb) (htg : TgN tg tup ts) (ev : Ev g A R e₀ l₀) (fr : Frm R env sc nm V) (hm : compScOk sc csc nm ts = true)
    (hf : ∀ x, foldedSetIterable iter env x = pure x) (hit : HX g A R V s₀ it (eval iter env)) (hx : XOk g csc (hideN nm ts ++ ts) x elt) (hc : CTests g csc (hideN nm ts ++ ts) c ifs) :
    HX g A R V s₀ (.comp x ts.length tup it c) (eval (.ListComp elt [⟨tg, iter, ifs, 0⟩] csc pos) env) := fun H s Q E S m q => by
  dsimp only [x_lit, x_var, x_bin, x_neg, x_not, x_ao, x_cmp, x_cmp2, x_sub, x_glob, x_call, x_prim, x_bm, x_isi, x_list, x_tup, x_new, x_dict0, x_dict1, x_attr, x_meth, x_comp] at q
  obtain ⟨hmd, q⟩ := q
  rw [eval_ListComp]
  refine wpAny_comprehension_free (use := none) rfl hf (comp_clos fr hm) (comp_sc hm).1 (comp_sc hm).2.2 ?_
  refine wpAny_mono (hit H s _ E S m q) (fun u s₁ z => ?_) fun _ _ z => z
  obtain ⟨av, H₁, hv, S₁, m₁, xs, hxs, hz, I, hI, hstep⟩ := z
  refine comp_block (I := I) (RR' := fun acc Ca => compPost (model g.c.prog g.c.w) A (TE g R s₀ E) none (TQ g R s₀ Q) acc Ca) Ck htg (ev.aok.hand hmd) ev fr hm hx hc hv S₁ m₁ hxs hz hI (fun k acc H' hi => ⟨(hstep k acc H' hi).1, (hstep k acc H' hi).2.2⟩) ?_
  intro D Ca acc H' s' m' hCa hi hd S' ms'
  refine ⟨m', (S'.res Ca _ rup_same).2, fun h' hs' => ?_⟩
  refine ⟨.ref D, up H' D (.list acc), .ref D, (S'.dropAny (rup_same) hs'.extBut (by rw [hs'.1]; exact S'.size)).weaken fun b r e => ?_, ms'.heap _, (hstep _ acc H' hi).2.1 rfl D hd⟩
  have hb : b ≠ Ca := fun z => by rw [z, hCa] at e; cases e
  rw [rdrop_other hb, rup_other hb]; exact e

set_option tactic.hygienic false in
theorem hx_dict1 {k v : X} {ke ve : PySem.Expr} {pos : Pos} (ev : Ev g A R e₀ l₀) (fr : Frm R env sc nm V) (hk : XOk g sc nm k ke) (hv : XOk g sc nm v ve) : HX g A R V s₀ (.dict [k] [v]) (eval (.Dict [some ke] [ve] pos) env) := fun H s Q E S m q => by
  dsimp only [x_lit, x_var, x_bin, x_neg, x_not, x_ao, x_cmp, x_cmp2, x_sub, x_glob, x_call, x_prim, x_bm, x_isi, x_list, x_tup, x_new, x_dict0, x_dict1, x_attr, x_meth, x_comp] at q
  refine wpAny_Dict_walk (knd := strKind g.c.prog g.c.w) rfl rfl (by simp) (by simp) ?_
  obtain ⟨hR, hH, S₁⟩ := S.newRes (x := s.heap.objs.size) (r := .obj { cls := .type "dict", data := .dict #[] }) (h' := s.heap.push { cls := .type "dict", data := .dict #[] }) (Nat.le_refl _) (fun _ _ z => Heap.get?_push_of_some _ z) (by rw [Heap.size_push]; omega) (Heap.get?_push_size _ rfl)
  generalize s.heap.objs.size = d at hR hH S₁ ⊢
  generalize s.heap.push { cls := .type "dict", data := .dict #[] } = h₁ at S₁ ⊢
  have hle : ∀ b r, R b = some r → rup R d (.obj { cls := .type "dict", data := .dict #[] }) b = some r := fun b r e => by
    rw [rup_other (fun z => by rw [z, hR] at e; cases e)]; exact e
  have ev' : Ev g A (rup R d (.obj { cls := .type "dict", data := .dict #[] })) e₀ l₀ := ⟨ev.aok, stk_of ev.stk hle⟩
  have fr' : Frm (rup R d (.obj { cls := .type "dict", data := .dict #[] })) env sc nm V := fr.congr fun b hb => rup_other fun z => by
    rw [z] at hb; rcases hb with ⟨_, hb⟩ | ⟨_, hb⟩ <;> (rw [hR] at hb; cases hb)
  have te : ∀ {e : Value} {s' : Shared}, TE g (rup R d (.obj { cls := .type "dict", data := .dict #[] })) s₀ E e s' → TE g R s₀ E e s' := by
    rintro e s' ⟨a, cl, H', e1, X, ms, q⟩; exact ⟨a, cl, H', e1, X.weaken hle, ms, q⟩
  refine pairTrees_cons_walk (wpAny_mono ((hk A _ V env e₀ l₀ s₀ ev' fr').1 H _ _ E S₁ (m.heap _) q) (fun kv s₂ z => ?_) fun _ _ z => te z)
  obtain ⟨ka, H₂, hka, S₂, m₂, q₂⟩ := z
  refine wpAny_mono ((hv A _ V env e₀ l₀ s₀ ev' fr').1 H₂ _ _ E S₂ m₂ q₂) (fun vv s₃ z => ?_) fun _ _ z => te z
  obtain ⟨va, H₃, hva, S₃, m₃, q₃⟩ := z
  refine pairTrees_nil_walk ?_
  cases hka with
  | str ks tk hok =>
    dsimp only at q₃
    have hd₃ : s₃.heap.get? d = some { cls := .type "dict", data := .dict #[] } := (S₃.res d _ rup_same).2
    refine ⟨[(ks, vv)], ⟨?_, rfl, trivial⟩, ⟨_, #[], 0, hd₃, ⟨rfl, rfl, rfl⟩, rfl, fun _ h => by simp at h, .nil, List.nodup_nil⟩, fun h' hd hs => ?_⟩
    · exact strKind_is _ _ ks tk
    · obtain ⟨o', es', ep, hda⟩ := hd
      obtain ⟨hn, S₄⟩ := S₃.give (h' := h') (ao := .dict ep [(ks, va)]) rup_same hs (by intro _ _ z; cases z) fun _ => ⟨[(ks, vv)], ⟨o', es', hda⟩, .cons hok hva .nil⟩
      refine ⟨.ref d, _, .ref d, S₄.weaken fun b r e => ?_, m₃.step _ _, q₃ d ep hn⟩
      have hb : b ≠ d := fun z => by rw [z, hR] at e; cases e
      rw [rdrop_other hb, rup_other hb]; exact e
  | none => exact q₃.elim
  | bool => exact q₃.elim
  | int => exact q₃.elim
  | ref => exact q₃.elim
end
end Mine

end
section
open PySem PySem.W PyProof.Rows PySem.Spec PySem.SeqAt PySem.Calls
namespace Mine

section
variable {g : Gx} {mg mb : Str → Option Value} (C : g.c.Ok mg mb) (PO : PgOk g.c)
set_option tactic.hygienic false in
theorem each_of {sc : Scope} {nm : List Str} {xs : List X} {es : List PySem.Expr} {A : Around} {R : RR} {V : VV} {env : Env} {e₀ : Env} {l₀ : List Env} {s₀ : Shared} (h : Each (fun x e => XOk g sc nm x e ∧ noStar e = true) xs es) (ev : Ev g A R e₀ l₀) (fr : Frm R env sc nm V) :
    EachX g A R V s₀ env xs es := by
  induction h with
  | nil => exact .nil
  | cons a _ ih => exact .cons ⟨(a.1 A R V env e₀ l₀ s₀ ev fr).1, a.2⟩ ih
set_option tactic.hygienic false in
theorem each_of1 {sc : Scope} {nm : List Str} {xs : List X} {es : List PySem.Expr} {A : Around} {R : RR} {V : VV} {env : Env} {e₀ : Env} {l₀ : List Env} {s₀ : Shared} (h : Each (fun x e => XOk g sc nm x e ∧ noStar e = true) xs es) (ev : Ev g A R e₀ l₀) (fr : Frm R env sc nm V) :
    Each (fun x e => HX g A R V s₀ x (eval e env)) xs es := by
  induction h with
  | nil => exact .nil
  | cons a _ ih => exact .cons (a.1 A R V env e₀ l₀ s₀ ev fr).1 ih
set_option tactic.hygienic false in
theorem each_of2 {sc : Scope} {nm : List Str} {xs : List X} {es : List PySem.Expr} {A : Around} {R : RR} {V : VV} {env : Env} {e₀ : Env} {l₀ : List Env} {s₀ : Shared} (h : Each (fun x e => XOk g sc nm x e ∧ noStar e = true) xs es) (ev : Ev g A R e₀ l₀) (fr : Frm R env sc nm V) :
    Each (fun x e => HT g A R V s₀ x (isTrue e env (eval e env))) xs es := by
  induction h with
  | nil => exact .nil
  | cons a _ ih => exact .cons (a.1 A R V env e₀ l₀ s₀ ev fr).2 ih

theorem XOk.of {sc : Scope} {nm : List Str} {x : X} {e : PySem.Expr} (h : ∀ (A : Around) (R : RR) (V : VV) (env : Env) (e₀ : Env) (l₀ : List Env) (s₀ : Shared), Ev g A R e₀ l₀ → Frm R env sc nm V → HX g A R V s₀ x (eval e env))
    (he : ∀ env whole, isTrue e env whole = (do let v ← whole; standAt e.pos; holding [v] (truthy v))) : XOk g sc nm x e := fun A R V env e₀ l₀ s₀ ev fr =>
  ⟨h A R V env e₀ l₀ s₀ ev fr, HT.plain (h A R V env e₀ l₀ s₀ ev fr) (he _ _)⟩

set_option tactic.hygienic false in
theorem folded_set {iter : PySem.Expr} {env : Env} (h : notSet iter = true) (x : Value) : foldedSetIterable iter env x = pure x := by
  cases iter <;> first | rfl | exact Bool.noConfusion h

include C PO in
mutual
theorem sX : ∀ (x : X) (e : PySem.Expr) (top : Bool) (sc : Scope) (nm : List Str), mtX g.c.P top sc nm x e = true → XOk g sc nm x e
  | .lit v, e, top, sc, nm, h => onConst_ind (m := XOk g sc nm (.lit v)) h fun _ _ _ h => .of (fun _ _ _ _ _ _ _ _ _ => hx_lit h) fun _ _ => rfl
  | .var i, e, top, sc, nm, h => mVar_ind (m := XOk g sc nm (.var i)) h fun _ _ h1 h2 h3 => .of (fun _ _ _ _ _ _ _ _ fr => hx_var fr h1 h2 h3) fun _ _ => rfl
  | .glob n, e, top, sc, nm, h => name_ind (m := XOk g sc nm (.glob n)) h fun _ _ h => .of (fun _ _ _ _ _ _ _ _ fr => hx_glob C PO fr h) fun _ _ => rfl
  | .bin op a b, e, top, sc, nm, h => mBin_ind (m := XOk g sc nm (.bin op a b)) h fun l r p h1 h2 =>
    .of (fun A R V env e₀ l₀ s₀ ev fr => hx_bin C ev (sX a l top sc nm h1 A R V env e₀ l₀ s₀ ev fr).1 (sX b r top sc nm h2 A R V env e₀ l₀ s₀ ev fr).1) fun _ _ => rfl
  | .neg a, e, top, sc, nm, h => mNeg_ind (m := XOk g sc nm (.neg a)) h fun l p h => .of (fun A R V env e₀ l₀ s₀ ev fr => hx_neg (sX a l top sc nm h A R V env e₀ l₀ s₀ ev fr).1) fun _ _ => rfl
  | .not a, e, top, sc, nm, h => mNot_ind (m := XOk g sc nm (.not a)) h fun l p h A R V env e₀ l₀ s₀ ev fr => have z := sX a l top sc nm h A R V env e₀ l₀ s₀ ev fr; ⟨hx_not z.1, ht_not z.2⟩
  | .ao isAnd xs, e, top, sc, nm, h => mAo_ind (m := XOk g sc nm (.ao isAnd xs)) h fun vs p h A R V env e₀ l₀ s₀ ev fr => have z := sXs xs vs top sc nm h; ⟨hx_ao (each_of1 z ev fr), ht_ao (each_of2 z ev fr)⟩
  | .cmp op a b, e, top, sc, nm, h => mCmp_ind (m := XOk g sc nm (.cmp op a b)) h fun l r p h0 h1 h2 A R V env e₀ l₀ s₀ ev fr =>
    have z1 := sX a l top sc nm h1 A R V env e₀ l₀ s₀ ev fr; have z2 := sX b r top sc nm h2 A R V env e₀ l₀ s₀ ev fr; ⟨hx_cmp C ev h0 z1.1 z2.1, ht_cmp C ev h0 z1.1 z2.1⟩
  | .cmp2 op₁ op₂ a b d, e, top, sc, nm, h => mCmp2_ind (m := XOk g sc nm (.cmp2 op₁ op₂ a b d)) h fun l r₁ r₂ p h0 h1 h2 h3 A R V env e₀ l₀ s₀ ev fr =>
    have z1 := sX a l top sc nm h1 A R V env e₀ l₀ s₀ ev fr; have z2 := sX b r₁ top sc nm h2 A R V env e₀ l₀ s₀ ev fr; have z3 := sX d r₂ top sc nm h3 A R V env e₀ l₀ s₀ ev fr; ⟨hx_cmp2 C ev h0 z1.1 z2.1 z3.1, ht_cmp2 C ev h0 z1.1 z2.1 z3.1⟩
  | .sub a i, e, top, sc, nm, h => mSub_ind (m := XOk g sc nm (.sub a i)) h fun v sl p h0 h1 h2 =>
    .of (fun A R V env e₀ l₀ s₀ ev fr => hx_sub C h0 (sX a v top sc nm h1 A R V env e₀ l₀ s₀ ev fr).1 (sX i sl top sc nm h2 A R V env e₀ l₀ s₀ ev fr).1) fun _ _ => rfl
  | .attr a n, e, top, sc, nm, h => mAttr_ind (m := XOk g sc nm (.attr a n)) h fun v p h1 h2 => .of (fun A R V env e₀ l₀ s₀ ev fr => hx_attr C PO h1 (sX a v top sc nm h2 A R V env e₀ l₀ s₀ ev fr).1) fun _ _ => rfl
  | .call f xs, e, top, sc, nm, h => mCall_ind (m := XOk g sc nm (.call f xs)) h fun fe as p h0 h1 h2 => .of (fun _ _ _ _ _ _ _ ev fr => hx_call C PO ev fr h0 h1 (each_of (sXs xs as top sc nm h2) ev fr)) fun _ _ => rfl
  | .new f xs, e, top, sc, nm, h => mCall_ind (m := XOk g sc nm (.new f xs)) h fun fe as p h0 h1 h2 => .of (fun _ _ _ _ _ _ _ ev fr => hx_new C PO ev fr h0 h1 (each_of (sXs xs as top sc nm h2) ev fr)) fun _ _ => rfl
  | .meth a m xs, e, top, sc, nm, h => mMeth_ind (m := XOk g sc nm (.meth a m xs)) h fun o _ as _ h1 h2 h3 h4 h5 => .of (fun A R V env e₀ l₀ s₀ ev fr => hx_meth C PO ev h2 h1 h3 (sX a o top sc nm h4 A R V env e₀ l₀ s₀ ev fr).1 (each_of (sXs xs as top sc nm h5) ev fr)) fun _ _ => rfl
  | .bm a m xs, e, top, sc, nm, h => mMeth_ind (m := XOk g sc nm (.bm a m xs)) h fun o _ as _ h1 h2 h3 h4 h5 => .of (fun A R V env e₀ l₀ s₀ ev fr => hx_bm C ev h2 h1 h3 (sX a o top sc nm h4 A R V env e₀ l₀ s₀ ev fr).1 (each_of (sXs xs as top sc nm h5) ev fr)) fun _ _ => rfl
  | .prim f xs, e, top, sc, nm, h => mCall_ind (m := XOk g sc nm (.prim f xs)) h fun fe as p h0 h1 h2 => .of (fun _ _ _ _ _ _ _ ev fr => hx_prim C PO ev fr h0 h1 (each_of (sXs xs as top sc nm h2) ev fr)) fun _ _ => rfl
  | .isinst a ty, e, top, sc, nm, h => mIsi_ind (m := XOk g sc nm (.isinst a ty)) h fun fe x t p hs h0 h1 h2 h3 h4 => .of (fun A R V env e₀ l₀ s₀ ev fr => hx_isinst C PO fr h0 h1 h2 h3 (sX a x top sc nm h4 A R V env e₀ l₀ s₀ ev fr).1 hs) fun _ _ => rfl
  | .list xs, e, top, sc, nm, h => mList_ind (m := XOk g sc nm (.list xs)) h fun es p h1 h2 => .of (fun _ _ _ _ _ _ _ ev fr => hx_list (each_of (sXs xs es top sc nm h1) ev fr) h2) fun _ _ => rfl
  | .tuple xs, e, top, sc, nm, h => mTup_ind (m := XOk g sc nm (.tuple xs)) h fun es k p h1 h2 => .of (fun _ _ _ _ _ _ _ ev fr => hx_tuple (each_of (sXs xs es top sc nm h1) ev fr) h2) fun _ _ => rfl
  | .dict ks vs, e, top, sc, nm, h => match ks, vs, h with
    | [], [], h => mDict0_ind (m := XOk g sc nm (.dict [] [])) h fun _ => .of (fun _ _ _ _ _ _ _ _ _ => hx_dict0) fun _ _ => rfl
    | [k], [v], h => mDict1_ind (m := XOk g sc nm (.dict [k] [v])) h fun ks' vs' p h1 h2 =>
      onC_ind (m := fun ks' => XOk g sc nm (.dict [k] [v]) (.Dict ks' vs' p)) h1 fun o r h1 => nil_ind (m := fun r => XOk g sc nm (.dict [k] [v]) (.Dict (o :: r) vs' p)) (and2 h1).2
        (onSome_ind (m := fun o => XOk g sc nm (.dict [k] [v]) (.Dict [o] vs' p)) (and2 h1).1 fun a ha =>
        onC_ind (m := fun vs' => XOk g sc nm (.dict [k] [v]) (.Dict [some a] vs' p)) h2 fun b r h2 => nil_ind (m := fun r => XOk g sc nm (.dict [k] [v]) (.Dict [some a] (b :: r) p)) (and2 h2).2
        (.of (fun _ _ _ _ _ _ _ ev fr => hx_dict1 ev fr (sX k a top sc nm ha) (sX v b top sc nm (and2 (and2 h2).1).1)) fun _ _ => rfl))
    | [], _ :: _, h => onDict_ind (m := XOk g sc nm _) h fun _ _ _ h => Bool.noConfusion h
    | [_], [], h => onDict_ind (m := XOk g sc nm _) h fun _ _ _ h => Bool.noConfusion h
    | [_], _ :: _ :: _, h => onDict_ind (m := XOk g sc nm _) h fun _ _ _ h => Bool.noConfusion h
    | _ :: _ :: _, _, h => onDict_ind (m := XOk g sc nm _) h fun _ _ _ h => Bool.noConfusion h
  | .comp x k tup it c, e, top, sc, nm, h => mComp_ind (m := XOk g sc nm (.comp x k tup it c)) h fun elt tg iter ifs csc ts p htg o =>
    .of (fun A R V env e₀ l₀ s₀ ev fr => o.len ▸ hx_comp C htg ev fr o.sc (folded_set o.set) (sX it iter top sc nm o.it A R V env e₀ l₀ s₀ ev fr).1 (sX x elt false _ _ o.x) (sC c ifs _ _ o.c)) fun _ _ => rfl
theorem sC : ∀ (c : Option X) (es : List PySem.Expr) (sc : Scope) (nm : List Str), mtC g.c.P sc nm c es = true → CTests g sc nm c es
  | none, es, sc, nm, h => nil_ind (m := CTests g sc nm none) h .nil
  | some x, es, sc, nm, h => on1_ind (m := CTests g sc nm (some x)) h fun e h => .one (sX x e false sc nm h)
theorem sXs : ∀ (xs : List X) (es : List PySem.Expr) (top : Bool) (sc : Scope) (nm : List Str), mtXs g.c.P top sc nm xs es = true → Each (fun x e => XOk g sc nm x e ∧ noStar e = true) xs es
  | [], es, top, sc, nm, h => nil_ind (m := Each (fun x e => XOk g sc nm x e ∧ noStar e = true) []) h .nil
  | x :: r, es, top, sc, nm, h => onC_ind (m := Each (fun x e => XOk g sc nm x e ∧ noStar e = true) (x :: r)) h fun e q h => .cons ⟨sX x e top sc nm (and2 (and2 h).1).1, (and2 (and2 h).1).2⟩ (sXs r q top sc nm (and2 h).2)
end
end
end Mine

end
section
open PySem PySem.W PyProof.Rows PySem.Spec PySem.SeqAt PySem.Calls
namespace Mine

section
variable {g : Gx} {sc : Scope} {nm : List Str} {mg mb : Str → Option Value}

abbrev XMd (g : Gx) (sc : Scope) (nm : List Str) (x : X) (e : PySem.Expr) : Prop := ∀ md, XOk { g with md := md } sc nm x e

set_option tactic.hygienic false in
theorem te_tx {md : Bool} {R : RR} {env : Env} {V : VV} {s₀ s' : Shared} {E : String → VV → AHeap → Prop} {e : Value} (fr : Frm R env sc nm V) (h : TE { g with md := md } R s₀ (fun cl H => E cl V H) e s') : TX g env sc nm R s₀ E e s' := by
  obtain ⟨a, cl, H', rfl, x, m, q⟩ := h
  exact ⟨a, cl, R, V, H', .none, rfl, .refl, fr, .inr (.inl rfl), x, m, q⟩
set_option tactic.hygienic false in
theorem TF.trans {R R' : RR} {env : Env} {s₀ s' : Shared} {QN : VV → AHeap → Prop} {QR : AV → AHeap → Prop} {f : Flow} (x : RStep env R R') (h : TF g env sc nm R' s₀ QN QR f s') : TF g env sc nm R s₀ QN QR f s' := by
  cases f with
  | next => obtain ⟨R₂, V', H', r, k1, k2, k3, k4⟩ := h; exact ⟨R₂, V', H', x.trans r, k1, k2, k3, k4⟩
  | ret v => obtain ⟨R₂, V', H', r, k1, k2, k3, k4⟩ := h; exact ⟨R₂, V', H', x.trans r, k1, k2, k3, k4⟩
  | brk => exact h
  | cont => exact h
set_option tactic.hygienic false in
theorem TX.trans {R R' : RR} {env : Env} {s₀ s' : Shared} {E : String → VV → AHeap → Prop} {e : Value} (x : RStep env R R') (h : TX g env sc nm R' s₀ E e s') : TX g env sc nm R s₀ E e s' := by
  obtain ⟨a, cl, R₂, V', H', fl, h1, r, k1, k2, k3, k4, k5⟩ := h
  exact ⟨a, cl, R₂, V', H', fl, h1, x.trans r, k1, k2, k3, k4, k5⟩

set_option tactic.hygienic false in
theorem swaps_sub {v o ix : PySem.Expr} {p : Pos} {l : Nat} {env : Env} : swapsWith v (some (.Subscript o ix p)) l env = pure false := by
  cases v <;> rfl
set_option tactic.hygienic false in
theorem swaps_plain {v : PySem.Expr} {t : Option PySem.Expr} {l : Nat} {env : Env} (h : notComp v = true) : swapsWith v t l env = pure false := by
  cases v <;> first | rfl | exact Bool.noConfusion h

set_option tactic.hygienic false in
theorem s_ret {e : X} {v : PySem.Expr} {pos : Pos} (hx : XMd g sc nm e v) : SOk g sc nm (fun g => wpS g (.ret e)) (exec (.Return (some v) pos)) := fun md A env l₀ R V s₀ s H QN QR E ev fr S m q => by
  dsimp only [w_ite, w_ret, w_asg, s_expr', s_raise', s_for', s_while', s_try', s_pass'] at q
  refine wpAny_Return_some (wpAny_mono ((hx md A R V env env l₀ s₀ ev fr).1 H s _ _ S m q) (fun u s' z => ?_) fun _ _ z => te_tx fr z)
  obtain ⟨av, H', hv, S', m', q'⟩ := z
  exact ⟨R, av, H', .refl, hv, S', m', q'⟩

set_option tactic.hygienic false in
theorem s_pass {pos : Pos} : SOk g sc nm (fun g => wpS g .pass) (exec (.Pass pos)) := fun md A env l₀ R V s₀ s H QN QR E ev fr S m q => by
  dsimp only [w_ite, w_ret, w_asg, s_expr', s_raise', s_for', s_while', s_try', s_pass'] at q
  exact wpAny_Pass ⟨R, V, H, .refl, fr, S, m, q⟩

set_option tactic.hygienic false in
theorem s_expr {e : X} {v : PySem.Expr} {pos : Pos} (hn : notComp v = true) (hx : XMd g sc nm e v) : SOk g sc nm (fun g => wpS g (.expr e)) (exec (.Expr v pos)) := fun md A env l₀ R V s₀ s H QN QR E ev fr S m q => by
  dsimp only [w_ite, w_ret, w_asg, s_expr', s_raise', s_for', s_while', s_try', s_pass'] at q
  refine wpAny_Expr_any (wpAny_mono ((hx md A R V env env l₀ s₀ ev fr).1 H s _ _ S m q) (fun u s' z => ?_) fun _ _ z => te_tx fr z) (by unfold interactive; rw [fr.kind]; rfl) (swaps_plain hn)
  obtain ⟨av, H', hv, S', m', q'⟩ := z
  exact ⟨R, V, H', .refl, fr, S', m', q'⟩

set_option tactic.hygienic false in
theorem st_tg {c : Cx} {H : AHeap} {A : Around} {E : Value → Shared → Prop} {env : Env} {Q : Unit → Shared → Prop} {mg mb : Str → Option Value} {t : Tg} {e : PySem.Expr} {x : AV} {u : Value} {R : RR} {V : VV} {s : Shared} {P : VV → Prop} (C : c.Ok mg mb) (hh : A.handled = none) (nd : nm.Nodup) (h : tgOk sc nm t e = true) (hv : VR x u)
    (hw : wtg t x V H P) (fr : Frm R env sc nm V) (S : St c R H s.heap) (q : ∀ s' R' V', P V' → RStep env R R' → Frm R' env sc nm V' → St c R' H s'.heap → Sm s s' → Q () s') : wpAny (model c.prog c.w) A (assign e env u) Q E s := by
  cases t with
  | var i =>
    exact tgt_ind (m := fun e => wpAny (model c.prog c.w) A (assign e env u) Q E s) h fun _ _ h1 h2 => wpAny_assign_Name (st_name fr nd h1 h2 hv S fun s' R' r' f' S' m' => q s' R' _ hw.2 r' f' S' m')
  | tup is => exact Bool.noConfusion (show false = true from h)

set_option tactic.hygienic false in
theorem s_asgn_var {i : Nat} {e : X} {tg v : PySem.Expr} {pos : Pos} (nd : nm.Nodup) (hn : notComp v = true) (ht : tgtOk sc nm i tg = true) (hx : XMd g sc nm e v) : SOk g sc nm (fun g => wpS g (.assign (.var i) e)) (exec (.Assign [tg] v pos)) :=
  fun md A env l₀ R V s₀ s H QN QR E ev fr S m q => by
  dsimp only [w_ite, w_ret, w_asg, s_expr', s_raise', s_for', s_while', s_try', s_pass', tv, tsub, tattr, ttup] at q
  refine tgt_ind (m := fun tg => wpAny (model g.c.prog g.c.w) A (exec (.Assign [tg] v pos) env) (TF g env sc nm R s₀ QN QR) (TX g env sc nm R s₀ E) s) ht fun id p h1 h2 => ?_
  refine wpAny_Assign_Name (wpAny_mono ((hx md A R V env env l₀ s₀ ev fr).1 H s _ _ S m q) (fun u s₁ z => ?_) fun _ _ z => te_tx fr z) (swaps_plain hn)
  obtain ⟨av, H', hv, S', m', _, q'⟩ := z
  exact st_name fr nd h1 h2 hv S' fun s₂ R' r f' S₂ m₂ => ⟨R', _, H', r, f', S₂, m'.trans m₂, q'⟩

set_option tactic.hygienic false in
theorem Frm.drop {R R' : RR} {env : Env} {V V' : VV} {Ca : Addr} (f : Frm R' env sc nm V') (fr : Frm R env sc nm V) (hCa : R Ca = none) : Frm (rdrop R' Ca) env sc nm V' := by
  obtain ⟨k1, k2, k3, k4, k5, k6, k7, kc, kl, k8, ⟨m, n1, n2⟩, k9⟩ := f
  obtain ⟨m', n1', _⟩ := fr.ns
  refine ⟨k1, k2, k3, k4, k5, k6, k7, kc, kl, k8, ⟨m, by rw [rdrop_other (fun z => by rw [z, hCa] at n1'; cases n1')]; exact n1, n2⟩, fun i n hn hk => ?_⟩
  obtain ⟨a, x, v, c1, c2, c3⟩ := k9 i n hn hk
  obtain ⟨a', x', v', c1', c2', c3'⟩ := fr.cell i n hn hk
  rw [c1] at c1'; cases c1'
  exact ⟨a, x, v, c1, by rw [rdrop_other (fun z => by rw [z, hCa] at c2'; cases c2')]; exact c2, c3⟩

set_option tactic.hygienic false in
theorem RStep.drop {env : Env} {R R' : RR} {a : Addr} (x : RStep env R R') : RStep env (rdrop R a) (rdrop R' a) := fun b => by
  by_cases z : b = a
  · subst z; left; rw [rdrop_same, rdrop_same]
  · rw [rdrop_other z, rdrop_other z]; exact x b

set_option tactic.hygienic false in
theorem s_asgn_comp {i : Nat} {x it : X} {c : Option X} {tg ctg elt iter : PySem.Expr} {ifs : List PySem.Expr} {tup : Bool} {ts : List Str} {csc : Scope} {pos spos : Pos} (C : g.c.Ok mg mb) (htg : TgN ctg tup ts) (nd : nm.Nodup) (ht : tgtOk sc nm i tg = true) (hm : compScOk sc csc nm ts = true)
    (hf : notSet iter = true) (hit : XMd g sc nm it iter) (hx : ∀ md, XOk { g with md := md } csc (hideN nm ts ++ ts) x elt) (hc : ∀ md, CTests { g with md := md } csc (hideN nm ts ++ ts) c ifs)
    (hcm : XMd g sc nm (.comp x ts.length tup it c) (.ListComp elt [⟨ctg, iter, ifs, 0⟩] csc pos)) : SOk g sc nm (fun g => wpS g (.assign (.var i) (.comp x ts.length tup it c))) (exec (.Assign [tg] (.ListComp elt [⟨ctg, iter, ifs, 0⟩] csc pos) spos)) :=
  fun md A env l₀ R V s₀ s H QN QR E ev fr S m q => by
  dsimp only [w_ite, w_ret, w_asg, s_expr', s_raise', s_for', s_while', s_try', s_pass', tv, tsub, tattr, ttup] at q
  refine tgt_ind (m := fun tg => wpAny (model g.c.prog g.c.w) A (exec (.Assign [tg] (.ListComp elt [⟨ctg, iter, ifs, 0⟩] csc pos) spos) env) (TF g env sc nm R s₀ QN QR) (TX g env sc nm R s₀ E) s) ht fun id p h1 h2 => ?_
  obtain ⟨b, hsw⟩ : ∃ b, swapsWith (.ListComp elt [⟨ctg, iter, ifs, 0⟩] csc pos) (some (.Name id p)) spos.line env = pure b := ⟨_, rfl⟩
  cases b with
  | false =>
    refine wpAny_Assign_Name (wpAny_mono ((hcm md A R V env env l₀ s₀ ev fr).1 H s _ _ S m q) (fun u s₁ z => ?_) fun _ _ z => te_tx fr z) hsw
    obtain ⟨av, H', hv, S', m', _, q'⟩ := z
    exact st_name fr nd h1 h2 hv S' fun s₂ R' r f' S₂ m₂ => ⟨R', _, H', r, f', S₂, m'.trans m₂, q'⟩
  | true =>
    dsimp only [x_lit, x_var, x_bin, x_neg, x_not, x_ao, x_cmp, x_cmp2, x_sub, x_glob, x_call, x_prim, x_bm, x_isi, x_list, x_tup, x_new, x_dict0, x_dict1, x_attr, x_meth, x_comp] at q
    obtain ⟨hmd, q⟩ := q
    rw [exec_Assign_Name_used _ _ _ _ hsw]
    refine wpAny_bind (wpAny_standAt (wpAny_bind ?_))
    show wpAny _ A (do let _ ← comprehension (.ListComp elt [⟨ctg, iter, ifs, 0⟩] csc pos) csc env _ (newList []) false (eval iter env) (some (assign (.Name id p) env))) _ _ s
    refine wpAny_bind (wpAny_mono (wpAny_comprehension_free (use := some (assign (.Name id p) env)) (Q := fun _ s' => TF g env sc nm R s₀ QN QR .next s') rfl (folded_set hf) (comp_clos fr hm) (comp_sc hm).1 (comp_sc hm).2.2 ?_)
      (fun _ s' hq => wpAny_pure (wpAny_pure hq)) fun _ _ e => e)
    refine wpAny_mono ((hit md A R V env env l₀ s₀ ev fr).1 H s _ (fun cl H => E cl V H) S m q) (fun u s₁ z => ?_) fun _ _ z => te_tx fr z
    obtain ⟨av, H₁, hv, S₁, m₁, xs, hxs, hz, I, hI, hstep⟩ := z
    refine comp_block (g := { g with md := md }) (I := I) (RR' := fun acc Ca => compPost (model g.c.prog g.c.w) A (TX g env sc nm R s₀ E) (some (assign (.Name id p) env)) (fun _ s' => TF g env sc nm R s₀ QN QR .next s') acc Ca) C htg (ev.aok.hand hmd) ev fr hm (hx md) (hc md) hv S₁ m₁ hxs hz hI (fun k acc H' hi => ⟨(hstep k acc H' hi).1, (hstep k acc H' hi).2.2⟩) ?_
    intro D Ca acc H' s' m' hCa hi hd S' ms'
    have f₁ : Frm (rup R Ca (.ns m')) env sc nm V := fr.congr fun b hb => rup_other fun z => by
      rw [z] at hb; rcases hb with ⟨_, hb⟩ | ⟨_, hb⟩ <;> (rw [hCa] at hb; cases hb)
    show wpAny _ A (assign (.Name id p) env (.ref D)) _ _ _
    refine wpAny_assign_Name (st_name f₁ nd h1 h2 (.ref D) S' fun s₂ R' r f' S₂ m₂ => ?_)
    obtain ⟨m'', hm''⟩ := r.ns rup_same
    refine ⟨m'', (S₂.res Ca _ hm'').2, fun h' hs' => ?_⟩
    have hRR : rdrop (rup R Ca (.ns m')) Ca = R := by
      funext b
      by_cases z : b = Ca
      · subst z; rw [rdrop_same, hCa]
      · rw [rdrop_other z, rup_other z]
    have rd := r.drop (a := Ca)
    rw [hRR] at rd
    exact ⟨rdrop R' Ca, _, _, rd, f'.drop fr hCa, S₂.dropAny hm'' hs'.extBut (by rw [hs'.1]; exact S₂.size), (ms'.trans m₂).heap _, ((hstep _ acc H' hi).2.1 rfl D hd).2⟩

set_option tactic.hygienic false in
theorem s_if {c : X} {a b : List S} {t : PySem.Expr} {x y : List Stmt} {pos : Pos} (hc : XMd g sc nm c t) (ha : SOk g sc nm (fun g => wpSs g a) (execs x)) (hb : SOk g sc nm (fun g => wpSs g b) (execs y)) :
    SOk g sc nm (fun g => wpS g (.ite c a b)) (exec (.If t x y pos)) := fun md A env l₀ R V s₀ s H QN QR E ev fr S m q => by
  dsimp only [w_ite, w_ret, w_asg, s_expr', s_raise', s_for', s_while', s_try', s_pass'] at q
  refine wpAny_If (wpAny_mono ((hc md A R V env env l₀ s₀ ev fr).2 H s (fun _ t H => if t then wpSs { g with md := md } a QN QR E V H else wpSs { g with md := md } b QN QR E V H) (fun cl H => E cl V H) S m q) (fun u s' z => ?_) fun _ _ z => te_tx fr z)
  obtain ⟨v, H', S', m', q', _⟩ := z
  cases u with
  | true => exact ha md A env l₀ R V s₀ s' H' QN QR E ev fr S' m' (by simpa using q')
  | false => exact hb md A env l₀ R V s₀ s' H' QN QR E ev fr S' m' (by simpa using q')

set_option tactic.hygienic false in
theorem ss_nil : SOk g sc nm (fun g => wpSs g []) (execs []) := fun md A env l₀ R V s₀ s H QN QR E ev fr S m q => by
  dsimp only [w_nil, w_cons] at q
  exact wpAny_execs_nil ⟨R, V, H, .refl, fr, S, m, q⟩
set_option tactic.hygienic false in
theorem ss_cons {st : S} {r : List S} {t : Stmt} {u : List Stmt} (h : SOk g sc nm (fun g => wpS g st) (exec t)) (hr : SOk g sc nm (fun g => wpSs g r) (execs u)) : SOk g sc nm (fun g => wpSs g (st :: r)) (execs (t :: u)) :=
  fun md A env l₀ R V s₀ s H QN QR E ev fr S m q => by
  dsimp only [w_nil, w_cons] at q
  refine wpAny_execs_cons (wpAny_mono (h md A env l₀ R V s₀ s H _ QR E ev fr S m q) (fun f s' z => ?_) fun _ _ z => z)
  cases f with
  | next =>
    obtain ⟨R', V', H', r', f', S', m', q'⟩ := z
    exact wpAny_mono (hr md A env l₀ R' V' s₀ s' H' QN QR E (ev.step r') f' S' m' q') (fun _ _ z => z.trans r') fun _ _ z => z.trans r'
  | ret v => exact z
  | brk => exact z
  | cont => exact z

theorem came_back {M : Model} {A : Around} {env : Env} {R : RR} {H : AHeap} {a : Addr} {cl : String} {s : Shared} {E : Value → Shared → Prop} (hf : env.frame = some env.locals) (X : ExcSt g.c R H a cl (rawInt env.locals) s.heap)
    (q : ∀ h', ExcSt g.c R H a cl (rawInt env.locals) h' → E (.ref a) { s with heap := h' }) : cameBackBy M A env E (.ref a) s := by
  unfold cameBackBy
  have X' := X
  obtain ⟨H₁, ⟨st, re, he, be, ob, kn⟩, _⟩ := X'
  cases ob with
  | traced h1 h2 h3 h4 h5 h6 h7 h8 h9 h10 h11 h12 h13 =>
    rename_i oe vs T oT ts a0
    refine wpAny_bind (wpAny_field h1 h3 h5 ?_)
    rw [if_neg (show ¬ ((Value.ref T == Value.none) = true) from by simp)]
    rw [hf]
    exact exc_flight X (by simp [rawInt]) fun h' X₂ => q h' X₂

set_option tactic.hygienic false in
theorem noted_came {md : Bool} {A : Around} {env : Env} {l₀ : List Env} {R : RR} {s₀ s : Shared} {E : String → VV → AHeap → Prop} {e : Value} {M : Model} (ev : Ev { g with md := md } A R env l₀) (h : TX g env sc nm R s₀ E e s) :
    notedBy M A env (fun e s' => cameBackBy M A env (TX g env sc nm R s₀ E) e s') e s := by
  obtain ⟨a, cl, R', V', H', fl, rfl, r, fr, hfl, X, m, q⟩ := h
  refine exc_note ev.aok.frames (r.stk ev.stk) X hfl fun h₁ X₁ => ?_
  refine came_back (g := g) (s := { s with heap := h₁ }) (ev.stk env (.head _)).frame X₁ fun h₂ X₂ => ?_
  exact ⟨a, cl, R', V', H', _, rfl, r, fr, .inr (.inr rfl), X₂, m.trans ⟨_, _, rfl⟩, q⟩

set_option tactic.hygienic false in
theorem s_while {c : X} {b : List S} {t : PySem.Expr} {x : List Stmt} {pos : Pos} (hc : XMd g sc nm c t) (hb : SOk g sc nm (fun g => wpSs g b) (execs x)) : SOk g sc nm (fun g => wpS g (.while c b)) (exec (.While t x [] pos)) :=
  fun md A env l₀ R V s₀ s H QN QR E ev fr S m q => by
  dsimp only [s_while', WWhile] at q
  obtain ⟨_, I, ⟨n, hI⟩, hstep⟩ := q
  refine wpAny_While (codeAny_whileLoop (fun n s => ∃ R' V' H', RStep env R R' ∧ Frm R' env sc nm V' ∧ St g.c R' H' s.heap ∧ Sm s₀ s ∧ I n V' H') ?_ n ⟨R, V, H, .refl, fr, S, m, hI⟩)
  rintro n s₁ ⟨R', V', H', r, f', S', m', hi⟩
  have ev' := ev.step r
  refine wpAny_mono ((hc md A R' V' env env l₀ s₀ ev' f').2 H' s₁ (fun _ b₁ H'' => if b₁ then wpSs { g with md := md } b (fun V₂ H₂ => ∃ m, m < n ∧ I m V₂ H₂) QR E V' H'' else QN V' H'') (fun cl H => E cl V' H) S' m' (hstep n V' H' hi)) (fun u s₂ z => ?_) fun _ _ z => noted_came ev (TX.trans r (te_tx f' z))
  obtain ⟨v, H₂, S₂, m₂, q₂, _⟩ := z
  cases u with
  | true =>
    dsimp only [if_true] at q₂ ⊢
    refine wpAny_mono (hb md A env l₀ R' V' s₀ s₂ H₂ _ QR E ev' f' S₂ m₂ q₂) (fun fl s₃ z => ?_) fun _ _ z => noted_came ev (TX.trans r z)
    cases fl with
    | next =>
      obtain ⟨R₃, V₃, H₃, r₃, f₃, S₃, m₃, k, hk, q₃⟩ := z
      exact ⟨k, hk, R₃, V₃, H₃, r.trans r₃, f₃, S₃, m₃, q₃⟩
    | ret v => exact TF.trans r z
    | brk => exact z.elim
    | cont => exact z.elim
  | false =>
    dsimp only [Bool.false_eq_true, if_false] at q₂ ⊢
    exact wpAny_execs_nil ⟨R', V', H₂, r, f', S₂, m₂, q₂⟩

inductive ForI (c : Cx) (env : Env) (sc : Scope) (nm : List Str) (R : RR) (s₀ : Shared) (a : Addr) (av : AV) (l : Nat) (I : Nat → VV → AHeap → Prop) (n : Nat) (s : Shared) : Prop
  | mk (k : Nat) (R' : RR) (V' : VV) (H' : AHeap) (o' : Obj) (hn : n = l - k) (hk : k ≤ l) (hR : R' a = some (.obj o')) (it : ItObj H' av k o') (r : RStep env R (rdrop R' a)) (f : Frm R' env sc nm V') (S : St c R' H' s.heap) (m : Sm s₀ s) (q : I k V' H') : ForI c env sc nm R s₀ a av l I n s
theorem s_for {t : Tg} {it : X} {b : List S} {tg iter : PySem.Expr} {x : List Stmt} {pos : Pos} (C : g.c.Ok mg mb) (nd : nm.Nodup) (hn : notSet iter = true) (ht : tgOk sc nm t tg = true) (hi : XMd g sc nm it iter) (hb : SOk g sc nm (fun g => wpSs g b) (execs x)) :
    SOk g sc nm (fun g => wpS g (.for t it b)) (exec (.For tg iter x [] pos)) := fun md A env l₀ R V s₀ s H QN QR E ev fr S m q => by
  dsimp only [w_ite, w_ret, w_asg, s_expr', s_raise', s_for', s_while', s_try', s_pass'] at q
  obtain ⟨hmd, q⟩ := q
  subst hmd
  · refine wpAny_For (wpAny_mono ((hi true A R V env env l₀ s₀ ev fr).1 H s _ (fun cl H => E cl V H) S m q) (fun u s₁ z => ?_) fun _ _ z => te_tx fr z) (folded_set hn)
    obtain ⟨av, H₁, hv, S₁, m₁, xs, hxs, I, hI, hstep⟩ := z
    refine it_new C hv S₁ hxs fun s₂ a o ha hHa ho S₂ m₂ => ?_
    have hsv : ∀ y, av = .str y → PyData.strOk y = true := by rintro y rfl; cases hv; assumption
    have hna : ∀ b, (∃ m, R b = some (.ns m)) ∨ (∃ x, R b = some (.cell x)) → b ≠ a := by rintro b (⟨m, h⟩ | ⟨m, h⟩) rfl <;> (rw [ha] at h; cases h)
    have ft : Frm (rup R a (.obj o)) env sc nm V := fr.congr fun b hb => rup_other (hna b hb)
    refine codeAny_forLoop_any (ForI g.c env sc nm R s₀ a av xs.length I) ?_ xs.length
      ⟨0, rup R a (.obj o), V, H₁, o, by omega, Nat.zero_le _, rup_same, ho, fun b => .inl ?_, ft, S₂, m₁.trans m₂, hI⟩
    · rintro n s₃ ⟨k, R', V', H', o', hn', hk, hR', hit, hrs, f', S', m', hi'⟩
      obtain ⟨hsame, hend, hturn⟩ := hstep k V' H' hi'
      have hxs' : itemsOf H' av = some xs := by
        rw [← hxs]
        cases av with
        | ref a' => simp only [sameIt] at hsame; dsimp only [itemsOf]; rw [hsame]
        | _ => rfl
      have hdrop : ∀ R₂ : RR, RStep env R (rdrop R₂ a) → Stk R₂ (env :: l₀) := fun R₂ r e he => by
        have F := ev.stk e he
        obtain ⟨mm, hm⟩ := F.ns
        obtain ⟨m', hm'⟩ := r.ns hm
        exact ⟨F.kind, F.frame, F.gen, F.co, F.blt, F.glob, m', rdrop_le _ _ hm'⟩
      have evd : ∀ R₂ : RR, RStep env R (rdrop R₂ a) → Ev { g with md := true } A R₂ env l₀ := fun R₂ r => ⟨ev.aok, hdrop R₂ r⟩
      have frd : ∀ {R₂ : RR} {V₂ : VV} {o₂ : Obj}, R₂ a = some (.obj o₂) → Frm R₂ env sc nm V₂ → Frm (rdrop R₂ a) env sc nm V₂ := fun {R₂ V₂ o₂} h f => f.congr fun b hb => rdrop_other fun z => by
        rw [z, h] at hb; rcases hb with ⟨_, hb⟩ | ⟨_, hb⟩ <;> cases hb
      have fin : ∀ {e : Value} {s' : Shared} {R₂ : RR} {o₂ : Obj}, R₂ a = some (.obj o₂) → RStep env R (rdrop R₂ a) → TX g env sc nm R₂ s₀ E e s' → TX g env sc nm R s₀ E e s' := by
        rintro e s' R₂ o₂ h r ⟨b, cl, R₃, V₃, H₃, fl, e1, r₃, f₃, hfl, X, m, q⟩
        exact ⟨b, cl, rdrop R₃ a, V₃, H₃, fl, e1, r.trans r₃.drop, frd (r₃.obj h) f₃, hfl, X.weaken rdrop_le, m, q⟩
      rcases Nat.lt_or_ge k xs.length with hlt | hge
      · obtain ⟨xv, hx⟩ : ∃ xv, xs[k]? = some xv := ⟨xs[k], by simp [hlt]⟩
        refine it_item hxs' hx hit hR' S' hsv fun s₄ u₄ o₂ hvx ho₂ S₄ m₄ => ?_
        have r₄ : RStep env R (rdrop (rup R' a (.obj o₂)) a) := by
          have : rdrop (rup R' a (.obj o₂)) a = rdrop R' a := by
            funext b
            by_cases z : b = a
            · subst z; rw [rdrop_same, rdrop_same]
            · rw [rdrop_other z, rdrop_other z, rup_other z]
          rw [this]; exact hrs
        have f₄ : Frm (rup R' a (.obj o₂)) env sc nm V' := f'.congr fun b hb => rup_other fun z => by
          rw [z, hR'] at hb; rcases hb with ⟨_, hb⟩ | ⟨_, hb⟩ <;> cases hb
        have hst := hturn xv hx
        refine owned_it ho₂ ((S₄.res _ _ rup_same).2) ?_
        refine st_tg C (ev.aok.hand rfl) nd ht hvx hst f₄ S₄ fun s₅ R₅ V₅ hst r₅ f₅ S₅ m₅ => ?_
        have h₅ := r₅.obj (rup_same (R := R'))
        have rr := r₄.trans r₅.drop
        refine wpAny_mono (hb true A env l₀ R₅ _ s₀ s₅ H' _ QR E (evd R₅ rr) f₅ S₅ ((m'.trans m₄).trans m₅) hst) (fun fl s₆ z => ?_) fun _ _ z => noted_came ev (fin h₅ rr z)
        cases fl with
        | next =>
          obtain ⟨R₆, V₆, H₆, r₆, f₆, S₆, m₆, q₆⟩ := z
          refine ⟨xs.length - (k + 1), by omega, k + 1, R₆, V₆, H₆, o₂, rfl, by omega, r₆.obj h₅, ?_, rr.trans r₆.drop, f₆, S₆, m₆, q₆⟩
          have hs6 := (hstep (k + 1) V₆ H₆ q₆).1
          cases av with
          | ref a' =>
            simp only [sameIt] at hsame hs6
            exact ho₂.same (by simp only [sameIt]; rw [hs6, hsame])
          | str y => exact ho₂
          | _ => exact ho₂
        | ret v =>
          obtain ⟨R₆, av₆, H₆, r₆, hv₆, S₆, m₆, q₆⟩ := z
          exact ⟨rdrop R₆ a, av₆, H₆, rr.trans r₆.drop, hv₆, S₆.weaken rdrop_le, m₆, q₆⟩
        | brk => exact z.elim
        | cont => exact z.elim
      · obtain ⟨mm, hmm, _⟩ := f'.ns
        refine it_end (ev.aok.hand rfl) hxs' (by simp; omega) hit hR' hmm S' fun s₄ S₄ m₄ => ?_
        exact wpAny_execs_nil ⟨rdrop R' a, V', H', hrs, frd hR' f', S₄, m'.trans m₄, hend (by omega)⟩
    · by_cases z : b = a
      · subst z; rw [rdrop_same, ha]
      · rw [rdrop_other z, rup_other z]
end
end Mine

end
section
open PySem PySem.W PyProof.Rows PySem.Spec PySem.SeqAt PySem.Calls
namespace Mine

section
variable {g : Gx} {sc : Scope} {nm : List Str} {mg mb : Str → Option Value}

theorem DRs.store {es : List (Str × AV)} {kvs : List (Str × Value)} (h : DRs es kvs) {k : Str} {x : AV} {u : Value} (hk : PyData.strOk k = true) (hv : VR x u) : DRs (putS es k x) (stored kvs k u) := by
  have ha : (lookS es k).isSome = kvs.any (fun kv => kv.1 = k) := by
    induction h with
    | nil => rfl
    | cons h1 h2 _ ih =>
      unfold lookS at ih ⊢
      rw [List.find?_cons, List.any_cons]
      split
      · rename_i z; simp at z; simp [z]
      · rename_i z; simp at z; rw [ih]; simp [z]
  unfold putS stored
  rw [ha]
  split
  · clear ha
    rename_i z; clear z
    induction h with
    | nil => exact .nil
    | cons h1 h2 _ ih =>
      rename_i k' a v as vs _
      simp only [List.map_cons]
      by_cases z : k' = k
      · simp only [z, if_true]; exact .cons hk hv ih
      · simp only [z, if_false]; exact .cons h1 h2 ih
  · clear ha
    rename_i z; clear z
    induction h with
    | nil => exact .cons hk hv .nil
    | cons h1 h2 _ ih => exact .cons h1 h2 ih

set_option tactic.hygienic false in
theorem s_setitem {A : Around} {R : RR} {H : AHeap} {s s₀ : Shared} {E : Value → Shared → Prop} {p : Addr} {k : Str} {t : Tok} {ep : Nat} {es : List (Str × AV)} {x : AV} {u : Value} {Q : Unit → Shared → Prop} (hv : VR x u) (hk : PyData.strOk k = true) (e : H p = some (.dict ep es)) (hz : es.length ≤ sizeLine)
    (S : St g.c R H s.heap) (m : Sm s₀ s) (q : ∀ s' ep', St g.c R (up H p (.dict ep' (putS es k x))) s'.heap → Sm s₀ s' → Q () s') : wpAny (model g.c.prog g.c.w) A (setItem (.ref p) (.str k t) u) Q E s := by
  obtain ⟨kvs, hd, hr⟩ := isDict_of S e
  refine wpAny_setItem_pairs (strKind_is _ _ k t) hd.dictOf (fun h' hd' hs => ?_) (by rw [hr.length]; exact hz)
  obtain ⟨ep', hat⟩ := hd'.dictAt
  exact q _ ep' (S.setObj e (by intro _ _ z; cases z) hs fun D => ⟨_, hat, hr.store hk hv⟩) (m.step _ _)

set_option tactic.hygienic false in
theorem swaps_attr {v o : PySem.Expr} {n : Str} {p : Pos} {l : Nat} {env : Env} : swapsWith v (some (.Attribute o n p)) l env = pure false := by
  cases v <;> rfl
set_option tactic.hygienic false in
theorem s_setlist {A : Around} {R : RR} {H : AHeap} {s s₀ : Shared} {E : Value → Shared → Prop} {p : Addr} {j : Int} {t : Tok} {xs : List AV} {x : AV} {u : Value} {Q : Unit → Shared → Prop} (hv : VR x u) (e : H p = some (.list xs)) (h0 : 0 ≤ j) (h1 : j < xs.length) (hz : xs.length < 2 ^ 62)
    (S : St g.c R H s.heap) (m : Sm s₀ s) (q : ∀ s', St g.c R (up H p (.list (xs.set j.toNat x))) s'.heap → Sm s₀ s' → Q () s') : wpAny (model g.c.prog g.c.w) A (setItem (.ref p) (.int j t) u) Q E s := by
  obtain ⟨vs, n, k1, k2, k3⟩ := isList_of S e
  have hl := k2.length
  have hfin : ∀ i : Nat, i = j.toNat → Q () { s with heap := s.heap.update p (Obj.mapSeq (·.setIfInBounds i u)) } := by
    rintro i rfl
    have hg : ∃ n', (s.heap.update p (Obj.mapSeq (·.setIfInBounds j.toNat u))).get? p = some (listOf (vs.toArray.setIfInBounds j.toNat u) n') := ⟨_, Heap.get?_update_self (Obj.mapSeq (·.setIfInBounds j.toNat u)) k1 rfl⟩
    obtain ⟨n', hg⟩ := hg
    rw [List.setIfInBounds_toArray] at hg
    exact q _ (S.setObj (o' := .list (xs.set j.toNat x)) e (by intro _ _ z; cases z) (Heap.SameBut.update ..) fun D => ⟨vs.set j.toNat u, n', hg, k2.set hv _⟩) (m.heap _)
  unfold setItem
  try with_reducible refine wpAny_holding ?_
  refine wpAny_bind (wpAny_sequenceKey k3.typeIs (by decide) ?_)
  refine wpAny_bind (wpAny_callSpecial?_slot (name := Str.ofString "__setitem__") k3.typeIs PySem.F.slot_list_setitem
    (wpAny_call_entry PySem.F.slot_list_setitem k3.typeIs PySem.F.entry_list_setitem ?_ (PySem.F.args_list_setitem_3 _ _ _)))
  show wpAny _ _ (Builtin.List.listSubscript? (.int j t) >>= _) _ _ s
  refine wpAny_bind (wpAny_listSubscript_int (fitsIndex_of h0 (by omega)) ?_)
  obtain ⟨i, rfl⟩ := Int.eq_ofNat_of_zero_le h0
  have hj : i < vs.toArray.size := by simp only [List.size_toArray]; omega
  have hx' : vs.toArray[i]? = some vs.toArray[i] := Array.getElem?_eq_getElem hj
  show wpAny _ _ ((seqItemAt p i >>= fun r => pure (r.map (i, ·))) >>= _) _ _ s
  refine wpAny_bind (wpAny_bind (wpAny_seqItemAt k1 rfl (wpAny_pure ?_)))
  rw [hx']
  show wpAny _ _ (setSeqItemAt p i u >>= _) _ _ s
  refine wpAny_bind (wpAny_setSeqItemAt k1 rfl ?_)
  first
    | exact wpAny_bind (wpAny_pure (wpAny_pure ⟨.none, rfl, wpAny_pure (hfin i rfl)⟩))
    | exact wpAny_pure ⟨.none, rfl, wpAny_pure (hfin i rfl)⟩

theorem s_asgn_sub {a i : X} {e : X} {o ix v : PySem.Expr} {p pos : Pos} (hns : noSlice ix = true) (ha : XMd g sc nm a o) (hi : XMd g sc nm i ix) (hx : XMd g sc nm e v) : SOk g sc nm (fun g => wpS g (.assign (.sub a i) e)) (exec (.Assign [.Subscript o ix p] v pos)) :=
  fun md A env l₀ R V s₀ s H QN QR E ev fr S m q => by
  dsimp only [w_ite, w_ret, w_asg, s_expr', s_raise', s_for', s_while', s_try', s_pass', tv, tsub, tattr, ttup] at q
  refine wpAny_Assign_Subscript (wpAny_mono ((hx md A R V env env l₀ s₀ ev fr).1 H s _ _ S m q) (fun u s₁ z => ?_) fun _ _ z => te_tx fr z) swaps_sub
  obtain ⟨av, H₁, hv, S₁, m₁, q₁⟩ := z
  refine wpAny_mono ((ha md A R V env env l₀ s₀ ev fr).1 H₁ s₁ _ _ S₁ m₁ q₁) (fun ov s₂ z => ?_) fun _ _ z => te_tx fr z
  obtain ⟨ao, H₂, ho, S₂, m₂, q₂⟩ := z
  refine wpAny_mono ((hi md A R V env env l₀ s₀ ev fr).1 H₂ s₂ _ _ S₂ m₂ q₂) (fun iv s₃ z => ?_) fun _ _ z => te_tx fr z
  obtain ⟨ai, H₃, hiv, S₃, m₃, q₃⟩ := z
  split at q₃
  · cases ho
    cases hiv with
    | str k t hk =>
    split at q₃
    · rename_i ep es e
      exact s_setitem hv hk e q₃.1 S₃ m₃ fun s' ep' S' m' => ⟨R, V, _, .refl, fr, S', m', q₃.2 ep'⟩
    · exact q₃.elim
  · cases ho
    cases hiv with
    | int j t =>
    split at q₃
    · rename_i xs e
      exact s_setlist hv e q₃.1 q₃.2.1 q₃.2.2.1 S₃ m₃ fun s' S' m' => ⟨R, V, _, .refl, fr, S', m', q₃.2.2.2⟩
    · exact q₃.elim
  · exact q₃.elim

noncomputable def putR (n : String) (a : AV) : List (String × AV) → List (String × AV)
  | [] => [(n, a)]
  | (k, b) :: r => if k = n then (k, a) :: r else (k, b) :: putR n a r
set_option tactic.hygienic false in
theorem putA_R {n : String} {a : AV} : ∀ {es : List (String × AV)}, (es.map (·.1)).Nodup → putA es n a = putR n a es
  | [], _ => rfl
  | (k, b) :: r, nd => by
    rw [List.map_cons, List.nodup_cons] at nd
    have ih := putA_R (n := n) (a := a) nd.2
    unfold putA at *
    rw [putR]
    by_cases z : k = n
    · have h2 : (lookA ((k, b) :: r) n).isSome = true := by simp [lookA, z]
      rw [h2, if_pos rfl, if_pos z, List.map_cons, if_pos z]
      congr 1
      refine (List.map_congr_left fun e he => ?_).trans (List.map_id r)
      have hne : e.1 ≠ n := fun w => nd.1 (by show k ∈ _; rw [z, ← w]; exact List.mem_map.mpr ⟨e, he, rfl⟩)
      rw [if_neg hne]; rfl
    · have h2 : (lookA ((k, b) :: r) n).isSome = (lookA r n).isSome := by simp [lookA, z]
      rw [h2, if_neg z, ← ih]
      split
      · rw [List.map_cons, if_neg z]
      · rfl
set_option tactic.hygienic false in
theorem attrs_put {n : String} {hsh : Int} {t : Tok} {a : AV} {v : Value} (hv : VR a v) : ∀ {es : List (String × AV)} {ents : List DictEntry}, attrsAre es ents → attrsAre (putR n a es) (putL (Str.ofString n) hsh (.str (Str.ofString n) t) v ents)
  | [], [], _ => ⟨⟨t, rfl⟩, hv, trivial⟩
  | (k, b) :: r, e :: q, h => by
    obtain ⟨⟨t', hk⟩, hb, hr⟩ := h
    have ih := attrs_put (n := n) (hsh := hsh) (t := t) hv hr
    unfold putR putL
    by_cases z : k = n
    · have h1 : e.key.isStr (Str.ofString n) = true := by rw [hk, z]; simp [Value.isStr]
      rw [h1, if_pos rfl, if_pos z]
      exact ⟨⟨t', hk⟩, hv, hr⟩
    · have h1 : e.key.isStr (Str.ofString n) = false := by
        rw [hk]
        show (Str.ofString k == Str.ofString n) = false
        rw [beq_eq_false_iff_ne]
        exact fun w => z (ofString_inj w)
      rw [h1, if_neg Bool.false_ne_true, if_neg z]
      exact ⟨⟨t', hk⟩, hb, ih⟩
  | [], _ :: _, h => h.elim
  | _ :: _, [], h => h.elim
theorem attrs_len : ∀ {es : List (String × AV)} {ents : List DictEntry}, attrsAre es ents → ents.length = es.length
  | [], [], _ => rfl
  | _ :: _, _ :: _, h => congrArg Nat.succ (attrs_len h.2.2)
  | [], _ :: _, h => h.elim
  | _ :: _, [], h => h.elim
set_option tactic.hygienic false in
theorem putL_len {n : Str} {hsh : Int} {k v : Value} : ∀ {ents : List DictEntry}, (putL n hsh k v ents).length ≤ ents.length + 1
  | [] => Nat.le_refl _
  | e :: r => by
    unfold putL
    split
    · exact Nat.le_succ _
    · exact Nat.succ_le_succ putL_len

theorem put_nodup {es : List (String × AV)} {n : String} {a : AV} (nd : (es.map (·.1)).Nodup) : ((putA es n a).map (·.1)).Nodup := by
  unfold putA
  split
  · rw [List.map_map, show ((fun x : String × AV => x.1) ∘ fun e => if e.1 = n then (e.1, a) else e) = (·.1) from by funext e; simp only [Function.comp]; split <;> rfl]
    exact nd
  · rename_i h
    rw [List.map_append, List.nodup_append]
    refine ⟨nd, by simp, fun x hx y hy => ?_⟩
    simp only [List.map_cons, List.map_nil, List.mem_singleton] at hy
    subst hy
    rintro rfl
    apply h
    obtain ⟨e, he, rfl⟩ := List.mem_map.mp hx
    unfold lookA
    rw [Option.isSome_map, List.find?_isSome]
    exact ⟨e, he, by simp⟩

set_option tactic.hygienic false in
theorem s_setattr {A : Around} {R : RR} {H : AHeap} {s s₀ : Shared} {E : Value → Shared → Prop} {p : Addr} {n cl : String} {es : List (String × AV)} {x : AV} {u : Value} {Q : Unit → Shared → Prop} (C : g.c.Ok mg mb) (PO : PgOk g.c) (hv : VR x u) (e : H p = some (.inst cl es)) (hat : g.c.P.attrs.contains (cl, n) = true) (hz : es.length ≤ 100)
    (S : St g.c R H s.heap) (m : Sm s₀ s) (q : ∀ s', St g.c R (up H p (.inst cl (putA es n x))) s'.heap → Sm s₀ s' → Q () s') : wpAny (model g.c.prog g.c.w) A (setAttr (.ref p) (Str.ofString n) u) Q E s := by
  obtain ⟨c1, c2, c3, c4, c5, c6⟩ := PO.attr cl n hat
  obtain ⟨d, ents, k, x1, x2, x3, x4, x5⟩ := S.setAttr e
  have X := C.kin.keeps S.stays
  have I : InstAt s.heap p (instObj (g.c.ca cl) d) (g.c.ca cl) (some (dictOf ents k)) := ⟨x1, rfl, rfl, x2⟩
  obtain ⟨f1, f2⟩ := attrs_find (n := n) x3
  have hlen := attrs_len x3
  obtain ⟨cd, hc, hd'⟩ := any_some c2
  refine set_plain X I c4 ?_
  refine osa_open X (⟨x1, rfl, rfl, x2⟩ : InstAt s.heap p (instObj (g.c.ca cl) d) (g.c.ca cl) (some (dictOf ents k))) c5 c6 fun b => ?_
  refine wpAny_bind (wpAny_pure (wpAny_bind (wpAny_bind (wpAny_loadPart x1 (wpAny_bind (Looks.here (s := { s with toks := s.toks + 1 }) (looks_clsIn X hc) ?_))))))
  rw [hd']
  refine wpAny_pure (a := some d) (wpAny_bind (wpAny_pure (wpAny_bind ?_)))
  unfold nsSet
  refine wpAny_bind (wpAny_bind (wpAny_askSetting (wpAny_pure (wpAny_bind (wpAny_mkText (wpAny_bind (wpAny_loadPart x2 ?_)))))))
  dsimp only
  have hc' : (!ents.toArray.any (·.key.isStr (Str.ofString n)) && ents.toArray.any (·.refKey)) = false := by
    have h1 : ents.toArray.any (·.refKey) = ents.any (·.refKey) := by rw [← Array.any_toList]
    rw [h1, f2, Bool.and_false]
  rw [aRefKeyMayBeTheName_at, hc']
  refine wpAny_updatePart x2 ?_
  have hg : ∀ (tk : Tok), (s.heap.update d (Obj.putName (Str.ofString n) (PyData.keyHash g.c.w.params (Str.ofString n)) (.str (Str.ofString n) tk) u)).get? d = some (dictOf (putL (Str.ofString n) (PyData.keyHash g.c.w.params (Str.ofString n)) (.str (Str.ofString n) tk) u ents) (putN (Str.ofString n) ents k)) := fun tk => by
    refine (Heap.get?_update_self _ x2 ?_).trans ?_
    · rw [putName_dict]; rfl
    · rw [putName_dict]
  refine wpAny_bind (wpAny_lookBehind (hg _) (pastItsLine_dict (by rw [List.size_toArray, sizeLine_eq]; have := putL_len (n := Str.ofString n) (hsh := PyData.keyHash g.c.w.params (Str.ofString n)) (k := .str (Str.ofString n) (s.toks + 1)) (v := u) (ents := ents); omega)) ?_)
  refine wpAny_pure (q _ (x5 _ _ _ _ (Heap.SameBut.update ..) (hg _) ?_ (put_nodup x4)) (m.step _ _))
  rw [putA_R x4]
  exact attrs_put hv x3

theorem s_asgn_attr {a : X} {n : String} {e : X} {o v : PySem.Expr} {p pos : Pos} (C : g.c.Ok mg mb) (PO : PgOk g.c) (ha : XMd g sc nm a o) (hx : XMd g sc nm e v) : SOk g sc nm (fun g => wpS g (.assign (.attr a n) e)) (exec (.Assign [.Attribute o (Str.ofString n) p] v pos)) :=
  fun md A env l₀ R V s₀ s H QN QR E ev fr S m q => by
  dsimp only [w_ite, w_ret, w_asg, s_expr', s_raise', s_for', s_while', s_try', s_pass', tv, tsub, tattr, ttup] at q
  refine plainObj_wpAny_Assign_Attribute (wpAny_mono ((hx md A R V env env l₀ s₀ ev fr).1 H s _ _ S m q) (fun u s₁ z => ?_) fun _ _ z => te_tx fr z) swaps_attr
  obtain ⟨av, H₁, hv, S₁, m₁, q₁⟩ := z
  refine wpAny_mono ((ha md A R V env env l₀ s₀ ev fr).1 H₁ s₁ _ _ S₁ m₁ q₁) (fun ov s₂ z => ?_) fun _ _ z => te_tx fr z
  obtain ⟨ao, H₂, ho, S₂, m₂, q₂⟩ := z
  split at q₂
  · cases ho
    split at q₂
    · rename_i cl es e
      exact s_setattr (g := { g with md := md }) C PO hv e q₂.1 q₂.2.1 S₂ m₂ fun s' S' m' => ⟨R, V, _, .refl, fr, S', m', q₂.2.2⟩
    · exact q₂.elim
  · exact q₂.elim

set_option tactic.hygienic false in
theorem s_raise {cl : String} {msg : Str} {fe : PySem.Expr} {k : Nat} {mp cp pos : Pos} (C : g.c.Ok mg mb) (PO : PgOk g.c) (hn : nameIs sc cl fe = true) (hx : (g.c.P.excs.lookup cl).isSome = true) : SOk g sc nm (fun g => wpS g (.raise cl msg)) (exec (.Raise (some (.Call fe [.Constant (.str msg) k mp] [] cp)) none pos)) :=
  fun md A env l₀ R V s₀ s H QN QR E ev fr S m q => by
  dsimp only [w_ite, w_ret, w_asg, s_expr', s_raise', s_for', s_while', s_try', s_pass'] at q
  obtain ⟨hmd, q⟩ := q
  subst hmd
  obtain ⟨r1, r2, _⟩ := PO.excR cl hx
  obtain ⟨pp, loose, T⟩ := C.top
  obtain ⟨tl, N, nmm, qn, bs, hdct, sn, sub, ab, col, dd, k0, k1, k2, k3, k5, mN, hC, hN, hni, TL⟩ := ((own_of_in C.kin T r1 r2).keeps S.stays).obj
  have FB := PySem.F.excBase_ValueError
  obtain ⟨id, p, rfl⟩ := nameIs_name hn
  refine wpAny_Raise_call_subT (C := g.c.ca cl) (nm := nmm) (q := qn) (N := N) (bs := bs) (bm := tl) (hdct := hdct) (sn := sn) (sub := sub) (ab := ab) (col := col) (dd := dd) (k0 := k0) (k1 := k1) (k2 := k2) (k3 := k3) (k5 := k5)
    FB (mN := mN) (TL.hasType FB.hasBase) (ev.aok.hand rfl) rfl hni (glob_K C fr S hn r1 ⟨rfl, ?_⟩)
  refine evalArgs_plain (spliced_cons (wpAny_Constant_str (k := k) (pos := mp) (spliced_nil ⟨rfl, by show 1 ≤ sizeLine; decide, hC, hN, TL, fun h' e hm => ?_⟩)))
  obtain ⟨t, ht, _⟩ := hm.there
  obtain ⟨mm, hmm, _⟩ := fr.ns
  obtain ⟨H₁, S, rl⟩ := S
  have S' : St1 g.c R H₁ h' := by
    refine S.noted (ls := []) (fun a ha => by cases ha) (fun b o z _ => hm.keeps b o z) (fun b o z _ => ⟨o.slots, hm.keeps b o z⟩) ?_
    obtain ⟨oL, es, ep, w, _⟩ := (S.res _ _ hmm).2
    have h1 := leN (S.res _ _ hmm).1
    have h2 := lts (hm.keeps _ _ w)
    exact Nat.le_of_lt (Nat.lt_of_le_of_lt h1 h2)
  refine ⟨e, cl, R, V, H, .ellipsis, rfl, .refl, fr, .inl rfl, ⟨H₁, ⟨S', ?_, ?_, ?_, .fresh ht, hx⟩, rl⟩, m.step _ _, q⟩
  · cases z : R e with
    | none => rfl
    | some r => obtain ⟨ob, w⟩ := (S.res _ _ z).2.there; have := hm.new; rw [show s.heap.get? e = some ob from w] at this; cases this
  · cases z : H₁ e with
    | none => rfl
    | some r => obtain ⟨D, s4⟩ := S.rep; obtain ⟨ob, w⟩ := (s4.rep _ _ z).there; have := hm.new; rw [show s.heap.get? e = some ob from w] at this; cases this
  · cases z : g.c.base.get? e with
    | none => rfl
    | some r => have w := S.stays _ _ z; have := hm.new; rw [show s.heap.get? e = some r from w] at this; cases this

theorem exc_match {M : Model} {A : Around} {E : Value → Shared → Prop} {s : Shared} {K : Frag} {e C D : Addr} {oe : Obj} {r : Bool} {Q : Bool → Shared → Prop} (X : K.In s.heap) (he : s.heap.get? e = some oe) (hc : oe.cls = .ref C)
    (h1 : instIn K (.ref D) (.type "tuple") = some false) (h2 : subIn K (.ref D) (.type "BaseException") = some true) (h3 : (clsIn K D).isSome = true) (h4 : subIn K (.ref C) (.ref D) = some r) (q : Q r s) :
    wpAny M A (excMatches (.ref e) (.ref D)) Q E s := by
  obtain ⟨hh, gg, d, tt, os⟩ := s
  have L1 := looks_instIn (M := M) X h1
  have L2 := looks_subIn (M := M) X h2
  have L4 := looks_subIn (M := M) X h4
  have LT : Looks M hh (typeOf (.ref e)) (.ref C) := by rw [← hc]; exact (Looks.ld he).andThen .now
  obtain ⟨cd, h3⟩ := Option.isSome_iff_exists.mp h3
  unfold excMatches
  refine wpAny_bind (L1.at ?_)
  dsimp only [Bool.false_eq_true, if_false]
  refine wpAny_bind (wpAny_pure (wpAny_bind ?_))
  have L5 : Looks M hh (isExcClass (.ref D)) true := by
    unfold clsIn at h3
    split at h3
    · rename_i ho
      have Lt : Looks M hh (isType (.ref D)) true := (Looks.ld (part := none) (X _ _ ho)).andThen .now
      intro A' Q' E' s' k' q'
      unfold isExcClass
      refine wpAny_bind (Lt A' _ E' s' k' ?_)
      rw [if_pos rfl]
      exact L2 A' _ E' s' k' q'
    · cases h3
  rw [List.forIn_cons]
  refine wpAny_bind (wpAny_bind (L5.at ?_))
  simp only [Bool.not_true, Bool.false_eq_true, if_false]
  refine wpAny_pure ?_
  dsimp only
  rw [List.forIn_nil]
  refine wpAny_pure (wpAny_bind (LT.at (wpAny_bind ?_)))
  rw [List.forIn_cons]
  refine wpAny_bind (wpAny_bind (L4.at ?_))
  cases r with
  | true =>
    dsimp only [if_true]
    exact wpAny_pure (wpAny_pure (wpAny_pure q))
  | false =>
    dsimp only [Bool.false_eq_true, if_false]
    refine wpAny_pure ?_
    dsimp only
    rw [List.forIn_nil]
    exact wpAny_pure (wpAny_pure q)

end
end Mine

end
section
open PySem PySem.W PyProof.Rows PySem.Spec PySem.SeqAt PySem.Calls
namespace Mine

section
variable {g : Gx} {sc : Scope} {nm : List Str} {mg mb : Str → Option Value}

noncomputable def HdOk (g : Gx) (sc : Scope) (nm : List Str) : Hd → ExceptHandler → Prop
  | .mk cl nmi b, .ExceptHandler (some t) name (x :: body) _ => nameIs sc cl t = true ∧ (g.c.P.excs.lookup cl).isSome = true ∧ SOk g sc nm (fun g => wpSs g b) (execs (x :: body)) ∧ nmOk sc nm nmi name = true
  | _, _ => False
inductive EachH (P : Hd → ExceptHandler → Prop) : List Hd → List ExceptHandler → Prop
  | nil : EachH P [] []
  | cons {x e xs es} : P x e → EachH P xs es → EachH P (x :: xs) (e :: es)

set_option tactic.hygienic false in
theorem ev_mark {A : Around} {R : RR} {env : Env} {l₀ : List Env} {e : Value} (ev : Ev { g with md := true } A R env l₀) : Ev { g with md := false } (A.mark (some e)) R env l₀ :=
  ⟨⟨ev.aok.frames, ev.aok.depth, ev.aok.units, fun h => by cases h⟩, ev.stk⟩

set_option tactic.hygienic false in
theorem tx_false {env : Env} {R : RR} {s₀ s : Shared} {e : Value} (h : TX g env sc nm R s₀ (fun _ _ _ => False) e s) {P : Prop} : P := by
  obtain ⟨_, _, _, _, _, _, _, _, _, _, _, _, q⟩ := h
  exact q.elim

theorem name_goes {M : Model} {A : Around} {E : Value → Shared → Prop} {s : Shared} {R : RR} {H : AHeap} {env : Env} {n : Str} {pos : Pos} {m : Str → Option Value} {Q : Unit → Shared → Prop} (hl : env.kindOf n = some .local) (hk : env.scope.kind = .function) (hm : R env.locals = some (.ns m)) (S : St g.c R H s.heap)
    (q : ∀ s' v, St g.c (rup R env.locals (.ns fun x => if x = n then v else m x)) H s'.heap → Sm s s' → Q () s') : wpAny M A (do bindName env n .none; unbindBehindTheSuite env n pos) Q E s :=
  wpAny_nameGoes_keeps hl (S.res _ _ hm).2 (by rw [hk]; rfl) fun h' v hn hs => q _ v (S.setRes (r' := .ns _) hm hs hn) ⟨_, _, rfl⟩

set_option tactic.hygienic false in
theorem locals_step {env : Env} {R : RR} {m m' : Str → Option Value} (hm : R env.locals = some (.ns m)) : RStep env R (rup R env.locals (.ns m')) := fun b => by
  by_cases z : b = env.locals
  · subst z; exact .inr (.inl ⟨rfl, _, _, hm, rup_same⟩)
  · exact .inl (rup_other z)

set_option tactic.hygienic false in
theorem hs_ok (C : g.c.Ok mg mb) (PO : PgOk g.c) (nd : nm.Nodup) : ∀ {hs : List Hd} {es : List ExceptHandler}, EachH (HdOk g sc nm) hs es → ∀ (A : Around) (env : Env) (l₀ : List Env) (R : RR) (V : VV) (s₀ s : Shared) (H : AHeap) (e : Addr) (cl : String) (QN : VV → AHeap → Prop) (QR : AV → AHeap → Prop) (E : String → VV → AHeap → Prop),
    Ev { g with md := true } A R env l₀ → Frm R env sc nm V → ExcSt g.c R H e cl .none s.heap → Sm s₀ s → wpHs { g with md := true } hs cl QN QR E V H →
    wpAny (model g.c.prog g.c.w) A (handleBy (.ref e) env es) (TF g env sc nm R s₀ QN QR) (TX g env sc nm R s₀ E) s
  | _, _, .nil => fun A env l₀ R V s₀ s H e cl QN QR E ev fr X m q => q.elim
  | _, _, .cons (x := .mk c nmi b) (e := .ExceptHandler ty name body pos) h r => fun A env l₀ R V s₀ s H e cl QN QR E ev fr X m q => by
    rw [hs_cons', h_mk'] at q
    cases ty with
    | none => exact h.elim
    | some t =>
    cases body with
    | nil => exact h.elim
    | cons b₀ body =>
    obtain ⟨h1, h2, h3, h4⟩ := h
    obtain ⟨r1, r2, r3, r4, r5, _⟩ := PO.excR c h2
    obtain ⟨o, vs, o1, o2, o3⟩ := X.obj
    refine wpAny_handleBy_cons (codeAny_handlers_test (glob_K C fr X.st h1 r1 ?_)) (by intro z; cases z)
    refine exc_match (C.kin.keeps X.st.stays) o1 o2 r3 r4 r5 (PO.excC cl c X.kn h2) ?_
    cases hsub : excSub g.c.P cl c with
    | false =>
      simp only [hsub, Bool.false_eq_true, if_false] at q ⊢
      exact hs_ok C PO nd r A env l₀ R V s₀ s H e cl QN QR E ev fr X m q
    | true =>
      simp only [hsub, if_true] at q ⊢
      cases nmi with
      | none =>
        cases name with
        | some => exact Bool.noConfusion h4
        | none =>
        refine codeAny_handlers_suite (exc_flight X (by simp) fun h' X' => ?_)
        refine wpAny_mono (h3 false (A.mark (some (.ref e))) env l₀ R V s₀ { s with heap := h' } H QN QR (fun _ _ _ => False) (ev_mark ev) fr X'.st (m.heap h') q) (fun f s' z => z) fun _ _ z => tx_false z
      | some i =>
        cases name with
        | none => exact Bool.noConfusion h4
        | some n =>
        have h5 := eq_of_beq (and2 h4).1; have h6 := eq_of_beq (and2 h4).2
        obtain ⟨hlt, q⟩ := q e X.he
        refine codeAny_handlers_suite_as (exc_flight X (by simp) fun h' X' => ?_)
        refine st_name fr nd h5 (by unfold locKind; rw [h6]) (.ref e) X'.caught fun s₂ R₂ r₂ f₂ S₂ m₂ => ?_
        refine wpAny_mono (h3 false (A.mark (some (.ref e))) env l₀ R₂ _ s₀ s₂ _ _ QR (fun _ _ _ => False) (ev_mark (ev.step r₂)) f₂ S₂ ((m.heap h').trans m₂) q) (fun f s₃ z => ?_) fun _ _ z => tx_false z
        have hl := fr.lco n h6
        cases f with
        | next =>
          obtain ⟨R₃, V₃, H₃, r₃, f₃, S₃, m₃, q₃⟩ := z
          obtain ⟨mm, hmm, _⟩ := f₃.ns
          exact name_goes hl fr.kind hmm S₃ fun s₄ v S₄ m₄ => ⟨_, _, H₃, (r₂.trans r₃).trans (locals_step hmm), f₃.local' nd h5 hl hmm .none, S₄, m₃.trans m₄, q₃⟩
        | ret v =>
          obtain ⟨R₃, av, H₃, r₃, hv, S₃, m₃, q₃⟩ := z
          obtain ⟨mm, hmm, _⟩ := f₂.ns
          obtain ⟨mm', hmm'⟩ := r₃.ns hmm
          exact name_goes hl fr.kind hmm' S₃ fun s₄ w S₄ m₄ => ⟨_, av, H₃, (r₂.trans r₃).trans (locals_step hmm'), hv, S₄, m₃.trans m₄, q₃⟩
        | brk => exact z.elim
        | cont => exact z.elim

set_option tactic.hygienic false in
theorem s_try {b : List S} {hs : List Hd} {x : List Stmt} {h₀ : ExceptHandler} {es : List ExceptHandler} {pos : Pos} (C : g.c.Ok mg mb) (PO : PgOk g.c) (nd : nm.Nodup) (hb : SOk g sc nm (fun g => wpSs g b) (execs x)) (hh : EachH (HdOk g sc nm) hs (h₀ :: es)) :
    SOk g sc nm (fun g => wpS g (.try b hs)) (exec (.Try x (h₀ :: es) [] [] pos)) := fun md A env l₀ R V s₀ s H QN QR E ev fr S m q => by
  dsimp only [w_ite, w_ret, w_asg, s_expr', s_raise', s_for', s_while', s_try', s_pass'] at q
  obtain ⟨hmd, q⟩ := q
  subst hmd
  refine wpAny_Try_except (wpAny_mono (hb true A env l₀ R V s₀ s H _ QR _ ev fr S m q) (fun f s₁ z => ?_) fun e s₁ z => ?_)
  · cases f with
    | next => exact wpAny_execs_nil z
    | ret v => exact z
    | brk => exact z
    | cont => exact z
  · obtain ⟨a, cl, R', V', H', fl, rfl, r, f', hfl, X, m', q'⟩ := z
    refine exc_note ev.aok.frames (r.stk ev.stk) X hfl fun h₁ X₁ => ?_
    refine exc_flight (s := { s₁ with heap := h₁ }) X₁ (by simp [rawInt]) fun h₂ X₂ => ?_
    exact wpAny_mono (hs_ok C PO nd hh A env l₀ R' V' s₀ { s₁ with heap := h₂ } H' a cl QN QR E (ev.step r) f' X₂ (m'.heap h₂) q') (fun _ _ z => z.trans r) fun _ _ z => z.trans r

theorem comp_ind {e : X} {m : X → Prop} (h : isComp e = true) (f : ∀ x k tup it c, m (.comp x k tup it c)) : m e := X.comp.elim (motive_1 := m) e (eq_of_beq h) f

theorem str1_ind {msg : Str} {es : List PySem.Expr} {m : List PySem.Expr → Prop} (h : mStr1 msg es = true) (f : ∀ k p, m [.Constant (.str msg) k p]) : m es :=
  on1_ind h fun e h => onConst_ind (m := fun e => m [e]) h fun _ k p h => eq_of_beq (and2 h).1 ▸ f k p

variable (C : g.c.Ok mg mb) (PO : PgOk g.c) (nd : nm.Nodup)
include C PO in
theorem xmd {e : X} {v : PySem.Expr} (h : mtX g.c.P true sc nm e v = true) : XMd g sc nm e v := fun md => sX (g := { g with md := md }) C PO e v true sc nm h
set_option tactic.hygienic false in
include C PO nd in
theorem sAs {t : T} {e : X} {tg v : PySem.Expr} {pos : Pos} (h1 : (notComp v || (isLC v && isComp e)) = true) (h0 : (notTup v || notTupT t) = true) (h2 : mtT g.c.P sc nm t tg = true) (h3 : mtX g.c.P true sc nm e v = true) :
    SOk g sc nm (fun g => wpS g (.assign t e)) (exec (.Assign [tg] v pos)) := by
  cases t with
  | var i =>
    cases hc : notComp v with
    | true => exact s_asgn_var nd hc h2 (xmd C PO h3)
    | false =>
      rw [hc, Bool.false_or] at h1
      clear h0
      revert h1 h3
      refine fun h1 => comp_ind (m := fun e => mtX g.c.P true sc nm e v = true → SOk g sc nm (fun g => wpS g (.assign (.var i) e)) (exec (.Assign [tg] v pos))) (and2 h1).2 fun x k tup it cc h3 => ?_
      refine mComp_ind (m := fun v => XMd g sc nm (.comp x k tup it cc) v → SOk g sc nm (fun g => wpS g (.assign (.var i) (.comp x k tup it cc))) (exec (.Assign [tg] v pos))) h3 (fun elt ctg iter ifs csc ts p htg o => ?_) (xmd C PO h3)
      rw [o.len]
      exact fun hx => s_asgn_comp C htg nd h2 o.sc o.set (xmd C PO o.it) (fun md => sX (g := { g with md := md }) C PO x elt false _ _ o.x) (fun md => sC (g := { g with md := md }) C PO cc ifs _ _ o.c) hx
  | sub a i => exact mSub_ind (m := fun tg => SOk g sc nm (fun g => wpS g (.assign (.sub a i) e)) (exec (.Assign [tg] v pos))) h2 fun _ _ _ k1 k2 k3 => s_asgn_sub k1 (xmd C PO k2) (xmd C PO k3) (xmd C PO h3)
  | tup is => exact Bool.noConfusion (show false = true from h2)
  | attr a n => exact onAttr_ind (m := fun tg => SOk g sc nm (fun g => wpS g (.assign (.attr a n) e)) (exec (.Assign [tg] v pos))) h2 fun o _ p k => eq_of_beq (and2 k).1 ▸ s_asgn_attr C PO (xmd C PO (and2 k).2) (xmd C PO h3)
include C PO nd in
mutual
theorem sS : ∀ (st : S) (t : Stmt), mtS g.c.P sc nm st t = true → SOk g sc nm (fun g => wpS g st) (exec t)
  | .assign t e, st, h => onAsg_ind (m := fun st => SOk g sc nm (fun g => wpS g (.assign t e)) (exec st)) h fun ts v p h => on1_ind (m := fun ts => SOk g sc nm (fun g => wpS g (.assign t e)) (exec (.Assign ts v p))) h fun tg h =>
    have h3 := and2 h; have h2 := and2 h3.1; have h1 := and2 h2.1; sAs C PO nd h1.1 h1.2 h2.2 h3.2
  | .expr e, st, h => onExpr_ind (m := fun st => SOk g sc nm (fun g => wpS g (.expr e)) (exec st)) h fun v p h => s_expr (and2 h).1 (xmd C PO (and2 h).2)
  | .ret e, st, h => onRet_ind (m := fun st => SOk g sc nm (fun g => wpS g (.ret e)) (exec st)) h fun v p h => onSome_ind (m := fun v => SOk g sc nm (fun g => wpS g (.ret e)) (exec (.Return v p))) h fun v h => s_ret (xmd C PO h)
  | .ite c a b, st, h => onIfS_ind (m := fun st => SOk g sc nm (fun g => wpS g (.ite c a b)) (exec st)) h fun t x y p h => have h2 := and2 h; have h1 := and2 h2.1; s_if (xmd C PO h1.1) (sSs a x h1.2) (sSs b y h2.2)
  | .while c b, st, h => onWhile_ind (m := fun st => SOk g sc nm (fun g => wpS g (.while c b)) (exec st)) h fun t x o p h => have h1 := and2 (and2 h).2; nil_ind (m := fun o => SOk g sc nm (fun g => wpS g (.while c b)) (exec (.While t x o p))) (and2 h).1 (s_while (xmd C PO h1.1) (sSs b x h1.2))
  | .for t it b, st, h => onFor_ind (m := fun st => SOk g sc nm (fun g => wpS g (.for t it b)) (exec st)) h fun tg i x o p h => have h3 := and2 (and2 h).2; have h2 := and2 h3.1; have h1 := and2 h2.1
    nil_ind (m := fun o => SOk g sc nm (fun g => wpS g (.for t it b)) (exec (.For tg i x o p))) (and2 h).1 (s_for C nd h1.1 h1.2 (xmd C PO h2.2) (sSs b x h3.2))
  | .raise cl msg, st, h => onRaise_ind (m := fun st => SOk g sc nm (fun g => wpS g (.raise cl msg)) (exec st)) h fun c z p h => match z, h with
    | some _, h => Bool.noConfusion h
    | none, h => onSome_ind (m := fun c => SOk g sc nm (fun g => wpS g (.raise cl msg)) (exec (.Raise c none p))) h fun c h => mCall_ind (m := fun c => SOk g sc nm (fun g => wpS g (.raise cl msg)) (exec (.Raise (some c) none p))) h fun fe as q h1 h2 h3 =>
      str1_ind (m := fun as => SOk g sc nm (fun g => wpS g (.raise cl msg)) (exec (.Raise (some (.Call fe as [] q)) none p))) h3 fun _ _ => s_raise C PO h1 h2
  | .try b hs, st, h => onTry_ind (m := fun st => SOk g sc nm (fun g => wpS g (.try b hs)) (exec st)) h fun x hs' o z p h => have h1 := and2 (and2 h).2; have h0 := and2 (and2 h).1
    nil_ind (m := fun o => SOk g sc nm (fun g => wpS g (.try b hs)) (exec (.Try x hs' o z p))) h0.1 (nil_ind (m := fun z => SOk g sc nm (fun g => wpS g (.try b hs)) (exec (.Try x hs' [] z p))) h0.2
      (onC_ind (m := fun hs' => SOk g sc nm (fun g => wpS g (.try b hs)) (exec (.Try x hs' [] [] p))) h1.2 fun h₀ r h => s_try C PO nd (sSs b x h1.1) (sHs hs (h₀ :: r) h)))
  | .pass, st, h => onPass_ind (m := fun st => SOk g sc nm (fun g => wpS g .pass) (exec st)) h fun _ _ => s_pass
theorem sSs : ∀ (l : List S) (ts : List Stmt), mtSs g.c.P sc nm l ts = true → SOk g sc nm (fun g => wpSs g l) (execs ts)
  | [], ts, h => nil_ind (m := fun ts => SOk g sc nm (fun g => wpSs g []) (execs ts)) h ss_nil
  | st :: r, ts, h => onC_ind (m := fun ts => SOk g sc nm (fun g => wpSs g (st :: r)) (execs ts)) h fun e q h => ss_cons (sS st e (and2 h).1) (sSs r q (and2 h).2)
theorem sHs : ∀ (l : List Hd) (ts : List ExceptHandler), mtHs g.c.P sc nm l ts = true → EachH (HdOk g sc nm) l ts
  | [], ts, h => nil_ind (m := EachH (HdOk g sc nm) []) h .nil
  | hd :: r, ts, h => onC_ind (m := EachH (HdOk g sc nm) (hd :: r)) h fun e q h => .cons (sH hd e (and2 h).1) (sHs r q (and2 h).2)
theorem sH : ∀ (hd : Hd) (t : ExceptHandler), mtH g.c.P sc nm hd t = true → HdOk g sc nm hd t
  | .mk cl nmi b, .ExceptHandler ty name body p, h => onSome_ind (m := fun ty => HdOk g sc nm (.mk cl nmi b) (.ExceptHandler ty name body p)) h fun t h => onC_ind (m := fun body => HdOk g sc nm (.mk cl nmi b) (.ExceptHandler (some t) name body p)) h fun x body h =>
    have h3 := and2 h; have h2 := and2 h3.1; have h1 := and2 h2.1; ⟨h1.1, h1.2, sSs b (x :: body) h2.2, h3.2⟩
end
end
end Mine

end
section
open PySem PySem.W PyProof.Rows PySem.Spec PySem.SeqAt PySem.Calls
namespace Mine

set_option tactic.hygienic false in
theorem zip_lookup {ns : List Str} : ∀ {vs : List Value}, ns.length = vs.length → ∀ n ∈ ns, ((ns.zip vs).lookup n).isSome = true := by
  induction ns with
  | nil => intro vs _ n hn; cases hn
  | cons a r ih =>
    intro vs hl n hn
    cases vs with
    | nil => simp at hl
    | cons v vs =>
      simp only [List.zip_cons_cons, List.lookup_cons]
      cases hb : n == a with
      | true => rfl
      | false =>
        have hne : n ≠ a := by simpa using hb
        rcases List.mem_cons.mp hn with h | h
        · exact absurd h hne
        · exact ih (by simpa using hl) n h
set_option tactic.hygienic false in
theorem fm_congr {α β : Type} {f g : α → Option β} : ∀ {l : List α}, (∀ x ∈ l, f x = g x) → l.filterMap f = l.filterMap g
  | [], _ => rfl
  | a :: r, h => by rw [List.filterMap_cons, List.filterMap_cons, h a (.head _), fm_congr fun x hx => h x (.tail _ hx)]
set_option tactic.hygienic false in
theorem zip_filterMap {ns : List Str} : ∀ {vs : List Value}, ns.Nodup → ns.length = vs.length → (ns.filterMap fun n => ((ns.zip vs).lookup n).map fun v => (n, v)) = ns.zip vs := by
  induction ns with
  | nil => intro vs _ _; rfl
  | cons a r ih =>
    intro vs hn hl
    cases vs with
    | nil => simp at hl
    | cons v vs =>
      obtain ⟨h1, h2⟩ := List.nodup_cons.mp hn
      simp only [List.zip_cons_cons, List.filterMap_cons, List.lookup_cons, beq_self_eq_true, Option.map_some]
      congr 1
      refine Eq.trans ?_ (ih h2 (by simpa using hl))
      apply fm_congr
      intro n hn'
      have hne : (n == a) = false := by
        apply beq_eq_false_iff_ne.mpr
        rintro rfl; exact h1 hn'
      simp only [hne]

set_option tactic.hygienic false in
theorem ite_no {α : Type} {M : Model} {A : Around} {E : Value → Shared → Prop} {s : Shared} {Q : α → Shared → Prop} {c : Prop} [Decidable c] {a b : Sem α} (hc : ¬c) (h : wpAny M A b Q E s) : wpAny M A (if c then a else b) Q E s := by rw [if_neg hc]; exact h
set_option tactic.hygienic false in
theorem bind_plain {s : Shared} {fd : FuncData} {vals : List Value} (h1 : fd.params.posonlyargs = []) (h2 : fd.params.vararg = none) (h3 : fd.params.kwonlyargs = []) (h4 : fd.params.kwarg = none) (h5 : fd.defaults = .none)
    (h6 : (fd.params.args.map (·.arg)).Nodup) (h7 : fd.params.args.length = vals.length) : BindsTo s fd ⟨vals, []⟩ ((fd.params.args.map (·.arg)).zip vals) := by
  obtain ⟨nm, qn, ⟨po, as, va, ko, kd, kw, df⟩, bd, sc, gl, cl, dfl, kdf, dc, pm, an, cd, ct, bl⟩ := fd
  replace h1 : po = [] := h1
  replace h2 : va = none := h2
  replace h3 : ko = [] := h3
  replace h4 : kw = none := h4
  replace h5 : dfl = .none := h5
  subst h1 h2 h3 h4 h5
  intro M A E Q q
  refine wpAny_bind (wpAny_pure (wpAny_bind (wpAny_pure (a := (none : Option (Array Value))) ?_)))
  have hl : (as.map (·.arg)).length = vals.length := by rw [List.length_map]; exact h7
  have ed : ∀ k, List.drop k ((none : Option (Array Value)).getD #[]).toList = [] := fun _ => List.drop_nil
  have e1 : (((as.map (·.arg)).take (as.map (·.arg)).length).filter fun n => (((as.map (·.arg)).zip vals).lookup n).isNone) = [] := by
    rw [List.take_length, List.filter_eq_nil_iff]
    intro n hn
    have := zip_lookup hl n hn
    simpa using this
  refine ite_no (fun z => Nat.lt_irrefl _ (Nat.lt_of_lt_of_eq (of_decide_eq_true (and2 z).1) hl.symm)) ?_
  rw [ed]
  refine ite_no (fun z => Bool.noConfusion (((congrArg (fun l => !l.isEmpty) e1).symm.trans z))) ?_
  rw [List.zip_nil_right]
  refine wpAny_bind (wpAny_pure (wpAny_bind (wpAny_pure ?_)))
  refine ite_no (fun z => Bool.noConfusion z) (wpAny_pure ?_)
  show Q ((as.map (fun a : PySem.Arg => a.arg) ++ []).filterMap fun n => (((as.map (fun a : PySem.Arg => a.arg)).zip vals).lookup n).map fun x => (n, x)) s
  rw [List.append_nil]
  exact (zip_filterMap h6 hl).symm ▸ q

set_option tactic.hygienic false in
theorem St1.news {c : Cx} {R R' : RR} {H : AHeap} {h h' : Heap} (S : St1 c R H h) (k : ∀ b ob, h.get? b = some ob → h'.get? b = some ob) (hs : h.objs.size ≤ h'.objs.size)
    (hR : ∀ b, R' b = R b ∨ (h.objs.size ≤ b ∧ ∃ r, R' b = some r ∧ ResAt h' b r)) : St1 c R' H h' := by
  have S' := S.keeps k hs
  obtain ⟨D0, s40⟩ := S.rep
  have hb := S.size
  refine ⟨S'.stays, S'.size, fun b r e => ?_, D0, ⟨fun a ao e => (s40.rep a ao e).agree (fun _ => k _ _) fun _ _ _ => ⟨rfl, fun _ => k _ _⟩, fun a ao e => ?_, fun a cl es e => ?_, s40.inj⟩⟩
  · rcases hR b with q | ⟨q1, r', q2, q3⟩
    · rw [q] at e; exact S'.res b r e
    · rw [q2] at e; cases e; exact ⟨by have := leN q1; omega, q3⟩
  · refine ⟨(s40.above a ao e).1, ?_⟩
    rcases hR a with q | ⟨q1, _⟩
    · rw [q]; exact (s40.above a ao e).2
    · obtain ⟨ob, w⟩ := (s40.rep a ao e).there
      have := lts w; have := leN q1; omega
  · obtain ⟨y1, y2, y3⟩ := s40.dict a cl es e
    refine ⟨y1, ?_, y3⟩
    rcases hR (D0 a) with q | ⟨q1, _⟩
    · rw [q]; exact y2
    · obtain ⟨_, ents, n, w, _⟩ := s40.rep a _ e
      have := lts w; have := leN q1; omega

theorem St.news {c : Cx} {R R' : RR} {H : AHeap} {h h' : Heap} (S : St c R H h) (k : ∀ b ob, h.get? b = some ob → h'.get? b = some ob) (hs : h.objs.size ≤ h'.objs.size)
    (hR : ∀ b, R' b = R b ∨ (h.objs.size ≤ b ∧ ∃ r, R' b = some r ∧ ResAt h' b r)) : St c R' H h' := let ⟨H₁, s, r⟩ := S; ⟨H₁, s.news k hs hR, r⟩

set_option tactic.hygienic false in
theorem bindL_out {kf : Str → Option NameKind} : ∀ {bs : List (Str × Value)} {m : Str → Option Value} {n : Str}, n ∉ bs.map (·.1) → bindL kf bs m n = m n
  | [], _, _, _ => rfl
  | (a, v) :: r, m, n, h => by
    simp only [List.map_cons, List.mem_cons, not_or] at h
    unfold bindL
    rw [bindL_out h.2]
    split
    · simp [h.1]
    · rfl
set_option tactic.hygienic false in
theorem bindC_out {kf : Str → Option NameKind} : ∀ {bs : List (Str × Value)} {m : Str → Option Value} {n : Str}, n ∉ bs.map (·.1) → bindC kf bs m n = m n
  | [], _, _, _ => rfl
  | (a, v) :: r, m, n, h => by
    simp only [List.map_cons, List.mem_cons, not_or] at h
    unfold bindC
    rw [bindC_out h.2]
    split
    · rfl
    · simp [h.1]
set_option tactic.hygienic false in
theorem bindL_get {kf : Str → Option NameKind} : ∀ {bs : List (Str × Value)} {m : Str → Option Value} {n : Str} {v : Value} {i : Nat}, (bs.map (·.1)).Nodup → bs[i]? = some (n, v) → kf n = some .local → bindL kf bs m n = some v
  | (a, w) :: r, m, n, v, 0, hn, e, hk => by
    simp only [List.getElem?_cons_zero, Option.some.injEq, Prod.mk.injEq] at e
    obtain ⟨rfl, rfl⟩ := e
    simp only [List.map_cons, List.nodup_cons] at hn
    unfold bindL
    rw [bindL_out hn.1, if_pos hk]; simp
  | (a, w) :: r, m, n, v, i + 1, hn, e, hk => by
    simp only [List.getElem?_cons_succ] at e
    simp only [List.map_cons, List.nodup_cons] at hn
    unfold bindL
    exact bindL_get hn.2 e hk
set_option tactic.hygienic false in
theorem bindC_get {kf : Str → Option NameKind} : ∀ {bs : List (Str × Value)} {m : Str → Option Value} {n : Str} {v : Value} {i : Nat}, (bs.map (·.1)).Nodup → bs[i]? = some (n, v) → kf n = some .cell → bindC kf bs m n = some v
  | (a, w) :: r, m, n, v, 0, hn, e, hk => by
    simp only [List.getElem?_cons_zero, Option.some.injEq, Prod.mk.injEq] at e
    obtain ⟨rfl, rfl⟩ := e
    simp only [List.map_cons, List.nodup_cons] at hn
    unfold bindC
    rw [bindC_out hn.1, if_neg (by rw [hk]; simp)]; simp
  | (a, w) :: r, m, n, v, i + 1, hn, e, hk => by
    simp only [List.getElem?_cons_succ] at e
    simp only [List.map_cons, List.nodup_cons] at hn
    unfold bindC
    exact bindC_get hn.2 e hk

noncomputable def fnOk (K : Frag) (P : Pg) (a : Addr) (F : Fn) : Bool := match K.lookup a with
  | some o => (match o.data with
    | .func fd => (match fd.body with
      | .stmts body => fd.globals == mainGlobals && fd.builtins == builtinsNs && fd.closure.isEmpty && fd.defaults == .none && fd.params.posonlyargs.isEmpty && fd.params.vararg.isNone && fd.params.kwonlyargs.isEmpty && fd.params.kwarg.isNone &&
          !fd.scope.isCoroutine && !fd.scope.isGenerator && fd.scope.kind == .function && codeIn K fd.code fd.qualname && (fd.params.args.map (·.arg)) == (F.slots.map Str.ofString).take F.npar && decide (F.npar ≤ F.slots.length) && decide ((F.slots.map Str.ofString).Nodup) &&
          (F.slots.map Str.ofString).all (fun n => match fd.scope.names.lookup n with | some .local => true | some .cell => ((cellsFrom 0 fd.scope.names []).lookup n).isSome | _ => false) && decide ((cellsFrom 0 fd.scope.names []).map (·.1)).Nodup &&
          mtSs P fd.scope (F.slots.map Str.ofString) F.body body
      | _ => false)
    | _ => false)
  | none => false

set_option tactic.hygienic false in
theorem lookup_isSome {l : List (Str × Addr)} {n : Str} : (l.lookup n).isSome = (l.map (·.1)).contains n := by
  induction l with
  | nil => rfl
  | cons a r ih =>
    obtain ⟨k, v⟩ := a
    simp only [List.lookup_cons, List.map_cons, List.contains_cons]
    cases hb : n == k with
    | true => simp
    | false => simp [ih]

noncomputable def initV (F : Fn) (args : List AV) : VV := args.map some ++ List.replicate (F.slots.length - F.npar) none

theorem call_intro {c : Cx} {mg mb : Str → Option Value} (C : c.Ok mg mb) (PO : PgOk c) {n : Nat} {md : Bool} {f : String} {F : Fn} (hok : fnOk c.K c.P (c.fa f) F = true) {args : List AV} {Q : AV → AHeap → Prop} {E : String → AHeap → Prop} {H : AHeap} (hlen : args.length = F.npar)
    (q : wpSs ⟨c, n, md⟩ F.body (fun _ H => Q .none H) Q (fun cl _ H => E cl H) (initV F args) H) : CallOK c (n + 1) md f args Q E H := by
  intro A stk R s vals Rs aok stkok S hv kQ kE
  unfold fnOk at hok
  split at hok
  · rename_i o ho
    split at hok
    · rename_i fd hd
      split at hok
      · rename_i body hb
        simp only [Bool.and_eq_true, beq_iff_eq, List.isEmpty_iff, Option.isNone_iff_eq_none, Bool.not_eq_true', decide_eq_true_eq] at hok
        obtain ⟨⟨⟨⟨⟨⟨⟨⟨⟨⟨⟨⟨⟨⟨⟨⟨⟨c1, c2⟩, c3⟩, c4⟩, c5⟩, c6⟩, c7⟩, c8⟩, c9⟩, c10⟩, c11⟩, c12⟩, c13⟩, c14⟩, c15⟩, c16⟩, c17⟩, c18⟩ := hok
        have X := C.kin.keeps S.stays
        have hvl := hv.length
        have hpl : fd.params.args.length = F.npar := by
          have := congrArg List.length c13
          simp only [List.length_map, List.length_take] at this
          omega
        have hpn : (fd.params.args.map (·.arg)).Nodup := by rw [c13]; exact c15.sublist (List.take_sublist _ _)
        have hzl : (fd.params.args.map (·.arg)).length = vals.length := by simp; omega
        have hmem : ∀ x ∈ (fd.params.args.map (·.arg)).zip vals, x.1 ∈ F.slots.map Str.ofString := by
          rintro ⟨a, b⟩ hx
          have := (List.of_mem_zip hx).1
          rw [c13] at this
          exact List.mem_of_mem_take this
        have hkinds : ∀ n ∈ F.slots.map Str.ofString, fd.scope.names.lookup n = some .local ∨ (fd.scope.names.lookup n = some .cell ∧ ((cellsFrom 0 fd.scope.names []).lookup n).isSome = true) := by
          intro n hn
          have := List.all_eq_true.mp c16 n hn
          split at this
          · exact .inl (by assumption)
          · exact .inr ⟨by assumption, this⟩
          · cases this
        have hcs : ∀ (k : Nat) n, ((cellsFrom k fd.scope.names []).lookup n).isSome = ((cellsFrom 0 fd.scope.names []).lookup n).isSome := by
          intro k n
          rw [lookup_isSome, lookup_isSome, cellsFrom_names fd.scope.names 0 k [] [] rfl]
        have hnodup : ∀ k : Nat, ((cellsFrom k fd.scope.names []).map (·.1)).Nodup := fun k => by rw [← cellsFrom_names fd.scope.names 0 k [] [] rfl]; exact c17
        refine codeAny_call_function (by have := aok.depth; omega) (X _ _ ho) hd c9 c10 hb (codeRec_of X c12) (bind_plain c5 c6 c7 c8 c4 hpn (by omega) _ _ _ _ ?_)
        rw [c3]
        refine wpAny_newFunctionEnv_cells c11 (fun x hx => ?_) fun env he s₁ x => ?_
        · rcases hkinds x.1 (hmem x hx) with h | ⟨h1, h2⟩
          · exact .inl h
          · exact .inr ⟨h1, by rw [hcs]; exact h2⟩
        subst he
        refine ⟨(C.nolimit.keeps S.stays).keeps x.toInCall.keep, codeAny_func ?_⟩
        generalize henv : newEnv fd.scope s.heap.objs.size fd.globals (cellsFrom (s.heap.objs.size + 1) fd.scope.names []) (fd.qualname ++ ".<locals>.") (some (c.fa f)) fd.code none fd.builtins = env at x ⊢
        have el : env.locals = s.heap.objs.size := by rw [← henv]; rfl
        have es : env.scope = fd.scope := by rw [← henv]; rfl
        have ec : env.cells = cellsFrom (s.heap.objs.size + 1) fd.scope.names [] := by rw [← henv]; rfl
        have eg : env.globals = mainGlobals := by rw [← henv]; exact c1
        have eb : env.builtins = builtinsNs := by rw [← henv]; exact c2
        have ef : env.frame = some env.locals := by rw [← henv]; rfl
        have ek : ∀ n, env.kindOf n = fd.scope.names.lookup n := fun n => by unfold Env.kindOf; rw [es]
        generalize hm : bindL env.kindOf ((fd.params.args.map (·.arg)).zip vals) (fun _ => none) = m at x
        generalize hcm : bindC env.kindOf ((fd.params.args.map (·.arg)).zip vals) (fun _ => none) = cm at x
        have hkeep := x.toInCall.keep
        have hLlt : @LT.lt Nat _ env.locals s₁.heap.objs.size := by obtain ⟨oL, _, _, w, _⟩ := x.toInCall.ns; exact lts w
        have hsz : s.heap.objs.size ≤ s₁.heap.objs.size := by rw [el] at hLlt; exact Nat.le_of_lt hLlt
        have habove : ∀ p ∈ env.cells, @LT.lt Nat _ s.heap.objs.size p.2 := fun p hp => by
          have := x.above p.1 p.2 hp
          rw [el] at this; exact this
        let R' : RR := fun b => if b = env.locals then some (.ns m) else match env.cells.find? (fun p => p.2 == b) with
          | some p => some (.cell (cm p.1))
          | none => R b
        have hL : R' env.locals = some (.ns m) := by show (if _ then _ else _) = _; rw [if_pos rfl]
        have hcell : ∀ n a, env.cells.lookup n = some a → R' a = some (.cell (cm n)) := fun n a h => by
          have hmem := mem_of_lookup h
          have hlt := habove _ hmem
          show (if _ then _ else _) = _
          rw [if_neg (fun z => by rw [z, el] at hlt; exact Nat.lt_irrefl _ hlt)]
          cases hf : env.cells.find? (fun p => p.2 == a) with
          | none =>
            have := List.find?_eq_none.mp hf _ hmem
            simp at this
          | some p =>
            have h1 := List.mem_of_find?_eq_some hf
            have h2 : p.2 = a := by have := List.find?_some hf; simpa using this
            have h3 : p.1 = n := name_of_addr x.apart (c := a) (by rw [← h2]; exact h1) hmem
            simp only [h3]
        have hlk : ∀ p ∈ env.cells, env.cells.lookup p.1 = some p.2 := fun p hp => by
          have hn' : (env.cells.map (·.1)).Nodup := by rw [ec]; exact hnodup _
          exact lookup_of_mem_nodup hn' hp
        have hR : ∀ b, R' b = R b ∨ (s.heap.objs.size ≤ b ∧ ∃ r, R' b = some r ∧ ResAt s₁.heap b r) := fun b => by
          by_cases z : b = env.locals
          · subst z; exact .inr ⟨by rw [el]; exact Nat.le_refl _, _, hL, x.toInCall.ns⟩
          · cases hf : env.cells.find? (fun p => p.2 == b) with
            | none => left; show (if _ then _ else _) = _; rw [if_neg z, hf]
            | some p =>
              have h1 := List.mem_of_find?_eq_some hf
              have h2 : p.2 = b := by have := List.find?_some hf; simpa using this
              subst h2
              have hl := hlk p h1
              exact .inr ⟨Nat.le_of_lt (habove p h1), _, hcell _ _ hl, x.cell _ _ hl⟩
        have hold : ∀ b r, R b = some r → R' b = some r := fun b r e => by
          rcases hR b with h | ⟨h, _⟩
          · rw [h]; exact e
          · obtain ⟨ob, w⟩ := (S.res b r e).2.there
            have := lts w; have := leN h; omega
        have S₁ : St c R' H s₁.heap := S.news hkeep hsz hR
        have hlen2 : (initV F args).length = F.slots.length := by unfold initV; simp; omega
        have hget : ∀ (i : Nat) n, (F.slots.map Str.ofString)[i]? = some n → ∃ v, (initV F args)[i]? = some v ∧ ∀ (y : Option Value), (∀ w, ((fd.params.args.map (·.arg)).zip vals)[i]? = some (n, w) → y = some w) → OVW v y := fun i n hn => by
          have hi : i < F.slots.length := by have := (List.getElem?_eq_some_iff.mp hn).1; simpa using this
          by_cases z : i < F.npar
          · obtain ⟨av, hav⟩ : ∃ av, args[i]? = some av := ⟨args[i], by simp [hlen, z]⟩
            obtain ⟨w, hw, hvr⟩ := hv.get hav
            refine ⟨some av, by unfold initV; rw [List.getElem?_append_left (by simp; omega)]; simp [hav], fun y hy => ?_⟩
            have hp : (fd.params.args.map (·.arg))[i]? = some n := by rw [c13, List.getElem?_take_of_lt z]; exact hn
            rw [hy w (by rw [List.getElem?_zip_eq_some]; exact ⟨hp, hw⟩)]
            exact .some hvr
          · refine ⟨none, ?_, fun y _ => .none⟩
            unfold initV
            rw [List.getElem?_append_right (by simp; omega), List.getElem?_replicate]
            rw [if_pos (by simp; omega)]
        have hzn : (((fd.params.args.map (·.arg)).zip vals).map (·.1)).Nodup := by rw [List.map_fst_zip (by omega)]; exact hpn
        have fr : Frm R' env fd.scope (F.slots.map Str.ofString) (initV F args) := by
          refine ⟨by rw [es]; exact c11, eg, eb, fun id h => ?_, fun id h => ?_, fun id h => ?_, fun id h => by rw [ek]; exact h, fun id h => by rw [ek]; exact h, by rw [hlen2, List.length_map], fun n n' a h h' => name_of_addr x.apart (mem_of_lookup h) (mem_of_lookup h'), ⟨m, hL, fun i n hn hk => ?_⟩, fun i n hn hk => ?_⟩
          · rw [ek]; simpa [isGlob] using h
          · rw [ek]; unfold kindOk at h; split at h <;> simp_all
          · rw [ek]; unfold locKind at h; split at h <;> simp_all
          · obtain ⟨v, h1, h2⟩ := hget i n hn
            exact ⟨v, h1, h2 _ fun w hw => by rw [← hm]; exact bindL_get hzn hw hk⟩
          · obtain ⟨v, h1, h2⟩ := hget i n hn
            rcases hkinds n (List.mem_of_getElem? hn) with z | ⟨z1, z2⟩
            · rw [ek, z] at hk; rcases hk with hk | hk <;> cases hk
            · obtain ⟨a, ha⟩ := Option.isSome_iff_exists.mp (show (env.cells.lookup n).isSome = true by rw [ec, hcs]; exact z2)
              exact ⟨a, _, v, ha, hcell n a ha, h1, h2 _ fun w hw => by rw [← hcm]; exact bindC_get hzn hw (by rw [ek]; exact z1)⟩
        have ev : Ev ⟨c, n, md⟩ (A.deeper env) R' env stk := by
          refine ⟨⟨?_, ?_, ?_, aok.hand⟩, fun e he => ?_⟩
          · show A.frames.map (env :: ·) = _; rw [aok.frames]; rfl
          · have := aok.depth; show A.depth + 1 + 110 + 4 + 8 * n < _; omega
          · have := aok.units; show A.units + 3 + 100 + 10 * 4 + 60 * n < _; omega
          · rcases List.mem_cons.mp he with rfl | he
            · exact ⟨by rw [es]; exact c11, ef, by rw [es]; exact c10, by rw [es]; exact c9, eb, eg, m, hL⟩
            · have G := stkok e he
              obtain ⟨mm, hmm⟩ := G.ns
              exact ⟨G.kind, G.frame, G.gen, G.co, G.blt, G.glob, mm, hold _ _ hmm⟩
        have sm : Sm s s₁ := x.toInCall.same
        have back : ∀ {R₂ : RR}, RStep env R' R₂ → ∀ b r, R b = some r → R₂ b = some r := fun {R₂} r b y e => by
          have hlt : @LT.lt Nat _ b s.heap.objs.size := by obtain ⟨ob, w⟩ := (S.res b y e).2.there; exact lts w
          rcases r b with h | ⟨h, _⟩ | ⟨⟨nn, h⟩, _⟩
          · rw [h]; exact hold b y e
          · rw [h, el] at hlt; exact absurd hlt (Nat.lt_irrefl _)
          · have := habove _ (mem_of_lookup h); exact absurd (Nat.lt_trans hlt this) (Nat.lt_irrefl _)
        refine wpAny_mono (sSs (g := ⟨c, n, md⟩) C PO c15 F.body body c18 md (A.deeper env) env stk R' (initV F args) s s₁ H _ Q _ ev fr S₁ sm q) (fun fl s₂ z => ?_) fun e s₂ z => ?_
        · cases fl with
          | next =>
            obtain ⟨R₂, V₂, H₂, r₂, _, S₂, m₂, q₂⟩ := z
            exact kQ .none .none s₂ H₂ .none (S₂.weaken (back r₂)) m₂ q₂
          | ret v =>
            obtain ⟨R₂, av, H₂, r₂, hv₂, S₂, m₂, q₂⟩ := z
            exact kQ av v s₂ H₂ hv₂ (S₂.weaken (back r₂)) m₂ q₂
          | brk => exact z.elim
          | cont => exact z.elim
        · obtain ⟨a, cl, R₂, V₂, H₂, fl, rfl, r₂, f₂, hfl, X₂, m₂, q₂⟩ := z
          refine exc_leave ev.aok.frames (r₂.stk ev.stk) X₂ hfl fun h' X₃ => ?_
          exact kE a cl _ H₂ (X₃.weaken (back r₂)) (m₂.heap h') q₂
      · cases hok
    · cases hok
  · cases hok
end Mine

end
section
open PySem PySem.W PyProof.Rows PySem.Spec PySem.SeqAt PySem.Calls
namespace Mine

noncomputable def addrOf (v : Option (Option Value)) : Addr := match v with
  | some (some (.ref a)) => a
  | _ => 0
noncomputable def caOf (K : Frag) (cl : String) : Addr := addrOf (nsIn K mainGlobals (Str.ofString cl))
noncomputable def faOf (K : Frag) (P : Pg) (f : String) : Addr := match P.meths.find? (fun p => p.1 ++ "." ++ p.2 == f) with
  | some (cl, m) => addrOf (findIn K (.ref (caOf K cl)) (Str.ofString m))
  | none => addrOf (nsIn K mainGlobals (Str.ofString f))
noncomputable def vrB (a : AV) (v : Value) : Bool := match a with
  | .none => v == .none
  | .bool a => v == .bool a
  | .int a => if h : v.ctorIdx = 4 then Value.int.elim (motive := fun _ => Bool) v h fun b _ => b == a else false
  | .str a => if h : v.ctorIdx = 6 then Value.str.elim (motive := fun _ => Bool) v h fun b _ => b == a && PyData.strOk b else false
  | .ref _ => false
set_option tactic.hygienic false in
theorem vr_of {a : AV} {v : Value} (h : vrB a v = true) : VR a v := by
  cases a with
  | none => rw [eq_of_beq h]; exact .none
  | bool b => rw [eq_of_beq h]; exact .bool b
  | int i => exact (dn h).elim fun q z => Value.int.elim (motive := fun v => ∀ q, Value.int.elim (motive := fun _ => Bool) v q (fun b _ => b == i) = true → VR (.int i) v) v q (fun b t _ z => eq_of_beq z ▸ .int b t) q z
  | str x => exact (dn h).elim fun q z => Value.str.elim (motive := fun v => ∀ q, Value.str.elim (motive := fun _ => Bool) v q (fun b _ => b == x && PyData.strOk b) = true → VR (.str x) v) v q (fun b t _ z => eq_of_beq (and2 z).1 ▸ .str b t (and2 z).2) q z
  | ref p => exact Bool.noConfusion h

noncomputable def okFn (K : Frag) (P : Pg) : Bool := P.gfns.all fun f => nsIn K mainGlobals (Str.ofString f) == some (some (.ref (faOf K P f))) && keepIn K (.ref (faOf K P f))
noncomputable def okCls (K : Frag) (P : Pg) : Bool := P.classes.all fun cl => nsIn K mainGlobals (Str.ofString cl) == some (some (.ref (caOf K cl))) && keepIn K (.ref (caOf K cl)) && makesIn K (caOf K cl) &&
  findIn K (.ref (caOf K cl)) "__init__" == some (some (.ref (faOf K P (cl ++ ".__init__")))) && isFn K (.ref (faOf K P (cl ++ ".__init__")))
noncomputable def okMeth (K : Frag) (P : Pg) : Bool := P.meths.all fun p => plainGet K (caOf K p.1) (Str.ofString p.2) && findIn K (.ref (caOf K p.1)) (Str.ofString p.2) == some (some (.ref (faOf K P (p.1 ++ "." ++ p.2)))) &&
  isFn K (.ref (faOf K P (p.1 ++ "." ++ p.2))) && keepIn K (.ref (faOf K P (p.1 ++ "." ++ p.2)))
noncomputable def okAttr (K : Frag) (P : Pg) : Bool := P.attrs.all fun p => plainGet K (caOf K p.1) (Str.ofString p.2) && hasDictIn K (caOf K p.1) && findIn K (.ref (caOf K p.1)) (Str.ofString p.2) == some none &&
  findIn K (.ref (caOf K p.1)) "__setattr__" == some (some (.builtin "object.__setattr__")) && plainOver K (caOf K p.1) && takerIn K (caOf K p.1) (Str.ofString p.2) == some none
noncomputable def okPrim (K : Frag) (P : Pg) : Bool := P.prims.all fun f => nsIn K mainGlobals (Str.ofString f) == some none && !(Str.ofString f == Str.ofString "__name__") && bootBuiltins (Str.ofString f) == some (primValS f)
noncomputable def okG (K : Frag) (P : Pg) (cl : String) : Bool := findIn K (.ref (caOf K cl)) "__getattribute__" == some (some (.builtin "BaseException.__getattribute__")) && findIn K (.ref (caOf K cl)) "__getattr__" == some none && findIn K (.ref (caOf K cl)) "__class__" == some (some (.builtin "object.__class__")) &&
  specialIn K (.builtin "object.__class__") "__get__" == some (some (.builtin "getset_descriptor.__get__")) && takesIn K (.builtin "object.__class__") == some true && mroIn K (caOf K cl) (.type "object") == some true && excSub P cl cl
noncomputable def okExc (K : Frag) (P : Pg) : Bool := P.excs.all fun p => p.2.all (fun ty => !P.prims.contains ty || (ty == "ValueError" && subIn K (.ref (caOf K p.1)) (.type ty) == some true)) &&
  nsIn K mainGlobals (Str.ofString p.1) == some (some (.ref (caOf K p.1))) && excIn K (caOf K p.1) veM "ValueError.__new__" && instIn K (.ref (caOf K p.1)) (.type "tuple") == some false && subIn K (.ref (caOf K p.1)) (.type "BaseException") == some true &&
  (clsIn K (caOf K p.1)).isSome && typeIn K (.ref (caOf K p.1)) == some (.type "type") && instIn K (.ref (caOf K p.1)) (.type "type") == some true && !typeNames.contains p.1 && (P.excs.all fun q => subIn K (.ref (caOf K p.1)) (.ref (caOf K q.1)) == some (excSub P p.1 q.1)) && okG K P p.1
noncomputable def okConst (K : Frag) (P : Pg) : Bool := P.consts.all fun p => match nsIn K mainGlobals (Str.ofString p.1) with
  | some (some x) => vrB p.2 x
  | _ => false
noncomputable def okFns (K : Frag) (P : Pg) : Bool := P.fns.all fun p => fnOk K P (faOf K P p.1) p.2
noncomputable def okAll (K : Frag) (P : Pg) : Bool := okFn K P && okCls K P && okMeth K P && okAttr K P && okPrim K P && okExc K P && okConst K P && okFns K P

set_option tactic.hygienic false in
theorem lookup_mem {α : Type} : ∀ {l : List (String × α)} {n : String} {c : α}, l.lookup n = some c → (n, c) ∈ l
  | (k, v) :: r, n, c, h => by
    rw [List.lookup_cons] at h
    cases hb : n == k with
    | true => rw [hb] at h; cases h; rw [beq_iff_eq.mp hb]; exact List.mem_cons_self
    | false => rw [hb] at h; exact List.mem_cons_of_mem _ (lookup_mem h)

noncomputable def cxOf (prog : Program) (w : World) (K : Frag) (base : Heap) (P : Pg) : Cx := ⟨prog, w, K, base, P, faOf K P, caOf K⟩

theorem all_at {α : Type} {l : List α} {p : α → Bool} (h : l.all p = true) {a : α} (m : a ∈ l) : p a = true := List.all_eq_true.mp h a m
theorem con_mem {α : Type} [BEq α] [LawfulBEq α] {l : List α} {a : α} (h : l.contains a = true) : a ∈ l := List.contains_iff_mem.mp h
set_option tactic.hygienic false in
theorem sub_some {α : Type} {o : Option (List String)} {ty : String} (h : (o.map (·.contains ty)).getD false = true) : ∃ l, o = some l ∧ ty ∈ l := by
  cases o with
  | none => cases h
  | some l => exact ⟨l, rfl, con_mem h⟩
theorem pgOk_of {prog : Program} {w : World} {K : Frag} {base : Heap} {P : Pg} (h : okAll K P = true) : PgOk (cxOf prog w K base P) ∧ ∀ f F, P.fns.lookup f = some F → fnOk K P (faOf K P f) F = true := by
  have g8 := and2 h; have g7 := and2 g8.1; have g6 := and2 g7.1; have g5 := and2 g6.1; have g4 := and2 g5.1; have g3 := and2 g4.1; have g2 := and2 g3.1
  refine ⟨⟨fun f hf => ?_, fun cl hf => ?_, fun cl m hf => ?_, fun cl n hf => ?_, fun f hf => ?_, fun cl ty hf ht => ?_, fun cl hf => ?_, fun cl d hc hd => ?_, fun cl hf => ?_, fun n v hf => ?_⟩, fun f F hf => all_at g8.2 (lookup_mem hf)⟩
  · have z := and2 (all_at g2.1 (con_mem hf))
    exact ⟨eq_of_beq z.1, z.2⟩
  · have a5 := and2 (all_at g2.2 (con_mem hf)); have a4 := and2 a5.1; have a3 := and2 a4.1; have a2 := and2 a3.1
    exact ⟨eq_of_beq a2.1, a2.2, a3.2, eq_of_beq a4.2, a5.2⟩
  · have a4 := and2 (all_at g3.2 (con_mem hf)); have a3 := and2 a4.1; have a2 := and2 a3.1
    exact ⟨a2.1, eq_of_beq a2.2, a3.2, a4.2⟩
  · have a6 := and2 (all_at g4.2 (con_mem hf)); have a5 := and2 a6.1; have a4 := and2 a5.1; have a3 := and2 a4.1; have a2 := and2 a3.1
    exact ⟨a2.1, a2.2, eq_of_beq a3.2, eq_of_beq a4.2, a5.2, eq_of_beq a6.2⟩
  · have a3 := and2 (all_at g5.2 (con_mem hf)); have a2 := and2 a3.1
    exact ⟨eq_of_beq a2.1, not1 a2.2, eq_of_beq a3.2⟩
  · obtain ⟨l, hl, hm⟩ := sub_some (α := Nat) hf
    have a11 := and2 (all_at g6.2 (lookup_mem hl)); have a10 := and2 a11.1; have a9 := and2 a10.1; have a8 := and2 a9.1; have a7 := and2 a8.1; have a6 := and2 a7.1; have a5 := and2 a6.1; have a4 := and2 a5.1; have a3 := and2 a4.1; have a2 := and2 a3.1
    have q := all_at a2.1 hm
    rw [show P.prims.contains ty = true from ht] at q
    exact ⟨eq_of_beq (and2 q).1, eq_of_beq (and2 q).2⟩
  · obtain ⟨l, hl⟩ := Option.isSome_iff_exists.mp hf
    have a11 := and2 (all_at g6.2 (lookup_mem hl)); have a10 := and2 a11.1; have a9 := and2 a10.1; have a8 := and2 a9.1; have a7 := and2 a8.1; have a6 := and2 a7.1; have a5 := and2 a6.1; have a4 := and2 a5.1; have a3 := and2 a4.1; have a2 := and2 a3.1
    exact ⟨eq_of_beq a2.2, a3.2, eq_of_beq a4.2, eq_of_beq a5.2, a6.2, eq_of_beq a7.2, eq_of_beq a8.2, not1 a9.2⟩
  · obtain ⟨l, hl⟩ := Option.isSome_iff_exists.mp hc
    obtain ⟨l', hl'⟩ := Option.isSome_iff_exists.mp hd
    exact eq_of_beq (all_at (and2 (and2 (all_at g6.2 (lookup_mem hl))).1).2 (lookup_mem hl'))
  · obtain ⟨l, hl⟩ := Option.isSome_iff_exists.mp hf
    have a7 := and2 (and2 (all_at g6.2 (lookup_mem hl))).2; have a6 := and2 a7.1; have a5 := and2 a6.1; have a4 := and2 a5.1; have a3 := and2 a4.1; have a2 := and2 a3.1
    exact ⟨eq_of_beq a2.1, eq_of_beq a2.2, eq_of_beq a3.2, eq_of_beq a4.2, eq_of_beq a5.2, eq_of_beq a6.2, a7.2⟩
  · have q := all_at g7.2 (lookup_mem hf)
    dsimp only at q
    split at q
    · rename_i x hx; exact ⟨x, hx, vr_of q⟩
    · cases q

noncomputable def scriptH (p : Addr) (ns : List Int) : AHeap := fun a => if a = p then some (.script ns) else none

set_option tactic.hygienic false in
theorem ints_vr {vs : List Value} {ns : List Int} (h : IntsAre vs ns) : VRs (ns.map AV.int) vs := by
  induction h with
  | nil => exact .nil
  | cons n t _ ih => exact .cons (.int n t) ih

theorem enter {prog : Program} {w : World} {K : Frag} {P : Pg} {mg mb : Str → Option Value} {p : Program} {loose : List Str} {mean : ExcName → Option Value} {s₁ : Shared} {fa sp : Addr} {vs : List Value} {ns : List Int} {n : Nat} {E : Value → Shared → Prop} {Q : Value → Shared → Prop} {nl : Str}
    (hn : n ≤ 50) (KX : K.In s₁.heap) (T : Top p loose mean mg mb s₁.heap) (hseer : s₁.heap.NoSeer) (htree : prog.given.tree = none) (hnl : nl = Str.ofString "law") (hmg : mg nl = some (.ref fa)) (hok : okAll K P = true) (hlaw : P.gfns.contains "law" = true)
    (hget : s₁.heap.get? sp = some { cls := .type "list", data := .seq vs.toArray }) (hI : IntsAre vs ns)
    (hcall : ∀ c : Cx, c.P = P → c.Ok mg mb → PgOk c → (∀ f F, P.fns.lookup f = some F → fnOk c.K P (c.fa f) F = true) → CallOK c n true "law" [.ref sp] (fun v _ => v = .bool true) (fun _ _ => False) (scriptH sp ns))
    (hq : ∀ s', s₁.heap.StaysIn s'.heap → s'.os = s₁.os → s'.gens = s₁.gens → Q (.bool true) s') : wpAny (model prog w) callerA (call (.ref fa) [.ref sp]) Q E s₁ := by
  obtain ⟨PO, FO⟩ := pgOk_of (prog := prog) (w := w) (base := s₁.heap) hok
  have C : (cxOf prog w K s₁.heap P).Ok mg mb := ⟨KX, T.g, T.b, T.nolimit, T.builtins, hseer, htree, p, loose, topRead_of T⟩
  have hfa : fa = (cxOf prog w K s₁.heap P).fa "law" := by
    have h1 := (PO.fn "law" hlaw).1
    have h2 := mg_of KX T.g h1
    rw [← hnl, hmg] at h2
    exact Value.ref.inj (Option.some.inj h2)
  have S : St (cxOf prog w K s₁.heap P) (fun _ => none) (scriptH sp ns) s₁.heap := by
    have hs : ∀ a o, scriptH sp ns a = some o → a = sp ∧ o = .script ns := fun a o e => by
      unfold scriptH at e
      split at e
      · rename_i z; cases e; exact ⟨z, rfl⟩
      · cases e
    refine ⟨_, (?_ : St1 _ _ (scriptH sp ns) _), Real.raw fun a o e => by rw [(hs a o e).2]; rfl⟩
    refine ⟨fun _ _ e => e, Nat.le_refl _, fun _ _ e => (by cases e), fun _ => 0, ⟨fun a o e => ?_, fun a o e => ?_, fun a cl es e => ?_, fun a b cl es cl' es' e => ?_⟩⟩
    · obtain ⟨rfl, rfl⟩ := hs a o e
      exact ⟨vs, 0, hget, ints_vr hI⟩
    · obtain ⟨rfl, rfl⟩ := hs a o e
      exact ⟨⟨fun w => (by cases w), fun w => (by cases w)⟩, rfl⟩
    · cases (hs a _ e).2
    · cases (hs a _ e).2
  rw [hfa]
  refine wpAny_call (hcall _ rfl C PO FO callerA [] (fun _ => none) s₁ [.ref sp] _ ⟨rfl, ?_, ?_, fun _ => rfl⟩ (fun e he => by cases he) S (.cons (.ref sp) .nil) ?_ ?_)
  · show 1 + 300 + 110 + 0 + 8 * n < 1000; omega
  · show 4 + 100 + 10 * 0 + 60 * n < 9900; omega
  · rintro av v s' H' hv S' m rfl
    cases hv
    obtain ⟨h, tk, rfl⟩ := m
    exact hq _ S'.stays rfl rfl
  · rintro e cl s' H' _ _ h; exact h.elim
end Mine

end
section
open PySem PySem.W PyProof.Rows PySem.Spec PySem.SeqAt PySem.Calls
namespace Mine

structure Gd (c : Cx) (P : Pg) : Prop where
  hP : c.P = P
  ok : ∃ mg mb, c.Ok mg mb
  pg : PgOk c
  fn : ∀ f F, P.fns.lookup f = some F → fnOk c.K P (c.fa f) F = true

set_option tactic.hygienic false in
theorem Gd.call {c : Cx} {P : Pg} (G : Gd c P) {n : Nat} {md : Bool} {f : String} {F : Fn} (hf : P.fns.lookup f = some F) {args : List AV} {Q : AV → AHeap → Prop} {E : String → AHeap → Prop} {H : AHeap} (hlen : args.length = F.npar)
    (q : wpSs ⟨c, n, md⟩ F.body (fun _ H => Q .none H) Q (fun cl _ H => E cl H) (initV F args) H) : CallOK c (n + 1) md f args Q E H := by
  obtain ⟨mg, mb, C⟩ := G.ok
  have := G.fn f F hf
  rw [← G.hP] at this
  exact call_intro C G.pg this hlen q

section
variable {Q : AV → AHeap → Prop} {H : AHeap} {x y : Int} {a b : Str}
theorem b_add : wbin .Add (.int x) (.int y) Q H = Q (.int (x + y)) H := rfl
theorem b_sub : wbin .Sub (.int x) (.int y) Q H = Q (.int (x - y)) H := rfl
theorem b_mul : wbin .Mult (.int x) (.int y) Q H = (IntMulOk x y ∧ Q (.int (x * y)) H) := rfl
theorem b_div : wbin .FloorDiv (.int x) (.int y) Q H = (y ≠ 0 ∧ Q (.int (x.fdiv y)) H) := rfl
theorem b_mod : wbin .Mod (.int x) (.int y) Q H = (y ≠ 0 ∧ Q (.int (x.fmod y)) H) := rfl
theorem b_pow : wbin .Pow (.int x) (.int y) Q H = ((2 ≤ x ∧ 1 ≤ y ∧ Builtin.Int.intTooBig (((Builtin.Int.intBits x : Nat) : Int) * y) = false) ∧ Q (.int (x ^ y.toNat)) H) := rfl
theorem b_adds : wbin .Add (.str a) (.str b) Q H = (a.length + b.length ≤ sizeLine ∧ Q (.str (a ++ b)) H) := rfl
theorem c_lt : wcmp .Lt (.int x) (.int y) Q H = Q (.bool (decide (x < y))) H := rfl
theorem c_le : wcmp .LtE (.int x) (.int y) Q H = Q (.bool (decide (x ≤ y))) H := rfl
theorem c_gt : wcmp .Gt (.int x) (.int y) Q H = Q (.bool (decide (y < x))) H := rfl
theorem c_ge : wcmp .GtE (.int x) (.int y) Q H = Q (.bool (decide (y ≤ x))) H := rfl
theorem c_eq : wcmp .Eq (.int x) (.int y) Q H = Q (.bool (x == y)) H := rfl
theorem c_ne : wcmp .NotEq (.int x) (.int y) Q H = Q (.bool (x != y)) H := rfl
theorem c_eqs : wcmp .Eq (.str a) (.str b) Q H = Q (.bool (a == b)) H := rfl
theorem c_nes : wcmp .NotEq (.str a) (.str b) Q H = Q (.bool (a != b)) H := rfl
theorem c_in {u v : AV} : wcmp .In u v Q H = win false u v Q H := rfl
theorem c_nin {u v : AV} : wcmp .NotIn u v Q H = win true u v Q H := rfl
theorem t_bool {H : AHeap} {P : Bool → Prop} {t : Bool} : wtruth (.bool t) H P = P t := rfl
theorem t_int {H : AHeap} {P : Bool → Prop} {i : Int} : wtruth (.int i) H P = P (i != 0) := rfl
theorem t_none {H : AHeap} {P : Bool → Prop} : wtruth .none H P = P false := rfl
end

set_option tactic.hygienic false in
theorem script_get {P : Params} {h : Heap} {sp : Addr} {xs : List PyData} {vs : List Value} (W : Well P h (.ref sp) (ofPy (.list xs))) (L : h.IsList sp vs.toArray) : h.get? sp = some { cls := .type "list", data := .seq vs.toArray } := by
  obtain ⟨o, ho, hc, n, hd⟩ := L
  rw [ofPy] at W
  cases W with
  | list h1 _ => rw [ho] at h1; cases h1; cases hd; exact ho
set_option tactic.hygienic false in
theorem scriptH_at {sp : Addr} {ns : List Int} : scriptH sp ns sp = some (.script ns) := by unfold scriptH; rw [if_pos rfl]

end Mine

end
section
open PySem PySem.W PyProof.Rows
namespace Mine

noncomputable def bcons (x : Obj) : BT → BT
  | .nil => .node x .nil .nil
  | .node y l r => .node x (bcons y r) l
noncomputable def ofL : List Obj → BT
  | [] => .nil
  | x :: xs => bcons x (ofL xs)
set_option tactic.hygienic false in
theorem get_odd {v : Obj} {l r : BT} {k : Nat} : (BT.node v l r).get (2 * k + 1) = l.get k := by
  rw [BT.get_node, if_neg (Nat.succ_ne_zero _), if_pos (by omega), show (2 * k + 1) / 2 = k by omega]
set_option tactic.hygienic false in
theorem get_even {v : Obj} {l r : BT} {k : Nat} : (BT.node v l r).get (2 * k + 2) = r.get k := by
  rw [BT.get_node, if_neg (Nat.succ_ne_zero _), if_neg (by omega), show (2 * k + 2) / 2 - 1 = k by omega]
theorem halves : ∀ i : Nat, i = 0 ∨ ∃ k, i = 2 * k + 1 ∨ i = 2 * k + 2
  | 0 => .inl rfl
  | 1 => .inr ⟨0, .inl rfl⟩
  | i + 2 => .inr (match halves i with
    | .inl h => ⟨0, .inr (congrArg (· + 2) h)⟩
    | .inr ⟨k, .inl h⟩ => ⟨k + 1, .inl (congrArg (· + 2) h)⟩
    | .inr ⟨k, .inr h⟩ => ⟨k + 1, .inr (congrArg (· + 2) h)⟩)
set_option tactic.hygienic false in
theorem get_bcons : ∀ (t : BT) (x : Obj) (i : Nat), (bcons x t).get i = if i = 0 then some x else t.get (i - 1)
  | .nil, x, i => by
    rcases halves i with rfl | ⟨k, rfl | rfl⟩
    · rfl
    · exact get_odd
    · exact get_even
  | .node y l r, x, i => by
    rcases halves i with rfl | ⟨k, rfl | rfl⟩
    · rfl
    · refine get_odd.trans ?_
      rw [get_bcons r y, if_neg (Nat.succ_ne_zero _)]
      cases k with
      | zero => rfl
      | succ j => exact get_even.symm
    · exact get_even.trans (get_odd (v := y) (r := r)).symm
set_option tactic.hygienic false in
theorem get_ofL : ∀ (l : List Obj) (i : Nat), (ofL l).get i = l[i]?
  | [], i => by simp [ofL, BT.get]
  | x :: xs, i => by
    unfold ofL
    rw [get_bcons, get_ofL xs]
    cases i with
    | zero => simp
    | succ n => simp
set_option tactic.hygienic false in
theorem abs_ofL (h : Heap) : absHeap (ofL h.objs.toList) h.objs.size h.life = h := by
  obtain ⟨⟨l⟩, life⟩ := h
  unfold absHeap BT.list
  have : (List.range l.length).map (fun i => ((ofL l).get i).getD default) = l := by
    apply List.ext_getElem?
    intro i
    rw [List.getElem?_map]
    by_cases h : i < l.length
    · rw [List.getElem?_range h, Option.map_some, get_ofL]
      simp [h]
    · rw [List.getElem?_eq_none (by simpa using h), List.getElem?_eq_none (by omega)]; rfl
  exact congrArg (fun x : List Obj => Heap.mk x.toArray life) this

noncomputable def topRunT (tb : String → Option Builtin) (p : Program) (w : World) (n₀ : Nat) (ann : Option Value) : Nat → SharedT → Thread → Option SharedT
  | 0, _, _ => none
  | n + 1, s, t => match through t with
    | true => some s
    | false => match stepOk n₀ ann t with
      | false => none
      | true => match stepT (denote tb) p w s t with
        | some (s', t') => topRunT tb p w n₀ ann n s' t'
        | none => none
set_option tactic.hygienic false in
theorem topRun_of {tb : String → Option Builtin} {p : Program} {w : World} {n₀ : Nat} {ann : Option Value} : ∀ {n : Nat} {s s' : SharedT} {t : Thread}, topRunT tb p w n₀ ann n s t = some s' → topRun tb p w n₀ ann n s.abs t = some s'.abs
  | 0, _, _, _, h => by cases h
  | n + 1, s, s', t, h => by
    unfold topRunT at h
    unfold topRun
    cases he : through t with
    | true => rw [he] at h; cases h; rfl
    | false =>
      rw [he] at h
      cases hk : stepOk n₀ ann t with
      | false => rw [hk] at h; cases h
      | true =>
        rw [hk] at h
        cases hs : stepT (denote tb) p w s t with
        | none => rw [hs] at h; cases h
        | some r => obtain ⟨s₂, t₂⟩ := r; rw [hs] at h; rw [stepT_spec hs]; exact topRun_of h

noncomputable def topRunQ (p : Program) (w : World) (n₀ : Nat) (ann : Option Value) : Nat → SharedT → Thread → Option SharedT
  | 0, _, _ => none
  | n + 1, s, t => match through t with
    | true => some s
    | false => match Fast.tw6613529449190102663 n₀ ann t with
      | false => none
      | true => match Fast.tw10156331382660048174 (Fast.tw11892475500146522536 Fast.tw14364793385576792824) p w s t with
        | some (s', t') => topRunQ p w n₀ ann n s' t'
        | none => none
set_option tactic.hygienic false in
theorem topRunQ_eq {p : Program} {w : World} {n₀ : Nat} {ann : Option Value} : ∀ (n : Nat) (s : SharedT) (t : Thread), topRunQ p w n₀ ann n s t = topRunT treeTable p w n₀ ann n s t
  | 0, _, _ => rfl
  | n + 1, s, t => by
    rw [topRunQ, topRunT, ← Fast.te6613529449190102663, ← Fast.te10156331382660048174, ← Fast.te11892475500146522536, ← Fast.te14364793385576792824]
    cases through t with
    | true => rfl
    | false =>
      cases stepOk n₀ ann t with
      | false => rfl
      | true =>
        cases stepT (denote treeTable) p w s t with
        | none => rfl
        | some r => exact topRunQ_eq n r.1 r.2

noncomputable def bootT (w : World) (os : OsState) : SharedT := ⟨ofL (boot_heap w.params).objs.toList, (boot_heap w.params).objs.size, (boot_heap w.params).life, Array.mk [], boot_drawn, boot_toks, os⟩

set_option tactic.hygienic false in
theorem left_of {p q : Program} {loose : List Str} {Xt : Shared → Bool} {α : Type} {Yf : Shared → α} {YT : SharedT → α} {Ya : World → α} {N : Nat} {g0 : Bool} {ann : Option Value} {m₀ : Nat} (hY : ∀ s, Yf s.abs = YT s)
    (e : opening p = plainProg p.main.scope.names) (hN : Nat.ble 600 N = true) (f : ∀ s, fenceModules? p s = some s)
    (size : ∀ w : World, ((boot_heap w.params).isNs mainGlobals, (boot_heap w.params).objs.size, (boot_heap w.params).nsMap mainGlobals "__annotations__") = (true, m₀, ann))
    (run : ∀ (w : World) (os : OsState), (topRunQ p w m₀ ann N (bootT w os) (topStub p)).map (fun s =>
      (staticsOk (importedModules p.main.body) (boot_heap w.params) s.abs.heap && namesBound p s.abs.heap && gensDone s.abs && laidKept (boot_heap w.params) s.abs.heap, Fast.tw4187177175401517315 q loose (importedModules p.main.body) Xt g0 s.abs, YT s)) = some (true, openGood q loose, Ya w)) :
    LeftO p q loose Xt Yf Ya N g0 := fun w => by
  obtain ⟨⟨h, gs, d, k, os⟩, e1, e2⟩ := Option.map_eq_some_iff.mp (boot_open e hN f w)
  obtain ⟨rfl, rfl, rfl, rfl⟩ : h = boot_heap w.params ∧ gs = Array.mk [] ∧ d = boot_drawn ∧ k = boot_toks := by simpa using e2
  obtain ⟨z1, z2, z3⟩ : _ ∧ _ ∧ _ := by simpa only [Prod.mk.injEq] using size w
  obtain ⟨s₁, r1, r2⟩ := Option.map_eq_some_iff.mp (run w os)
  obtain ⟨l1, l2, l3⟩ : _ ∧ _ ∧ _ := by simpa only [Prod.mk.injEq] using r2
  rw [topRunQ_eq] at r1
  rw [← Fast.te4187177175401517315] at l2
  have r3 := topRun_of r1
  have ab : (bootT w os).abs = ⟨boot_heap w.params, Array.mk [], boot_drawn, boot_toks, os⟩ := by
    unfold bootT SharedT.abs
    rw [abs_ofL]
  rw [ab] at r3
  have t : topFrom treeTable p w N ⟨boot_heap w.params, Array.mk [], boot_drawn, boot_toks, os⟩ = some s₁.abs := by
    unfold topFrom
    dsimp only
    rw [z1, z2, z3, r3]
    show (match staticsOk (importedModules p.main.body) (boot_heap w.params) s₁.abs.heap && namesBound p s₁.abs.heap && gensDone s₁.abs && laidKept (boot_heap w.params) s₁.abs.heap with | true => _ | false => _) = _
    rw [l1]
  unfold openEnds
  rw [e1]
  show (topFrom treeTable p w N _).map _ = _
  rw [t]
  exact congrArg some (Prod.ext l2 ((hY s₁).trans l3))
end Mine

end
section
open PySem PySem.W PyProof.Rows PySem.Spec PySem.SeqAt PySem.Calls
namespace Mine

noncomputable def fragAt (h : Heap) (as : List Addr) : Frag := as.filterMap fun a => (h.get? a).map fun o => (a, o)
set_option tactic.hygienic false in
theorem fragAt_in {h : Heap} {as : List Addr} : (fragAt h as).In h := by
  intro a o e
  induction as with
  | nil => cases e
  | cons b r ih =>
    unfold fragAt at e ih
    rw [List.filterMap_cons] at e
    cases hb : h.get? b with
    | none => rw [hb] at e; exact ih e
    | some ob =>
      rw [hb] at e
      simp only [Option.map_some] at e
      rw [List.lookup_cons] at e
      cases hab : a == b with
      | true => rw [hab] at e; cases e; rw [beq_iff_eq.mp hab]; exact hb
      | false => rw [hab] at e; exact ih e
set_option tactic.hygienic false in
theorem abs_get' {t : BT} {n : Nat} {life : Life} {a : Nat} : (absHeap t n life).get? a = if a < n then alive ((t.get a).getD default) else none := by
  unfold Heap.get?
  rw [absHeap_at]
  by_cases h : a < n
  · rw [if_pos h, if_pos h]
    generalize (t.get a).getD default = o
    obtain ⟨c, d, dt, sl⟩ := o
    cases dt <;> rfl
  · rw [if_neg h, if_neg h]
noncomputable def fragT (t : BT) (n : Nat) : List Addr → Frag
  | [] => []
  | a :: r => match Nat.blt a n with
    | true => (match alive ((t.get a).getD default) with
      | some o => (a, o) :: fragT t n r
      | none => fragT t n r)
    | false => fragT t n r
set_option tactic.hygienic false in
theorem fragT_eq {t : BT} {n : Nat} {life : Life} : ∀ {as : List Addr}, fragAt (absHeap t n life) as = fragT t n as
  | [] => rfl
  | a :: r => by
    have ih := fragT_eq (t := t) (n := n) (life := life) (as := r)
    unfold fragAt at ih ⊢
    rw [List.filterMap_cons, fragT, ih, abs_get']
    cases h : Nat.blt a n with
    | true =>
      rw [if_pos (show a < n from Nat.le_of_ble_eq_true h)]
      cases alive ((t.get a).getD default) <;> rfl
    | false =>
      rw [if_neg (fun q => by rw [show Nat.blt a n = true from Nat.ble_eq_true_of_le q] at h; cases h)]
      rfl
noncomputable def mineHook (P : Pg) (as : List Addr) : Hook where
  α := Bool
  obs s := okAll (fragAt s.heap as) P
  val _ := true
  says _ h := ∃ K : Frag, K.In h ∧ okAll K P = true
  of _ s e := ⟨_, fragAt_in, e⟩
  keeps _ _ _ := fun ⟨K, a, b⟩ k => ⟨K, Frag.In.keeps a k, b⟩
theorem mineHook_T {P : Pg} {as : List Addr} (s : SharedT) : (mineHook P as).obs s.abs = okAll (fragT s.tree s.n as) P := congrArg (okAll · P) fragT_eq
end Mine

end
section
open PySem PySem.W PyProof.Rows PySem.Spec PySem.SeqAt PySem.Calls
namespace Mine

noncomputable def Gh (H H' : AHeap) : Prop := ∀ H₁, Real H H₁ → Real H' H₁
theorem Gh.refl {H : AHeap} : Gh H H := fun _ r => r
theorem Gh.less {H H' : AHeap} (k : ∀ a x, H' a = some x → H a = some x) : Gh H H' := fun _ r => r.less k
theorem St.gh {c : Cx} {R : RR} {H H' : AHeap} {h : Heap} (S : St c R H h) (g : Gh H H') : St c R H' h := let ⟨H₁, s, r⟩ := S; ⟨H₁, s, g H₁ r⟩
theorem ExcSt.gh {c : Cx} {R : RR} {H H' : AHeap} {e : Addr} {cl : String} {fl : Value} {h : Heap} (X : ExcSt c R H e cl fl h) (g : Gh H H') : ExcSt c R H' e cl fl h := let ⟨H₁, s, r⟩ := X; ⟨H₁, s, g H₁ r⟩
theorem CallOK.post {c : Cx} {n : Nat} {md : Bool} {f : String} {args : List AV} {Q Q' : AV → AHeap → Prop} {E E' : String → AHeap → Prop} {H : AHeap} (h : CallOK c n md f args Q E H) (k : ∀ v H, Q v H → ∃ H', Gh H H' ∧ Q' v H') (e : ∀ cl H, E cl H → ∃ H', Gh H H' ∧ E' cl H') : CallOK c n md f args Q' E' H :=
  fun A stk R s vals Rs a b d v p q => h A stk R s vals Rs a b d v (fun av v s' H' x y z w => let ⟨H'', g, w'⟩ := k _ _ w; p av v s' H'' x (y.gh g) z w') (fun ee cl s' H' x y z => let ⟨H'', g, w'⟩ := e _ _ z; q ee cl s' H'' (x.gh g) y w')

structure Fr1 (o : Addr → Option Role) (H : AHeap) (o' : Addr → Option Role) (H' : AHeap) : Prop where
  old : ∀ a x, H a = some x → o a = none → H' a = some x ∧ o' a = none
  gr : ∀ a, H' a = none → H a = none
set_option tactic.hygienic false in
theorem up_gr {H : AHeap} {x a : Addr} {y : AObj} (h : up H x y a = none) : H a = none := by
  by_cases e : a = x
  · rw [e, up_same] at h; cases h
  · rw [up_other e] at h; exact h
theorem Fr1.refl {o : Addr → Option Role} {H : AHeap} : Fr1 o H o H := ⟨fun _ _ h k => ⟨h, k⟩, fun _ h => h⟩
theorem Fr1.trans {o o' o'' : Addr → Option Role} {H H' H'' : AHeap} (x : Fr1 o H o' H') (y : Fr1 o' H' o'' H'') : Fr1 o H o'' H'' := ⟨fun a z h k => y.old a z (x.old a z h k).1 (x.old a z h k).2, fun a h => x.gr a (y.gr a h)⟩

set_option tactic.hygienic false in
theorem book_call {c : Cx} {n : Nat} {md : Bool} {f : String} {args : List AV} {Q : AV → AHeap → Prop} {E : String → AHeap → Prop} {H : AHeap} {b : Addr} {B : Bk} (hb : H b = some (.book B))
    (h : ∀ H₂ o f' s p as, IsBook o H₂ b f' s p as B → (∀ a x, H a = some x → a ≠ b → H₂ a = some x ∧ o a = none) →
      CallOK c n md f args
        (fun v H' => ∃ o' f' s p as B', IsBook o' H' b f' s p as B' ∧ Fr1 o H₂ o' H' ∧ ((∀ a, v ≠ .ref a) ∧ Q v (up H b (.book B')) ∨ ∃ z xs, v = .ref z ∧ H z = none ∧ H' z = some (.list xs) ∧ o' z = none ∧ Q v (up (up H b (.book B')) z (.list xs))))
        (fun cl H' => ∃ o' f' s p as B', IsBook o' H' b f' s p as B' ∧ Fr1 o H₂ o' H' ∧ E cl (up H b (.book B'))) H₂) : CallOK c n md f args Q E H := by
  intro A stk R s vals Rs a1 a2 S a4 kQ kE
  obtain ⟨H₁, S1, r⟩ := S
  obtain ⟨H₂, o, f', sa, p, as, r2, ib, hold⟩ := r.unpack hb
  have back : ∀ H' o' f' s p as B', IsBook o' H' b f' s p as B' → Fr1 o H₂ o' H' → Gh H' (up H b (.book B')) := fun H' o' f' s p as B' ib' fr H₁ r => by
    refine r.pack ib' fun a x e => ?_
    by_cases z : a = b
    · subst z; rw [up_same] at e; cases e; exact .inl ⟨rfl, rfl⟩
    · rw [up_other z] at e
      obtain ⟨e1, e2⟩ := hold a x e z
      obtain ⟨e3, e4⟩ := fr.old a x e1 e2
      exact .inr ⟨z, e4, e3⟩
  refine (CallOK.post (h H₂ o f' sa p as ib hold) (fun v H' q => ?_) fun cl H' q => ?_) A stk R s vals Rs a1 a2 ⟨H₁, S1, r2⟩ a4 kQ kE
  · obtain ⟨o', f', s, p, as, B', ib', fr, q | ⟨z, xs, rfl, hz, hz', ho, q⟩⟩ := q
    · exact ⟨_, back _ _ _ _ _ _ _ ib' fr, q.2⟩
    · refine ⟨_, fun H₁ r => ?_, q⟩
      refine r.pack ib' fun a x e => ?_
      have hzb : z ≠ b := fun w => by rw [w, hb] at hz; cases hz
      by_cases w : a = z
      · subst w; rw [up_same] at e; cases e; exact .inr ⟨hzb, ho, hz'⟩
      · rw [up_other w] at e
        by_cases y : a = b
        · subst y; rw [up_same] at e; cases e; exact .inl ⟨rfl, rfl⟩
        · rw [up_other y] at e
          obtain ⟨e1, e2⟩ := hold a x e y
          obtain ⟨e3, e4⟩ := fr.old a x e1 e2
          exact .inr ⟨y, e4, e3⟩
  · obtain ⟨o', f', s, p, as, B', ib', fr, q⟩ := q
    exact ⟨_, back _ _ _ _ _ _ _ ib' fr, q⟩
end Mine

end
section

end
section
open PySem PySem.W PyProof.Rows PySem.Spec PySem.SeqAt PySem.Calls
namespace Mine.BK
noncomputable def f_are_met : Fn := ⟨4, ["names", "needs", "kept", "done", "found", "name"], [
  .assign (.var 4) (.list []),
  .for (.var 5) (.var 0) [.ite (.cmp .Eq (.comp (.var 6) 1 false (.sub (.var 1) (.var 5)) (some (.ao true [(.cmp .NotIn (.var 6) (.var 2)), (.cmp .NotIn (.var 6) (.var 3))]))) (.list [])) [.expr (.bm (.var 4) .append [(.var 5)])] []],
  .ret (.var 4)]⟩
noncomputable def f_table_of : Fn := ⟨1, ["names", "table", "name"], [
  .assign (.var 1) (.dict [] []),
  .for (.var 2) (.var 0) [.assign (.sub (.var 1) (.var 2)) (.lit (.bool true))],
  .ret (.var 1)]⟩
noncomputable def f_greatest : Fn := ⟨3, ["full", "needs", "done", "ready", "names", "found"], [
  .assign (.var 3) (.call "table_of" [(.var 2)]),
  .assign (.var 4) (.prim .list [(.var 0)]),
  .assign (.var 5) (.call "are_met" [(.var 4), (.var 1), (.call "table_of" [(.var 4)]), (.var 3)]),
  .while (.cmp .Lt (.prim .len [(.var 5)]) (.prim .len [(.var 4)])) [.assign (.var 4) (.var 5),
    .assign (.var 5) (.call "are_met" [(.var 4), (.var 1), (.call "table_of" [(.var 4)]), (.var 3)])],
  .ret (.var 5)]⟩
noncomputable def f_chain : Fn := ⟨4, ["name", "full", "needs", "done", "ready", "whole", "ways", "seen", "place", "way", "last", "one"], [
  .assign (.var 4) (.call "table_of" [(.var 3)]),
  .ite (.ao false [(.cmp .In (.var 0) (.var 4)), (.cmp .In (.var 0) (.call "greatest" [(.var 1), (.var 2), (.var 3)]))]) [.ret (.list [])] [],
  .assign (.var 5) (.call "table_of" [(.var 1)]),
  .assign (.var 6) (.list [(.list [(.var 0)])]),
  .assign (.var 7) (.dict [(.var 0)] [(.lit (.bool true))]),
  .assign (.var 8) (.lit (.int 0)),
  .while (.cmp .Lt (.var 8) (.prim .len [(.var 6)])) [.assign (.var 9) (.sub (.var 6) (.var 8)),
    .assign (.var 10) (.sub (.var 9) (.neg (.lit (.int 1)))),
    .ite (.cmp .NotIn (.var 10) (.var 5)) [.ret (.prim .list [(.var 9)])] [],
    .for (.var 11) (.sub (.var 2) (.var 10)) [.ite (.ao true [(.cmp .NotIn (.var 11) (.var 7)), (.cmp .NotIn (.var 11) (.var 4))]) [.assign (.sub (.var 7) (.var 11)) (.lit (.bool true)),
        .expr (.bm (.var 6) .append [(.bin .Add (.var 9) (.list [(.var 11)]))])] []],
    .assign (.var 8) (.bin .Add (.var 8) (.lit (.int 1)))],
  .ret (.list [])]⟩
noncomputable def f_is_whole : Fn := ⟨1, ["thing"], [
  .ret (.ao true [(.isinst (.var 0) "int"), (.not (.isinst (.var 0) "bool"))])]⟩
noncomputable def f_is_name : Fn := ⟨1, ["thing", "sign"], [
  .ite (.ao false [(.not (.isinst (.var 0) "str")), (.not (.cmp2 .LtE .LtE (.lit (.int 1)) (.prim .len [(.var 0)]) (.glob "MOST_SIGNS")))]) [.ret (.lit (.bool false))] [],
  .for (.var 1) (.var 0) [.ite (.cmp .NotIn (.var 1) (.glob "LETTERS")) [.ret (.lit (.bool false))] []],
  .ret (.lit (.bool true))]⟩
noncomputable def f_name_of : Fn := ⟨1, ["thing"], [
  .ite (.not (.call "is_name" [(.var 0)])) [.raise "NoName" (Str.ofString "no name")] [],
  .ret (.var 0)]⟩
noncomputable def f_amount_of : Fn := ⟨1, ["thing"], [
  .ite (.ao false [(.not (.call "is_whole" [(.var 0)])), (.not (.cmp2 .LtE .LtE (.lit (.int 1)) (.var 0) (.glob "MOST_AMOUNT")))]) [.raise "NoAmount" (Str.ofString "no amount")] [],
  .ret (.var 0)]⟩
noncomputable def f_Pact___init__ : Fn := ⟨6, ["self", "name", "parts", "gains", "needs", "last"], [
  .assign (.attr (.var 0) "name") (.var 1),
  .assign (.attr (.var 0) "parts") (.var 2),
  .assign (.attr (.var 0) "gains") (.var 3),
  .assign (.attr (.var 0) "needs") (.var 4),
  .assign (.attr (.var 0) "last") (.var 5),
  .assign (.attr (.var 0) "state") (.lit (.str (Str.ofString "open"))),
  .assign (.attr (.var 0) "inside") (.dict [] [])]⟩
noncomputable def f_Pact_part_of : Fn := ⟨2, ["self", "purse", "pair"], [
  .for (.var 2) (.attr (.var 0) "parts") [.ite (.cmp .Eq (.sub (.var 2) (.lit (.int 0))) (.var 1)) [.ret (.sub (.var 2) (.lit (.int 1)))] []],
  .ret (.lit .none)]⟩
noncomputable def f_Pact_is_full : Fn := ⟨1, ["self"], [
  .ret (.ao true [(.cmp .Eq (.attr (.var 0) "state") (.lit (.str (Str.ofString "open")))), (.cmp .Eq (.prim .len [(.attr (.var 0) "inside")]) (.prim .len [(.attr (.var 0) "parts")]))])]⟩
noncomputable def f_Book___init__ : Fn := ⟨1, ["self"], [
  .assign (.attr (.var 0) "day") (.lit (.int 0)),
  .assign (.attr (.var 0) "free") (.dict [] []),
  .assign (.attr (.var 0) "aside") (.dict [] []),
  .assign (.attr (.var 0) "pacts") (.dict [] [])]⟩
noncomputable def f_Book_need_purse : Fn := ⟨2, ["self", "purse"], [
  .ite (.ao false [(.not (.call "is_name" [(.var 1)])), (.cmp .NotIn (.var 1) (.attr (.var 0) "free"))]) [.raise "NoPurse" (Str.ofString "no such purse")] []]⟩
noncomputable def f_Book_need_pact : Fn := ⟨2, ["self", "pact"], [
  .ite (.ao false [(.not (.call "is_name" [(.var 1)])), (.cmp .NotIn (.var 1) (.attr (.var 0) "pacts"))]) [.raise "NoPact" (Str.ofString "no such pact")] [],
  .ret (.sub (.attr (.var 0) "pacts") (.var 1))]⟩
noncomputable def f_Book_need_open : Fn := ⟨2, ["self", "pact", "found"], [
  .assign (.var 2) (.meth (.var 0) "need_pact" [(.var 1)]),
  .ite (.cmp .NotEq (.attr (.var 2) "state") (.lit (.str (Str.ofString "open")))) [.raise "NotOpen" (Str.ofString "the pact isn't open")] [],
  .ret (.var 2)]⟩
noncomputable def f_Book_open_purse : Fn := ⟨2, ["self", "name"], [
  .expr (.call "name_of" [(.var 1)]),
  .ite (.cmp .In (.var 1) (.attr (.var 0) "free")) [.raise "Taken" (Str.ofString "there is such a purse")] [],
  .assign (.sub (.attr (.var 0) "free") (.var 1)) (.lit (.int 0)),
  .assign (.sub (.attr (.var 0) "aside") (.var 1)) (.lit (.int 0))]⟩
noncomputable def f_Book_put : Fn := ⟨3, ["self", "purse", "amount"], [
  .expr (.meth (.var 0) "need_purse" [(.var 1)]),
  .assign (.sub (.attr (.var 0) "free") (.var 1)) (.bin .Add (.sub (.attr (.var 0) "free") (.var 1)) (.call "amount_of" [(.var 2)]))]⟩
noncomputable def f_Book_take : Fn := ⟨3, ["self", "purse", "amount"], [
  .expr (.meth (.var 0) "need_purse" [(.var 1)]),
  .expr (.call "amount_of" [(.var 2)]),
  .ite (.cmp .Lt (.sub (.attr (.var 0) "free") (.var 1)) (.var 2)) [.raise "TooLittle" (Str.ofString "less is free")] [],
  .assign (.sub (.attr (.var 0) "free") (.var 1)) (.bin .Sub (.sub (.attr (.var 0) "free") (.var 1)) (.var 2))]⟩
noncomputable def f_Book_pairs_of : Fn := ⟨2, ["self", "pairs", "found", "seen", "pair"], [
  .ite (.not (.cmp2 .LtE .LtE (.lit (.int 1)) (.prim .len [(.var 1)]) (.glob "MOST"))) [.raise "NoRow" (Str.ofString "one to eight pairs are wanted")] [],
  .assign (.var 2) (.list []),
  .assign (.var 3) (.dict [] []),
  .for (.var 4) (.var 1) [.expr (.meth (.var 0) "need_purse" [(.sub (.var 4) (.lit (.int 0)))]),
    .ite (.cmp .In (.sub (.var 4) (.lit (.int 0))) (.var 3)) [.raise "Twice" (Str.ofString "a purse stands twice")] [],
    .assign (.sub (.var 3) (.sub (.var 4) (.lit (.int 0)))) (.lit (.bool true)),
    .expr (.bm (.var 2) .append [(.tuple [(.sub (.var 4) (.lit (.int 0))), (.call "amount_of" [(.sub (.var 4) (.lit (.int 1)))])])])],
  .ret (.var 2)]⟩
noncomputable def f_Book_needs_of : Fn := ⟨3, ["self", "name", "needs", "seen", "one"], [
  .ite (.cmp .Gt (.prim .len [(.var 2)]) (.glob "MOST")) [.raise "NoRow" (Str.ofString "up to eight needs are wanted")] [],
  .assign (.var 3) (.dict [(.var 1)] [(.lit (.bool true))]),
  .for (.var 4) (.var 2) [.expr (.call "name_of" [(.var 4)]),
    .ite (.cmp .In (.var 4) (.var 3)) [.raise "Twice" (Str.ofString "a need stands twice")] [],
    .assign (.sub (.var 3) (.var 4)) (.lit (.bool true)),
    .ite (.ao true [(.cmp .In (.var 4) (.attr (.var 0) "pacts")), (.cmp .Eq (.attr (.sub (.attr (.var 0) "pacts") (.var 4)) "state") (.lit (.str (Str.ofString "fallen"))))]) [.raise "Fallen" (Str.ofString "a need has fallen")] []],
  .ret (.prim .list [(.var 2)])]⟩
noncomputable def f_Book_tell : Fn := ⟨6, ["self", "name", "parts", "gains", "needs", "last", "ones", "others", "wanted"], [
  .expr (.call "name_of" [(.var 1)]),
  .ite (.cmp .In (.var 1) (.attr (.var 0) "pacts")) [.raise "Taken" (Str.ofString "there is such a pact")] [],
  .assign (.var 6) (.meth (.var 0) "pairs_of" [(.var 2)]),
  .assign (.var 7) (.meth (.var 0) "pairs_of" [(.var 3)]),
  .ite (.cmp .NotEq (.prim .sum [(.comp (.sub (.var 9) (.lit (.int 1))) 1 false (.var 6) none)]) (.prim .sum [(.comp (.sub (.var 9) (.lit (.int 1))) 1 false (.var 7) none)])) [.raise "Uneven" (Str.ofString "parts and gains come to different sums")] [],
  .assign (.var 8) (.meth (.var 0) "needs_of" [(.var 1), (.var 4)]),
  .ite (.ao false [(.not (.call "is_whole" [(.var 5)])), (.cmp .Lt (.var 5) (.attr (.var 0) "day"))]) [.raise "NoDay" (Str.ofString "no day from now on")] [],
  .assign (.sub (.attr (.var 0) "pacts") (.var 1)) (.new "Pact" [(.var 1), (.var 6), (.var 7), (.var 8), (.var 5)])]⟩
noncomputable def f_Book_set_aside : Fn := ⟨3, ["self", "purse", "pact", "found", "amount"], [
  .expr (.meth (.var 0) "need_purse" [(.var 1)]),
  .assign (.var 3) (.meth (.var 0) "need_open" [(.var 2)]),
  .assign (.var 4) (.meth (.var 3) "part_of" [(.var 1)]),
  .ite (.cmp .Is (.var 4) (.lit .none)) [.raise "NoPart" (Str.ofString "the pact has no part of that purse")] [],
  .ite (.cmp .In (.var 1) (.attr (.var 3) "inside")) [.raise "Already" (Str.ofString "the part is set aside already")] [],
  .ite (.cmp .Lt (.sub (.attr (.var 0) "free") (.var 1)) (.var 4)) [.raise "TooLittle" (Str.ofString "less is free")] [],
  .assign (.sub (.attr (.var 3) "inside") (.var 1)) (.lit (.bool true)),
  .assign (.sub (.attr (.var 0) "free") (.var 1)) (.bin .Sub (.sub (.attr (.var 0) "free") (.var 1)) (.var 4)),
  .assign (.sub (.attr (.var 0) "aside") (.var 1)) (.bin .Add (.sub (.attr (.var 0) "aside") (.var 1)) (.var 4))]⟩
noncomputable def f_Book_given_back : Fn := ⟨3, ["self", "purse", "amount"], [
  .assign (.sub (.attr (.var 0) "aside") (.var 1)) (.bin .Sub (.sub (.attr (.var 0) "aside") (.var 1)) (.var 2)),
  .assign (.sub (.attr (.var 0) "free") (.var 1)) (.bin .Add (.sub (.attr (.var 0) "free") (.var 1)) (.var 2))]⟩
noncomputable def f_Book_draw_back : Fn := ⟨3, ["self", "purse", "pact", "found"], [
  .expr (.meth (.var 0) "need_purse" [(.var 1)]),
  .assign (.var 3) (.meth (.var 0) "need_open" [(.var 2)]),
  .ite (.cmp .NotIn (.var 1) (.attr (.var 3) "inside")) [.raise "NotAside" (Str.ofString "nothing of that purse is set aside")] [],
  .expr (.bm (.attr (.var 3) "inside") .pop [(.var 1)]),
  .expr (.meth (.var 0) "given_back" [(.var 1), (.meth (.var 3) "part_of" [(.var 1)])])]⟩
noncomputable def f_Book_fell : Fn := ⟨2, ["self", "pact", "pair"], [
  .for (.var 2) (.attr (.var 1) "parts") [.ite (.cmp .In (.sub (.var 2) (.lit (.int 0))) (.attr (.var 1) "inside")) [.expr (.meth (.var 0) "given_back" [(.sub (.var 2) (.lit (.int 0))), (.sub (.var 2) (.lit (.int 1)))])] []],
  .assign (.attr (.var 1) "inside") (.dict [] []),
  .assign (.attr (.var 1) "state") (.lit (.str (Str.ofString "fallen"))),
  .ret (.attr (.var 1) "name")]⟩
noncomputable def f_Book_first_dragged : Fn := ⟨1, ["self", "pact", "need"], [
  .for (.var 1) (.prim .list [(.bm (.attr (.var 0) "pacts") .values [])]) [.ite (.cmp .Eq (.attr (.var 1) "state") (.lit (.str (Str.ofString "open")))) [.for (.var 2) (.attr (.var 1) "needs") [.ite (.ao true [(.cmp .In (.var 2) (.attr (.var 0) "pacts")), (.cmp .Eq (.attr (.sub (.attr (.var 0) "pacts") (.var 2)) "state") (.lit (.str (Str.ofString "fallen"))))]) [.ret (.var 1)] []]] []],
  .ret (.lit .none)]⟩
noncomputable def f_Book_dragged : Fn := ⟨2, ["self", "names", "found", "pact"], [
  .assign (.var 2) (.prim .list [(.var 1)]),
  .assign (.var 3) (.meth (.var 0) "first_dragged" []),
  .while (.cmp .IsNot (.var 3) (.lit .none)) [.expr (.bm (.var 2) .append [(.meth (.var 0) "fell" [(.var 3)])]),
    .assign (.var 3) (.meth (.var 0) "first_dragged" [])],
  .ret (.var 2)]⟩
noncomputable def f_Book_call_off : Fn := ⟨2, ["self", "pact"], [
  .ret (.meth (.var 0) "dragged" [(.list [(.meth (.var 0) "fell" [(.meth (.var 0) "need_open" [(.var 1)])])])])]⟩
noncomputable def f_Book_standing : Fn := ⟨1, ["self", "ready", "needs", "done", "pact"], [
  .assign (.var 1) (.list []),
  .assign (.var 2) (.dict [] []),
  .assign (.var 3) (.list []),
  .for (.var 4) (.prim .list [(.bm (.attr (.var 0) "pacts") .values [])]) [.ite (.meth (.var 4) "is_full" []) [.expr (.bm (.var 1) .append [(.attr (.var 4) "name")]),
      .assign (.sub (.var 2) (.attr (.var 4) "name")) (.prim .list [(.attr (.var 4) "needs")])] [],
    .ite (.cmp .Eq (.attr (.var 4) "state") (.lit (.str (Str.ofString "done")))) [.expr (.bm (.var 3) .append [(.attr (.var 4) "name")])] []],
  .ret (.tuple [(.var 1), (.var 2), (.var 3)])]⟩
noncomputable def f_Book_settle : Fn := ⟨1, ["self", "found", "names", "name", "pact", "pair"], [
  .assign (.var 1) (.meth (.var 0) "standing" []),
  .assign (.var 2) (.call "greatest" [(.sub (.var 1) (.lit (.int 0))), (.sub (.var 1) (.lit (.int 1))), (.sub (.var 1) (.lit (.int 2)))]),
  .for (.var 3) (.var 2) [.assign (.var 4) (.sub (.attr (.var 0) "pacts") (.var 3)),
    .for (.var 5) (.attr (.var 4) "parts") [.assign (.sub (.attr (.var 0) "aside") (.sub (.var 5) (.lit (.int 0)))) (.bin .Sub (.sub (.attr (.var 0) "aside") (.sub (.var 5) (.lit (.int 0)))) (.sub (.var 5) (.lit (.int 1))))],
    .for (.var 5) (.attr (.var 4) "gains") [.assign (.sub (.attr (.var 0) "free") (.sub (.var 5) (.lit (.int 0)))) (.bin .Add (.sub (.attr (.var 0) "free") (.sub (.var 5) (.lit (.int 0)))) (.sub (.var 5) (.lit (.int 1))))],
    .assign (.attr (.var 4) "inside") (.dict [] []),
    .assign (.attr (.var 4) "state") (.lit (.str (Str.ofString "done")))],
  .ret (.var 2)]⟩
noncomputable def f_Book_why_not : Fn := ⟨2, ["self", "pact", "found"], [
  .expr (.meth (.var 0) "need_pact" [(.var 1)]),
  .assign (.var 2) (.meth (.var 0) "standing" []),
  .ret (.call "chain" [(.var 1), (.sub (.var 2) (.lit (.int 0))), (.sub (.var 2) (.lit (.int 1))), (.sub (.var 2) (.lit (.int 2)))])]⟩
noncomputable def f_Book_purses : Fn := ⟨1, ["self"], [
  .ret (.prim .list [(.attr (.var 0) "free")])]⟩
noncomputable def f_Book_told : Fn := ⟨1, ["self"], [
  .ret (.prim .list [(.attr (.var 0) "pacts")])]⟩
noncomputable def f_Book_free_of : Fn := ⟨2, ["self", "purse"], [
  .expr (.meth (.var 0) "need_purse" [(.var 1)]),
  .ret (.sub (.attr (.var 0) "free") (.var 1))]⟩
noncomputable def f_Book_aside_of : Fn := ⟨2, ["self", "purse"], [
  .expr (.meth (.var 0) "need_purse" [(.var 1)]),
  .ret (.sub (.attr (.var 0) "aside") (.var 1))]⟩
noncomputable def f_Book_state_of : Fn := ⟨2, ["self", "pact"], [
  .ret (.attr (.meth (.var 0) "need_pact" [(.var 1)]) "state")]⟩
noncomputable def f_Book_full : Fn := ⟨2, ["self", "pact"], [
  .ret (.meth (.meth (.var 0) "need_pact" [(.var 1)]) "is_full" [])]⟩
noncomputable def f_Book_pass_days : Fn := ⟨2, ["self", "count", "names", "pact"], [
  .ite (.ao false [(.not (.call "is_whole" [(.var 1)])), (.cmp .Lt (.var 1) (.lit (.int 1)))]) [.raise "NoDay" (Str.ofString "no count of days")] [],
  .assign (.attr (.var 0) "day") (.bin .Add (.attr (.var 0) "day") (.var 1)),
  .assign (.var 2) (.list []),
  .for (.var 3) (.prim .list [(.bm (.attr (.var 0) "pacts") .values [])]) [.ite (.ao true [(.cmp .Eq (.attr (.var 3) "state") (.lit (.str (Str.ofString "open")))), (.cmp .Lt (.attr (.var 3) "last") (.attr (.var 0) "day"))]) [.expr (.bm (.var 2) .append [(.meth (.var 0) "fell" [(.var 3)])])] []],
  .ret (.meth (.var 0) "dragged" [(.var 2)])]⟩
noncomputable def f__law_cell_at : Fn := ⟨2, ["_law_script", "_law_k"], [
  .ite (.cmp .Lt (.var 1) (.prim .len [(.var 0)])) [.ret (.sub (.var 0) (.var 1))] [],
  .ret (.lit (.int 0))]⟩
end Mine.BK
namespace Mine.BK
noncomputable def consts : List (String × AV) := [("LETTERS", (.str (Str.ofString "abcdefghijklmnopqrstuvwxyz"))), ("MOST_SIGNS", (.int 12)), ("MOST_AMOUNT", (.int 1000000000000000000000000000000)), ("MOST", (.int 8))]
noncomputable def meths : List (String × String) := [("Pact", "__init__"), ("Pact", "part_of"), ("Pact", "is_full"), ("Book", "__init__"), ("Book", "need_purse"), ("Book", "need_pact"), ("Book", "need_open"), ("Book", "open_purse"), ("Book", "put"), ("Book", "take"), ("Book", "pairs_of"), ("Book", "needs_of"), ("Book", "tell"), ("Book", "set_aside"), ("Book", "given_back"), ("Book", "draw_back"), ("Book", "fell"), ("Book", "first_dragged"), ("Book", "dragged"), ("Book", "call_off"), ("Book", "pass_days"), ("Book", "standing"), ("Book", "settle"), ("Book", "why_not"), ("Book", "purses"), ("Book", "told"), ("Book", "free_of"), ("Book", "aside_of"), ("Book", "state_of"), ("Book", "inside_of"), ("Book", "full")]
noncomputable def attrs : List (String × String) := [("Book", "aside"), ("Book", "day"), ("Book", "free"), ("Book", "pacts"), ("Pact", "gains"), ("Pact", "inside"), ("Pact", "last"), ("Pact", "name"), ("Pact", "needs"), ("Pact", "parts"), ("Pact", "state")]
end Mine.BK
namespace Mine
structure HasA (P : Pg) : Prop where
  meths : P.meths = BK.meths
  attrs : P.attrs = BK.attrs
  consts : P.consts = BK.consts
  is_whole : P.fns.lookup "is_whole" = some BK.f_is_whole
  is_name : P.fns.lookup "is_name" = some BK.f_is_name
  name_of : P.fns.lookup "name_of" = some BK.f_name_of
  amount_of : P.fns.lookup "amount_of" = some BK.f_amount_of
  init : P.fns.lookup "Book.__init__" = some BK.f_Book___init__
  need_purse : P.fns.lookup "Book.need_purse" = some BK.f_Book_need_purse
  open_purse : P.fns.lookup "Book.open_purse" = some BK.f_Book_open_purse
  put : P.fns.lookup "Book.put" = some BK.f_Book_put
  purses : P.fns.lookup "Book.purses" = some BK.f_Book_purses
  told : P.fns.lookup "Book.told" = some BK.f_Book_told
  free_of : P.fns.lookup "Book.free_of" = some BK.f_Book_free_of
  aside_of : P.fns.lookup "Book.aside_of" = some BK.f_Book_aside_of

noncomputable def nameB : AV → Bool
  | .str s => isNm s
  | _ => false
noncomputable def wholeB : AV → Bool
  | .int _ => true
  | _ => false
noncomputable def amountB : AV → Bool
  | .int i => decide (1 ≤ i ∧ i ≤ 1000000000000000000000000000000)
  | _ => false
noncomputable def Kn (H : AHeap) (v : AV) : Prop := (∃ k, vkind H v = some k) ∧ ∀ s, v = .str s → s.length < 2 ^ 62

theorem wfor {QN : VV → AHeap → Prop} {stp : AV → (VV → AHeap → Prop) → VV → AHeap → Prop} {v : AV} {V : VV} {H : AHeap} {xs : List AV} (hx : itemsOf H v = some xs) (I : Nat → VV → AHeap → Prop) (h0 : I 0 V H)
    (hs : ∀ k V' H', I k V' H' → sameIt H H' v ∧ (k = xs.length → QN V' H') ∧ ∀ x, xs[k]? = some x → stp x (I (k + 1)) V' H') : WFor QN stp v V H := ⟨xs, hx, I, h0, hs⟩

section
variable {c : Cx} {P : Pg} (G : Gd c P) (U : HasA P) {n : Nat} {md : Bool} {Q : AV → AHeap → Prop} {E : String → AHeap → Prop} {H : AHeap}

set_option tactic.hygienic false in
theorem kind_str {v : AV} (h : vkind H v = some "str") : ∃ s, v = .str s := by
  cases v with
  | str s => exact ⟨s, rfl⟩
  | ref a => simp only [vkind] at h; split at h <;> simp at h
  | _ => simp [vkind] at h
set_option tactic.hygienic false in
theorem name_not {v : AV} {k : String} (hk : vkind H v = some k) (h : k ≠ "str") : nameB v = false := by
  cases v with
  | str s => simp [vkind] at hk; exact absurd hk.symm h
  | _ => rfl

set_option tactic.hygienic false in
theorem signs {g : Gx} (hmd : g.md = true) {s : Str} {e : X} {V : VV} {QN : VV → AHeap → Prop} {E : String → VV → AHeap → Prop} (he : ∀ V H Q E, wpX g e V Q E H = Q (.str letters) H) (hV : V = [some (.str s), none]) (h1 : (s.cps.toList.all fun ch => letters.cps.toList.contains ch) = true → ∀ a, QN [some (.str s), a] H) (h2 : (s.cps.toList.all fun ch => letters.cps.toList.contains ch) = false → Q (.bool false) H) :
    wpS g (.for (.var 1) (.var 0) [.ite (.cmp .NotIn (.var 1) e) [.ret (.lit (.bool false))] []]) QN Q E V H := by
  subst hV
  simp only [w_ite, w_ret, w_asg, s_expr', s_raise', s_for', s_while', s_try', s_pass']
  refine ⟨hmd, ?_⟩
  dsimp only [v_0, x_lit, x_var, x_bin, x_neg, x_not, x_ao, x_cmp, x_cmp2, x_sub, x_glob, x_call, x_prim, x_bm, x_isi, x_list, x_tup, x_dict0, xs_nil, xs_cons, ao_one, ao_cons, xc_none, xc_some, tv, tsub, tattr, wtg, b_add, b_sub, b_mul, b_div, b_mod, b_pow, b_adds, c_lt, c_le, c_gt, c_ge, c_eq, c_ne, c_eqs, c_nes, c_in, c_nin, t_bool, t_int, t_none, w_cons, w_nil, w_ite, w_ret, w_asg, s_expr', s_raise']
  refine wfor (xs := s.cps.toList.map fun ch => AV.str ⟨#[ch]⟩) rfl (fun k V' H' => H' = H ∧ (∃ a, V' = [some (.str s), a]) ∧ ∀ ch ∈ s.cps.toList.take k, letters.cps.toList.contains ch = true) ⟨rfl, ⟨_, rfl⟩, by simp⟩ ?_
  rintro k V' H' ⟨rfl, ⟨a, rfl⟩, hin⟩
  refine ⟨trivial, fun hk => h1 ?_ a, fun x hx => ?_⟩
  · rw [hk, List.length_map, List.take_length] at hin
    rw [List.all_eq_true]; exact hin
  · rw [List.getElem?_map, Option.map_eq_some_iff] at hx
    obtain ⟨ch, hch, rfl⟩ := hx
    dsimp [v_0, x_lit, x_var, x_bin, x_neg, x_not, x_ao, x_cmp, x_cmp2, x_sub, x_glob, x_call, x_prim, x_bm, x_isi, x_list, x_tup, x_dict0, xs_nil, xs_cons, ao_one, ao_cons, xc_none, xc_some, tv, tsub, tattr, wtg, b_add, b_sub, b_mul, b_div, b_mod, b_pow, b_adds, c_lt, c_le, c_gt, c_ge, c_eq, c_ne, c_eqs, c_nes, c_in, c_nin, t_bool, t_int, t_none, w_cons, w_nil, w_ite, w_ret, w_asg, s_expr', s_raise']; simp [he, v_0, x_lit, x_var, x_bin, x_neg, x_not, x_ao, x_cmp, x_cmp2, x_sub, x_glob, x_call, x_prim, x_bm, x_isi, x_list, x_tup, x_dict0, xs_nil, xs_cons, ao_one, ao_cons, xc_none, xc_some, tv, tsub, tattr, wtg, b_add, b_sub, b_mul, b_div, b_mod, b_pow, b_adds, c_lt, c_le, c_gt, c_ge, c_eq, c_ne, c_eqs, c_nes, c_in, c_nin, t_bool, t_int, t_none, w_cons, w_nil, w_ite, w_ret, w_asg, s_expr', s_raise']
    refine ⟨ch, rfl, ?_⟩
    cases hc : letters.cps.toList.contains ch with
    | true =>
      simp only [t_bool]
      simp
      intro ch' hch'
      rw [List.take_add_one, hch] at hch'
      rcases List.mem_append.mp hch' with h | h
      · simpa using hin ch' h
      · simp at h; subst h; simpa using hc
    | false =>
      simp only [t_bool]
      simp
      apply h2
      rw [List.all_eq_false]
      exact ⟨ch, List.mem_of_getElem? hch, by rw [hc]; simp⟩

include G U
set_option tactic.hygienic false in
theorem is_name_ok {v : AV} (hk : Kn H v) (q : Q (.bool (nameB v)) H) : CallOK c (n + 1) true "is_name" [v] Q E H := by
  obtain ⟨⟨k, hk⟩, hl⟩ := hk
  refine G.call (F := BK.f_is_name) U.is_name rfl ?_
  have hg : c.P.consts.lookup "MOST_SIGNS" = some (.int 12) := by rw [G.hP, U.consts]; rfl
  have hg2 : c.P.consts.lookup "LETTERS" = some (.str letters) := by rw [G.hP, U.consts]; rfl
  by_cases hks : k = "str"
  · subst hks
    obtain ⟨s, rfl⟩ := kind_str hk
    have hl := hl s rfl
    show wpSs _ BK.f_is_name.body _ _ _ _ _
    simp only [BK.f_is_name, w_cons, w_ite]
    simp [initV, isinstV, hk, p_lens, p_range, p_range2, p_int, p_lenr, p_listr, p_sumr, hl, hg, w_nil, v_0, x_lit, x_var, x_bin, x_neg, x_not, x_ao, x_cmp, x_cmp2, x_sub, x_glob, x_call, x_prim, x_bm, x_isi, x_list, x_tup, x_dict0, xs_nil, xs_cons, ao_one, ao_cons, xc_none, xc_some, tv, tsub, tattr, wtg, b_add, b_sub, b_mul, b_div, b_mod, b_pow, b_adds, c_lt, c_le, c_gt, c_ge, c_eq, c_ne, c_eqs, c_nes, c_in, c_nin, t_bool, t_int, t_none]
    by_cases a : (1 : Int) ≤ s.length
    · by_cases b : (s.length : Int) ≤ 12
      · simp only [a, b, if_true]
        refine signs rfl (fun V H Q E => by simp [hg2, v_0, x_lit, x_var, x_bin, x_neg, x_not, x_ao, x_cmp, x_cmp2, x_sub, x_glob, x_call, x_prim, x_bm, x_isi, x_list, x_tup, x_dict0, xs_nil, xs_cons, ao_one, ao_cons, xc_none, xc_some, tv, tsub, tattr, wtg, b_add, b_sub, b_mul, b_div, b_mod, b_pow, b_adds, c_lt, c_le, c_gt, c_ge, c_eq, c_ne, c_eqs, c_nes, c_in, c_nin, t_bool, t_int, t_none]) rfl (fun h a' => ?_) (fun h => ?_)
        · simp [w_ret, v_0, x_lit, x_var, x_bin, x_neg, x_not, x_ao, x_cmp, x_cmp2, x_sub, x_glob, x_call, x_prim, x_bm, x_isi, x_list, x_tup, x_dict0, xs_nil, xs_cons, ao_one, ao_cons, xc_none, xc_some, tv, tsub, tattr, wtg, b_add, b_sub, b_mul, b_div, b_mod, b_pow, b_adds, c_lt, c_le, c_gt, c_ge, c_eq, c_ne, c_eqs, c_nes, c_in, c_nin, t_bool, t_int, t_none]
          have : nameB (.str s) = true := by simp only [nameB, isNm, h]; simp; omega
          rw [this] at q; exact q
        · have : nameB (.str s) = false := by simp only [nameB, isNm, h]; simp
          rw [this] at q; exact q
      · simp [a, b, w_ret, v_0, x_lit, x_var, x_bin, x_neg, x_not, x_ao, x_cmp, x_cmp2, x_sub, x_glob, x_call, x_prim, x_bm, x_isi, x_list, x_tup, x_dict0, xs_nil, xs_cons, ao_one, ao_cons, xc_none, xc_some, tv, tsub, tattr, wtg, b_add, b_sub, b_mul, b_div, b_mod, b_pow, b_adds, c_lt, c_le, c_gt, c_ge, c_eq, c_ne, c_eqs, c_nes, c_in, c_nin, t_bool, t_int, t_none]
        have : nameB (.str s) = false := by simp [nameB, isNm]; omega
        rw [this] at q; exact q
    · simp [a, w_ret, v_0, x_lit, x_var, x_bin, x_neg, x_not, x_ao, x_cmp, x_cmp2, x_sub, x_glob, x_call, x_prim, x_bm, x_isi, x_list, x_tup, x_dict0, xs_nil, xs_cons, ao_one, ao_cons, xc_none, xc_some, tv, tsub, tattr, wtg, b_add, b_sub, b_mul, b_div, b_mod, b_pow, b_adds, c_lt, c_le, c_gt, c_ge, c_eq, c_ne, c_eqs, c_nes, c_in, c_nin, t_bool, t_int, t_none]
      have : nameB (.str s) = false := by simp [nameB, isNm]; omega
      rw [this] at q; exact q
  · simp only [BK.f_is_name, w_cons, w_ite]
    have e1 : (k == "str") = false := by simpa using hks
    dsimp [v_0, x_lit, x_var, x_bin, x_neg, x_not, x_ao, x_cmp, x_cmp2, x_sub, x_glob, x_call, x_prim, x_bm, x_isi, x_list, x_tup, x_dict0, xs_nil, xs_cons, ao_one, ao_cons, xc_none, xc_some, tv, tsub, tattr, wtg, b_add, b_sub, b_mul, b_div, b_mod, b_pow, b_adds, c_lt, c_le, c_gt, c_ge, c_eq, c_ne, c_eqs, c_nes, c_in, c_nin, t_bool, t_int, t_none]; simp [initV, isinstV, hk, e1, w_nil, w_ret, w_cons, v_0, x_lit, x_var, x_bin, x_neg, x_not, x_ao, x_cmp, x_cmp2, x_sub, x_glob, x_call, x_prim, x_bm, x_isi, x_list, x_tup, x_dict0, xs_nil, xs_cons, ao_one, ao_cons, xc_none, xc_some, tv, tsub, tattr, wtg, b_add, b_sub, b_mul, b_div, b_mod, b_pow, b_adds, c_lt, c_le, c_gt, c_ge, c_eq, c_ne, c_eqs, c_nes, c_in, c_nin, t_bool, t_int, t_none]
    rw [name_not hk hks] at q
    exact q
set_option tactic.hygienic false in
theorem name_ok {v : AV} (hk : Kn H v) (q : if nameB v then Q v H else E "NoName" H) : CallOK c (n + 2) true "name_of" [v] Q E H := by
  refine G.call (F := BK.f_name_of) U.name_of rfl ?_
  dsimp [BK.f_name_of, initV, v_0, x_lit, x_var, x_bin, x_neg, x_not, x_ao, x_cmp, x_cmp2, x_sub, x_glob, x_call, x_prim, x_bm, x_isi, x_list, x_tup, x_dict0, xs_nil, xs_cons, ao_one, ao_cons, xc_none, xc_some, tv, tsub, tattr, wtg, b_add, b_sub, b_mul, b_div, b_mod, b_pow, b_adds, c_lt, c_le, c_gt, c_ge, c_eq, c_ne, c_eqs, c_nes, c_in, c_nin, t_bool, t_int, t_none, w_cons, w_nil, w_ite, w_ret, w_asg, s_expr', s_raise']
  refine is_name_ok G U hk ?_
  cases h : nameB v <;> simp [h, v_0, x_lit, x_var, x_bin, x_neg, x_not, x_ao, x_cmp, x_cmp2, x_sub, x_glob, x_call, x_prim, x_bm, x_isi, x_list, x_tup, x_dict0, xs_nil, xs_cons, ao_one, ao_cons, xc_none, xc_some, tv, tsub, tattr, wtg, b_add, b_sub, b_mul, b_div, b_mod, b_pow, b_adds, c_lt, c_le, c_gt, c_ge, c_eq, c_ne, c_eqs, c_nes, c_in, c_nin, t_bool, t_int, t_none, w_cons, w_nil, w_ite, w_ret, w_asg, s_expr', s_raise'] at q ⊢ <;> exact q
set_option tactic.hygienic false in
theorem is_whole_ok {v : AV} (hk : Kn H v) (q : Q (.bool (wholeB v)) H) : CallOK c (n + 1) md "is_whole" [v] Q E H := by
  obtain ⟨⟨k, hk⟩, _⟩ := hk
  refine G.call (F := BK.f_is_whole) U.is_whole rfl ?_
  have : ∀ k, vkind H v = some k → (k = "int" ∧ wholeB v = true) ∨ (k ≠ "int" ∧ wholeB v = false) := by
    intro k hk
    cases v with
    | ref a => right; simp only [vkind] at hk; split at hk <;> simp at hk <;> subst hk <;> exact ⟨by decide, rfl⟩
    | _ => simp [vkind] at hk; subst hk; first | exact .inl ⟨rfl, rfl⟩ | exact .inr ⟨by decide, rfl⟩
  rcases this k hk with ⟨rfl, h⟩ | ⟨h1, h2⟩
  · rw [h] at q
    simp [BK.f_is_whole, initV, isinstV, hk, v_0, x_lit, x_var, x_bin, x_neg, x_not, x_ao, x_cmp, x_cmp2, x_sub, x_glob, x_call, x_prim, x_bm, x_isi, x_list, x_tup, x_dict0, xs_nil, xs_cons, ao_one, ao_cons, xc_none, xc_some, tv, tsub, tattr, wtg, b_add, b_sub, b_mul, b_div, b_mod, b_pow, b_adds, c_lt, c_le, c_gt, c_ge, c_eq, c_ne, c_eqs, c_nes, c_in, c_nin, t_bool, t_int, t_none, w_cons, w_nil, w_ite, w_ret, w_asg, s_expr', s_raise']
    exact q
  · rw [h2] at q
    have e1 : (k == "int") = false := by simpa using h1
    by_cases hb : k = "bool"
    · subst hb
      simp [BK.f_is_whole, initV, isinstV, hk, v_0, x_lit, x_var, x_bin, x_neg, x_not, x_ao, x_cmp, x_cmp2, x_sub, x_glob, x_call, x_prim, x_bm, x_isi, x_list, x_tup, x_dict0, xs_nil, xs_cons, ao_one, ao_cons, xc_none, xc_some, tv, tsub, tattr, wtg, b_add, b_sub, b_mul, b_div, b_mod, b_pow, b_adds, c_lt, c_le, c_gt, c_ge, c_eq, c_ne, c_eqs, c_nes, c_in, c_nin, t_bool, t_int, t_none, w_cons, w_nil, w_ite, w_ret, w_asg, s_expr', s_raise']
      exact q
    · have e2 : (k == "bool") = false := by simpa using hb
      simp [BK.f_is_whole, initV, isinstV, hk, e1, e2, v_0, x_lit, x_var, x_bin, x_neg, x_not, x_ao, x_cmp, x_cmp2, x_sub, x_glob, x_call, x_prim, x_bm, x_isi, x_list, x_tup, x_dict0, xs_nil, xs_cons, ao_one, ao_cons, xc_none, xc_some, tv, tsub, tattr, wtg, b_add, b_sub, b_mul, b_div, b_mod, b_pow, b_adds, c_lt, c_le, c_gt, c_ge, c_eq, c_ne, c_eqs, c_nes, c_in, c_nin, t_bool, t_int, t_none, w_cons, w_nil, w_ite, w_ret, w_asg, s_expr', s_raise']
      exact q
set_option tactic.hygienic false in
theorem amount_ok {v : AV} (hk : Kn H v) (q : if amountB v then Q v H else E "NoAmount" H) : CallOK c (n + 2) true "amount_of" [v] Q E H := by
  refine G.call (F := BK.f_amount_of) U.amount_of rfl ?_
  have hg : c.P.consts.lookup "MOST_AMOUNT" = some (.int 1000000000000000000000000000000) := by rw [G.hP, U.consts]; rfl
  simp [BK.f_amount_of, initV, v_0, x_lit, x_var, x_bin, x_neg, x_not, x_ao, x_cmp, x_cmp2, x_sub, x_glob, x_call, x_prim, x_bm, x_isi, x_list, x_tup, x_dict0, xs_nil, xs_cons, ao_one, ao_cons, xc_none, xc_some, tv, tsub, tattr, wtg, b_add, b_sub, b_mul, b_div, b_mod, b_pow, b_adds, c_lt, c_le, c_gt, c_ge, c_eq, c_ne, c_eqs, c_nes, c_in, c_nin, t_bool, t_int, t_none, w_cons, w_nil, w_ite, w_ret, w_asg, s_expr', s_raise']
  refine is_whole_ok G U hk ?_
  cases v with
  | int i =>
    dsimp [v_0, x_lit, x_var, x_bin, x_neg, x_not, x_ao, x_cmp, x_cmp2, x_sub, x_glob, x_call, x_prim, x_bm, x_isi, x_list, x_tup, x_dict0, xs_nil, xs_cons, ao_one, ao_cons, xc_none, xc_some, tv, tsub, tattr, wtg, b_add, b_sub, b_mul, b_div, b_mod, b_pow, b_adds, c_lt, c_le, c_gt, c_ge, c_eq, c_ne, c_eqs, c_nes, c_in, c_nin, t_bool, t_int, t_none, w_cons, w_nil, w_ite, w_ret, w_asg, s_expr', s_raise']; simp [wholeB, hg, v_0, x_lit, x_var, x_bin, x_neg, x_not, x_ao, x_cmp, x_cmp2, x_sub, x_glob, x_call, x_prim, x_bm, x_isi, x_list, x_tup, x_dict0, xs_nil, xs_cons, ao_one, ao_cons, xc_none, xc_some, tv, tsub, tattr, wtg, b_add, b_sub, b_mul, b_div, b_mod, b_pow, b_adds, c_lt, c_le, c_gt, c_ge, c_eq, c_ne, c_eqs, c_nes, c_in, c_nin, t_bool, t_int, t_none, w_cons, w_nil, w_ite, w_ret, w_asg, s_expr', s_raise']
    by_cases a : 1 ≤ i
    · by_cases b : i ≤ 1000000000000000000000000000000
      · simp [amountB, a, b] at q ⊢; exact q
      · simp [amountB, a, b] at q ⊢; exact q
    · simp [amountB, a] at q ⊢; exact q
  | _ => dsimp only [v_0, x_lit, x_var, x_bin, x_neg, x_not, x_ao, x_cmp, x_cmp2, x_sub, x_glob, x_call, x_prim, x_bm, x_isi, x_list, x_tup, x_dict0, xs_nil, xs_cons, ao_one, ao_cons, xc_none, xc_some, tv, tsub, tattr, wtg, b_add, b_sub, b_mul, b_div, b_mod, b_pow, b_adds, c_lt, c_le, c_gt, c_ge, c_eq, c_ne, c_eqs, c_nes, c_in, c_nin, t_bool, t_int, t_none, w_cons, w_nil, w_ite, w_ret, w_asg, s_expr', s_raise'] at q ⊢; exact q
end
end Mine

end
section
open PySem PySem.W PyProof.Rows PySem.Spec PySem.SeqAt PySem.Calls
namespace Mine

set_option tactic.hygienic false in
theorem look_dI {l : List (Str × Int)} {k : Str} : lookS (dI l) k = (lk l k).map .int := by
  induction l with
  | nil => rfl
  | cons e r ih =>
    unfold lookS lk dI at *
    simp only [List.map_cons, List.find?_cons]
    by_cases h : e.1 = k
    · simp [h]
    · simp [h]; simpa using ih
set_option tactic.hygienic false in
theorem put_dI {l : List (Str × Int)} {k : Str} {i : Int} : putS (dI l) k (.int i) = dI (pt l k i) := by
  unfold putS pt
  rw [look_dI, Option.isSome_map]
  split
  · unfold dI
    rw [List.map_map, List.map_map]
    congr 1
    funext e
    simp only [Function.comp]
    split <;> rfl
  · simp [dI]
set_option tactic.hygienic false in
theorem dI_len {l : List (Str × Int)} : (dI l).length = l.length := by simp [dI]
noncomputable def hs (l : List (Str × Int)) (k : Str) : Bool := (lk l k).isSome
set_option tactic.hygienic false in
theorem lk_get {l : List (Str × Int)} {k : Str} (h : hs l k = true) : lk l k = some ((lk l k).getD 0) := by
  unfold hs at h
  cases e : lk l k with
  | none => rw [e] at h; cases h
  | some => rfl

set_option tactic.hygienic false in
theorem ne_role {o : Addr → Option Role} {a b : Addr} {r r' : Role} (h1 : o a = some r) (h2 : o b = some r') (h : r ≠ r') : a ≠ b := fun e => by subst e; rw [h1] at h2; cases h2; exact h rfl
set_option tactic.hygienic false in
theorem up_fr {o : Addr → Option Role} {H : AHeap} {x : Addr} {y : AObj} (hx : o x ≠ none) : Fr1 o H o (up H x y) := ⟨fun a z h k => ⟨by rw [up_other (fun q => by subst q; exact hx k)]; exact h, k⟩, fun _ h => up_gr h⟩
set_option tactic.hygienic false in
theorem kb_up {P : Role → Prop} {o : Addr → Option Role} {H : AHeap} {x : Addr} {y : AObj} (hx : ∀ r, o x = some r → ¬ P r) : KB P o o H (up H x y) := fun a r z hp ho hz _ => ⟨ho, by rw [up_other (fun q => by subst q; exact hx r ho hp)]; exact hz⟩
noncomputable def Role.isP : Role → Prop
  | .data => True
  | .pact _ => True
  | .inside _ => True
  | _ => False
section
variable {o : Addr → Option Role} {H : AHeap} {b f s p : Addr} {as : List Addr} {B : Bk} (ib : IsBook o H b f s p as B)
include ib
set_option tactic.hygienic false in
theorem IsBook.setFree (ep : Nat) (l : List (Str × Int)) : IsBook o (up H f (.dict ep (dI l))) b f s p as { B with free := l } :=
  ⟨ib.ob, ib.of, ib.os, ib.op, by rw [up_other (ne_role ib.ob ib.of (by intro h; cases h))]; exact ib.hb, ⟨ep, up_same⟩,
    by rw [up_other (ne_role ib.os ib.of (by intro h; cases h))]; exact ib.hs, by rw [up_other (ne_role ib.op ib.of (by intro h; cases h))]; exact ib.hp,
    ib.ps.congr (P := Role.isP) (kb_up fun r h => by rw [ib.of] at h; cases h; exact id) trivial fun _ _ => ⟨trivial, trivial⟩⟩
set_option tactic.hygienic false in
theorem IsBook.setAside (ep : Nat) (l : List (Str × Int)) : IsBook o (up H s (.dict ep (dI l))) b f s p as { B with aside := l } :=
  ⟨ib.ob, ib.of, ib.os, ib.op, by rw [up_other (ne_role ib.ob ib.os (by intro h; cases h))]; exact ib.hb, by rw [up_other (ne_role ib.of ib.os (by intro h; cases h))]; exact ib.hf,
    ⟨ep, up_same⟩, by rw [up_other (ne_role ib.op ib.os (by intro h; cases h))]; exact ib.hp,
    ib.ps.congr (P := Role.isP) (kb_up fun r h => by rw [ib.os] at h; cases h; exact id) trivial fun _ _ => ⟨trivial, trivial⟩⟩
end

noncomputable def purseB (B : Bk) : AV → Bool
  | .str k => isNm k && hs B.free k
  | _ => false
section
variable {c : Cx} {P : Pg} (G : Gd c P) (U : HasA P) {n : Nat} {md : Bool} {Q : AV → AHeap → Prop} {E : String → AHeap → Prop} {H : AHeap} {o : Addr → Option Role} {b f s p : Addr} {as : List Addr} {B : Bk}

section
variable {g : Gx} {V : VV} (ib : IsBook o H b f s p as B)
set_option tactic.hygienic false in
theorem at_free {i : Nat} (hP : g.c.P.attrs = BK.attrs) (ib : IsBook o H b f s p as B) (hV : V[i]? = some (some (.ref b))) (q : Q (.ref f) H) : wpX g (.attr (.var i) "free") V Q E H := by
  simp only [x_attr, x_meth, x_var, hV, ib.hb]
  exact ⟨by rw [hP]; rfl, q⟩
set_option tactic.hygienic false in
theorem at_aside {i : Nat} (hP : g.c.P.attrs = BK.attrs) (ib : IsBook o H b f s p as B) (hV : V[i]? = some (some (.ref b))) (q : Q (.ref s) H) : wpX g (.attr (.var i) "aside") V Q E H := by
  simp only [x_attr, x_meth, x_var, hV, ib.hb]
  exact ⟨by rw [hP]; rfl, q⟩
set_option tactic.hygienic false in
theorem at_pacts {i : Nat} (hP : g.c.P.attrs = BK.attrs) (ib : IsBook o H b f s p as B) (hV : V[i]? = some (some (.ref b))) (q : Q (.ref p) H) : wpX g (.attr (.var i) "pacts") V Q E H := by
  simp only [x_attr, x_meth, x_var, hV, ib.hb]
  exact ⟨by rw [hP]; rfl, q⟩
set_option tactic.hygienic false in
theorem at_day {i : Nat} (hP : g.c.P.attrs = BK.attrs) (ib : IsBook o H b f s p as B) (hV : V[i]? = some (some (.ref b))) (q : Q (.int B.day) H) : wpX g (.attr (.var i) "day") V Q E H := by
  simp only [x_attr, x_meth, x_var, hV, ib.hb]
  exact ⟨by rw [hP]; rfl, q⟩
set_option tactic.hygienic false in
theorem at_meth {i : Nat} {m : String} {xs : List X} (hP : g.c.P.meths = BK.meths) (hm : BK.meths.contains ("Book", m) = true) (hn : bookAttrs.contains m = false) (ib : IsBook o H b f s p as B) (hV : V[i]? = some (some (.ref b)))
    (q : wpXs g xs V (fun vs H => CallOK g.c g.n g.md ("Book." ++ m) (.ref b :: vs) Q E H) E H) : wpX g (.meth (.var i) m xs) V Q E H := by
  simp only [x_attr, x_meth, x_var, hV, ib.hb]
  refine ⟨by rw [hP]; exact hm, ?_, q⟩
  simp only [bookAttrs, List.contains_cons, List.contains_nil, Bool.or_false, Bool.or_eq_false_iff, beq_eq_false_iff_ne] at hn
  obtain ⟨n1, n2, n3, n4⟩ := hn
  simp [lookA, n1.symm, n2.symm, n3.symm, n4.symm]
set_option tactic.hygienic false in
theorem sub_free {k : Str} {v : Int} (ib : IsBook o H b f s p as B) (h : lk B.free k = some v) (q : Q (.int v) H) : wsub (.ref f) (.str k) Q H := by
  obtain ⟨ep, hf⟩ := ib.hf
  simp only [sub_ri, sub_rs, sub_si, hf]
  exact ⟨.int v, by rw [look_dI, h]; rfl, q⟩
set_option tactic.hygienic false in
theorem sub_aside {k : Str} {v : Int} (ib : IsBook o H b f s p as B) (h : lk B.aside k = some v) (q : Q (.int v) H) : wsub (.ref s) (.str k) Q H := by
  obtain ⟨ep, hf⟩ := ib.hs
  simp only [sub_ri, sub_rs, sub_si, hf]
  exact ⟨.int v, by rw [look_dI, h]; rfl, q⟩
set_option tactic.hygienic false in
theorem in_free {k : Str} {no : Bool} (ib : IsBook o H b f s p as B) (q : Q (.bool (hs B.free k != no)) H) : win no (.str k) (.ref f) Q H := by
  obtain ⟨ep, hf⟩ := ib.hf
  simp only [in_ref, in_strv, hf]
  rw [look_dI, Option.isSome_map, ← nt_eq]
  exact q
end

include G U
set_option tactic.hygienic false in
theorem need_purse_ok {v : AV} (ib : IsBook o H b f s p as B) (hk : Kn H v) (q : if purseB B v then Q .none H else E "NoPurse" H) : CallOK c (n + 2) true "Book.need_purse" [.ref b, v] Q E H := by
  refine G.call (F := BK.f_Book_need_purse) U.need_purse rfl ?_
  have hA : c.P.attrs = BK.attrs := by rw [G.hP, U.attrs]
  simp only [BK.f_Book_need_purse, initV, v_0, x_lit, x_var, x_bin, x_neg, x_not, x_ao, x_cmp, x_cmp2, x_sub, x_glob, x_call, x_prim, x_bm, x_isi, x_list, x_tup, x_dict0, xs_nil, xs_cons, ao_one, ao_cons, xc_none, xc_some, tv, tsub, tattr, wtg, b_add, b_sub, b_mul, b_div, b_mod, b_pow, b_adds, c_lt, c_le, c_gt, c_ge, c_eq, c_ne, c_eqs, c_nes, c_in, c_nin, t_bool, t_int, t_none, w_cons, w_nil, w_ite, w_ret, w_asg, s_expr', s_raise']
  simp
  refine is_name_ok G U hk ?_
  cases hn : nameB v with
  | false =>
    have : purseB B v = false := by cases v <;> first | rfl | (simp only [nameB] at hn; simp [purseB, hn])
    rw [this] at q
    simpa [v_0, x_lit, x_var, x_bin, x_neg, x_not, x_ao, x_cmp, x_cmp2, x_sub, x_glob, x_call, x_prim, x_bm, x_isi, x_list, x_tup, x_dict0, xs_nil, xs_cons, ao_one, ao_cons, xc_none, xc_some, tv, tsub, tattr, wtg, b_add, b_sub, b_mul, b_div, b_mod, b_pow, b_adds, c_lt, c_le, c_gt, c_ge, c_eq, c_ne, c_eqs, c_nes, c_in, c_nin, t_bool, t_int, t_none, w_cons, w_nil, w_ite, w_ret, w_asg, s_expr', s_raise'] using q
  | true =>
    cases v with
    | str k =>
      simp only [nameB] at hn
      simp [v_0, x_lit, x_var, x_bin, x_neg, x_not, x_ao, x_cmp, x_cmp2, x_sub, x_glob, x_call, x_prim, x_bm, x_isi, x_list, x_tup, x_dict0, xs_nil, xs_cons, ao_one, ao_cons, xc_none, xc_some, tv, tsub, tattr, wtg, b_add, b_sub, b_mul, b_div, b_mod, b_pow, b_adds, c_lt, c_le, c_gt, c_ge, c_eq, c_ne, c_eqs, c_nes, c_in, c_nin, t_bool, t_int, t_none]
      refine at_free hA ib rfl (in_free ib ?_)
      cases hh : hs B.free k with
      | true => simp [purseB, hn, hh, t_bool] at q ⊢; exact q
      | false => simp [purseB, hn, hh, t_bool, s_raise'] at q ⊢; exact q
    | _ => cases hn
end
end Mine

end
section
open PySem PySem.W PyProof.Rows PySem.Spec PySem.SeqAt PySem.Calls
namespace Mine
noncomputable def keyOf : AV → Str
  | .str k => k
  | _ => default
noncomputable def intOf : AV → Int
  | .int i => i
  | _ => 0
noncomputable def openQ (B : Bk) (v : AV) : Except String Bk :=
  if nameB v then (if hs B.free (keyOf v) then .error "Taken" else .ok { B with free := pt B.free (keyOf v) 0, aside := pt B.aside (keyOf v) 0 }) else .error "NoName"
noncomputable def freeOf (B : Bk) (v : AV) : Int := (lk B.free (keyOf v)).getD 0
noncomputable def asideOf (B : Bk) (v : AV) : Int := (lk B.aside (keyOf v)).getD 0
noncomputable def putQ (B : Bk) (v a : AV) : Except String Bk :=
  if purseB B v then (if amountB a then .ok { B with free := pt B.free (keyOf v) (freeOf B v + intOf a) } else .error "NoAmount") else .error "NoPurse"
noncomputable def takeQ (B : Bk) (v a : AV) : Except String Bk :=
  if purseB B v then (if amountB a then (if freeOf B v < intOf a then .error "TooLittle" else .ok { B with free := pt B.free (keyOf v) (freeOf B v - intOf a) }) else .error "NoAmount") else .error "NoPurse"
set_option tactic.hygienic false in
theorem name_key {v : AV} (h : nameB v = true) : v = .str (keyOf v) := by cases v <;> first | rfl | cases h
set_option tactic.hygienic false in
theorem purse_name {B : Bk} {v : AV} (h : purseB B v = true) : v = .str (keyOf v) ∧ hs B.free (keyOf v) = true := by
  cases v with
  | str k => simp only [purseB, Bool.and_eq_true] at h; exact ⟨rfl, h.2⟩
  | _ => cases h
set_option tactic.hygienic false in
theorem amount_int {v : AV} (h : amountB v = true) : v = .int (intOf v) := by cases v <;> first | rfl | cases h
theorem purse_free {B : Bk} {v : AV} (h : purseB B v = true) : lk B.free (keyOf v) = some (freeOf B v) := lk_get (purse_name h).2
noncomputable def Bk.Sz (B : Bk) : Prop := B.free.length ≤ sizeLine ∧ B.aside.length ≤ sizeLine
noncomputable def Ends (r : Except String Bk) (q : Bk → Prop) (e : String → Prop) : Prop :=
  match r with
  | .ok B => q B
  | .error cl => e cl

section
variable {c : Cx} {P : Pg} (G : Gd c P) (U : HasA P) {n : Nat} {md : Bool} {Q : AV → AHeap → Prop} {E : String → AHeap → Prop} {H : AHeap} {o : Addr → Option Role} {b f s p : Addr} {as : List Addr} {B : Bk}
section
variable {g : Gx} {V : VV} {QN : VV → AHeap → Prop}
set_option tactic.hygienic false in
theorem st_free {i j : Nat} {k : Str} {x : Int} (hP : g.c.P.attrs = BK.attrs) (ib : IsBook o H b f s p as B) (hl : B.free.length ≤ sizeLine) (hV : V[i]? = some (some (.ref b))) (hj : V[j]? = some (some (.str k)))
    (q : ∀ H', IsBook o H' b f s p as { B with free := pt B.free k x } → Fr1 o H o H' → QN V H') : wpT g (.sub (.attr (.var i) "free") (.var j)) (.int x) V QN E H := by
  rw [tsub]
  refine at_free hP ib hV ?_
  obtain ⟨ep, hf⟩ := ib.hf
  simp only [x_var, hj, hf]
  refine ⟨by rw [dI_len]; exact hl, fun ep' => ?_⟩
  rw [put_dI]
  exact q _ (ib.setFree ep' _) (up_fr (by rw [ib.of]; simp))
set_option tactic.hygienic false in
theorem st_aside {i j : Nat} {k : Str} {x : Int} (hP : g.c.P.attrs = BK.attrs) (ib : IsBook o H b f s p as B) (hl : B.aside.length ≤ sizeLine) (hV : V[i]? = some (some (.ref b))) (hj : V[j]? = some (some (.str k)))
    (q : ∀ H', IsBook o H' b f s p as { B with aside := pt B.aside k x } → Fr1 o H o H' → QN V H') : wpT g (.sub (.attr (.var i) "aside") (.var j)) (.int x) V QN E H := by
  rw [tsub]
  refine at_aside hP ib hV ?_
  obtain ⟨ep, hf⟩ := ib.hs
  simp only [x_var, hj, hf]
  refine ⟨by rw [dI_len]; exact hl, fun ep' => ?_⟩
  rw [put_dI]
  exact q _ (ib.setAside ep' _) (up_fr (by rw [ib.os]; simp))
end
include G U
set_option tactic.hygienic false in
theorem open_raw {v : AV} (ib : IsBook o H b f s p as B) (hk : Kn H v) (hz : B.Sz) (q : Ends (openQ B v) (fun B' => ∀ H', IsBook o H' b f s p as B' → Fr1 o H o H' → Q .none H') (fun cl => E cl H)) : CallOK c (n + 3) true "Book.open_purse" [.ref b, v] Q E H := by
  refine G.call (F := BK.f_Book_open_purse) U.open_purse rfl ?_
  have hA : c.P.attrs = BK.attrs := by rw [G.hP, U.attrs]
  dsimp only [BK.f_Book_open_purse, initV, v_0, x_lit, x_var, x_bin, x_neg, x_not, x_ao, x_cmp, x_cmp2, x_sub, x_glob, x_call, x_prim, x_bm, x_isi, x_list, x_tup, x_dict0, xs_nil, xs_cons, ao_one, ao_cons, xc_none, xc_some, tv, wtg, b_add, b_sub, b_mul, b_div, b_mod, b_pow, b_adds, c_lt, c_le, c_gt, c_ge, c_eq, c_ne, c_eqs, c_nes, c_in, c_nin, t_bool, t_int, t_none, w_cons, w_nil, w_ite, w_ret, w_asg, s_expr', s_raise']
  simp
  refine name_ok G U hk ?_
  unfold openQ at q
  cases hn : nameB v with
  | false => simp [hn, Ends] at q ⊢; exact q
  | true =>
    obtain ⟨k, rfl⟩ : ∃ k, v = .str k := ⟨_, name_key hn⟩
    simp only [hn, if_true, keyOf] at q ⊢
    refine at_free hA ib rfl (in_free ib ?_)
    cases hh : hs B.free k with
    | true => simp [hh, Ends, t_bool, s_raise'] at q ⊢; exact q
    | false =>
      simp [hh, Ends, t_bool] at q ⊢
      refine st_free (k := k) hA ib hz.1 ?_ ?_ fun H1 ib1 f1 => ?_
      · rfl
      · rfl
      refine st_aside (k := k) hA ib1 hz.2 ?_ ?_ fun H2 ib2 f2 => ?_
      · rfl
      · rfl
      exact q H2 ib2 (f1.trans f2)
set_option tactic.hygienic false in
theorem put_raw {v a : AV} (hput : P.fns.lookup "Book.put" = some BK.f_Book_put) (ib : IsBook o H b f s p as B) (hk : Kn H v) (hka : Kn H a) (hz : B.Sz) (q : Ends (putQ B v a) (fun B' => ∀ H', IsBook o H' b f s p as B' → Fr1 o H o H' → Q .none H') (fun cl => E cl H)) : CallOK c (n + 3) true "Book.put" [.ref b, v, a] Q E H := by
  refine G.call (F := BK.f_Book_put) hput rfl ?_
  have hA : c.P.attrs = BK.attrs := by rw [G.hP, U.attrs]
  have hM : c.P.meths = BK.meths := by rw [G.hP, U.meths]
  simp only [BK.f_Book_put, initV, v_0, x_lit, x_var, x_bin, x_neg, x_not, x_ao, x_cmp, x_cmp2, x_sub, x_glob, x_call, x_prim, x_bm, x_isi, x_list, x_tup, x_dict0, xs_nil, xs_cons, ao_one, ao_cons, xc_none, xc_some, tv, wtg, b_add, b_sub, b_mul, b_div, b_mod, b_pow, b_adds, c_lt, c_le, c_gt, c_ge, c_eq, c_ne, c_eqs, c_nes, c_in, c_nin, t_bool, t_int, t_none, w_cons, w_nil, w_ite, w_ret, w_asg, s_expr', s_raise']
  refine at_meth hM (by decide) (by decide) ib rfl ?_
  dsimp only [v_0, x_lit, x_var, x_bin, x_neg, x_not, x_ao, x_cmp, x_cmp2, x_sub, x_glob, x_call, x_prim, x_bm, x_isi, x_list, x_tup, x_dict0, xs_nil, xs_cons, ao_one, ao_cons, xc_none, xc_some, tv, wtg, b_add, b_sub, b_mul, b_div, b_mod, b_pow, b_adds, c_lt, c_le, c_gt, c_ge, c_eq, c_ne, c_eqs, c_nes, c_in, c_nin, t_bool, t_int, t_none]
  refine need_purse_ok G U ib hk ?_
  unfold putQ at q
  cases hp : purseB B v with
  | false => simp [hp, Ends] at q ⊢; exact q
  | true =>
    have hf := purse_free hp
    obtain ⟨k, rfl⟩ : ∃ k, v = .str k := ⟨_, (purse_name hp).1⟩
    simp only [hp, if_true] at q ⊢
    refine at_free hA ib rfl (sub_free ib hf ?_)
    refine amount_ok G U hka ?_
    cases ha : amountB a with
    | false => simp [ha, Ends] at q ⊢; exact q
    | true =>
      obtain ⟨i, rfl⟩ : ∃ i, a = .int i := ⟨_, amount_int ha⟩
      simp only [ha, if_true, Ends, v_0, x_lit, x_var, x_bin, x_neg, x_not, x_ao, x_cmp, x_cmp2, x_sub, x_glob, x_call, x_prim, x_bm, x_isi, x_list, x_tup, x_dict0, xs_nil, xs_cons, ao_one, ao_cons, xc_none, xc_some, tv, wtg, b_add, b_sub, b_mul, b_div, b_mod, b_pow, b_adds, c_lt, c_le, c_gt, c_ge, c_eq, c_ne, c_eqs, c_nes, c_in, c_nin, t_bool, t_int, t_none] at q ⊢
      refine st_free (k := k) hA ib hz.1 ?_ ?_ fun H1 ib1 f1 => ?_
      · rfl
      · rfl
      exact q H1 ib1 f1
set_option tactic.hygienic false in
theorem take_raw {v a : AV} (htake : P.fns.lookup "Book.take" = some BK.f_Book_take) (ib : IsBook o H b f s p as B) (hk : Kn H v) (hka : Kn H a) (hz : B.Sz) (q : Ends (takeQ B v a) (fun B' => ∀ H', IsBook o H' b f s p as B' → Fr1 o H o H' → Q .none H') (fun cl => E cl H)) : CallOK c (n + 3) true "Book.take" [.ref b, v, a] Q E H := by
  refine G.call (F := BK.f_Book_take) htake rfl ?_
  have hA : c.P.attrs = BK.attrs := by rw [G.hP, U.attrs]
  have hM : c.P.meths = BK.meths := by rw [G.hP, U.meths]
  dsimp only [BK.f_Book_take, initV, v_0, x_lit, x_var, x_bin, x_neg, x_not, x_ao, x_cmp, x_cmp2, x_sub, x_glob, x_call, x_prim, x_bm, x_isi, x_list, x_tup, x_dict0, xs_nil, xs_cons, ao_one, ao_cons, xc_none, xc_some, tv, wtg, b_add, b_sub, b_mul, b_div, b_mod, b_pow, b_adds, c_lt, c_le, c_gt, c_ge, c_eq, c_ne, c_eqs, c_nes, c_in, c_nin, t_bool, t_int, t_none, w_cons, w_nil, w_ite, w_ret, w_asg, s_expr', s_raise']
  refine at_meth hM (by decide) (by decide) ib rfl ?_
  simp [v_0, x_lit, x_var, x_bin, x_neg, x_not, x_ao, x_cmp, x_cmp2, x_sub, x_glob, x_call, x_prim, x_bm, x_isi, x_list, x_tup, x_dict0, xs_nil, xs_cons, ao_one, ao_cons, xc_none, xc_some, tv, wtg, b_add, b_sub, b_mul, b_div, b_mod, b_pow, b_adds, c_lt, c_le, c_gt, c_ge, c_eq, c_ne, c_eqs, c_nes, c_in, c_nin, t_bool, t_int, t_none]
  refine need_purse_ok G U ib hk ?_
  unfold takeQ at q
  cases hp : purseB B v with
  | false => simp [hp, Ends] at q ⊢; exact q
  | true =>
    have hf := purse_free hp
    obtain ⟨k, rfl⟩ : ∃ k, v = .str k := ⟨_, (purse_name hp).1⟩
    simp only [hp, if_true] at q ⊢
    refine amount_ok G U hka ?_
    cases ha : amountB a with
    | false => simp [ha, Ends] at q ⊢; exact q
    | true =>
      obtain ⟨i, rfl⟩ : ∃ i, a = .int i := ⟨_, amount_int ha⟩
      simp only [ha, if_true] at q ⊢
      refine at_free hA ib rfl (sub_free ib hf ?_)
      dsimp only [keyOf, intOf, v_0, x_lit, x_var, x_bin, x_neg, x_not, x_ao, x_cmp, x_cmp2, x_sub, x_glob, x_call, x_prim, x_bm, x_isi, x_list, x_tup, x_dict0, xs_nil, xs_cons, ao_one, ao_cons, xc_none, xc_some, tv, wtg, b_add, b_sub, b_mul, b_div, b_mod, b_pow, b_adds, c_lt, c_le, c_gt, c_ge, c_eq, c_ne, c_eqs, c_nes, c_in, c_nin, t_bool, t_int, t_none] at q ⊢
      by_cases hlt : freeOf B (.str k) < i
      · simp [hlt, Ends, s_raise'] at q ⊢; exact q
      · simp [hlt, Ends, w_nil] at q ⊢
        refine at_free hA ib rfl (sub_free ib hf ?_)
        simp only [v_0, x_lit, x_var, x_bin, x_neg, x_not, x_ao, x_cmp, x_cmp2, x_sub, x_glob, x_call, x_prim, x_bm, x_isi, x_list, x_tup, x_dict0, xs_nil, xs_cons, ao_one, ao_cons, xc_none, xc_some, tv, wtg, b_add, b_sub, b_mul, b_div, b_mod, b_pow, b_adds, c_lt, c_le, c_gt, c_ge, c_eq, c_ne, c_eqs, c_nes, c_in, c_nin, t_bool, t_int, t_none]
        refine st_free (k := k) hA ib hz.1 ?_ ?_ fun H1 ib1 f1 => ?_
        · rfl
        · rfl
        exact q H1 ib1 f1
set_option tactic.hygienic false in
theorem freeOf_raw {v : AV} (ib : IsBook o H b f s p as B) (hk : Kn H v) (q : if purseB B v then Q (.int (freeOf B v)) H else E "NoPurse" H) : CallOK c (n + 3) true "Book.free_of" [.ref b, v] Q E H := by
  refine G.call (F := BK.f_Book_free_of) U.free_of rfl ?_
  have hA : c.P.attrs = BK.attrs := by rw [G.hP, U.attrs]
  have hM : c.P.meths = BK.meths := by rw [G.hP, U.meths]
  dsimp only [BK.f_Book_free_of, initV, v_0, x_lit, x_var, x_bin, x_neg, x_not, x_ao, x_cmp, x_cmp2, x_sub, x_glob, x_call, x_prim, x_bm, x_isi, x_list, x_tup, x_dict0, xs_nil, xs_cons, ao_one, ao_cons, xc_none, xc_some, tv, wtg, b_add, b_sub, b_mul, b_div, b_mod, b_pow, b_adds, c_lt, c_le, c_gt, c_ge, c_eq, c_ne, c_eqs, c_nes, c_in, c_nin, t_bool, t_int, t_none, w_cons, w_nil, w_ite, w_ret, w_asg, s_expr', s_raise']
  refine at_meth hM (by decide) (by decide) ib rfl ?_
  dsimp only [v_0, x_lit, x_var, x_bin, x_neg, x_not, x_ao, x_cmp, x_cmp2, x_sub, x_glob, x_call, x_prim, x_bm, x_isi, x_list, x_tup, x_dict0, xs_nil, xs_cons, ao_one, ao_cons, xc_none, xc_some, tv, wtg, b_add, b_sub, b_mul, b_div, b_mod, b_pow, b_adds, c_lt, c_le, c_gt, c_ge, c_eq, c_ne, c_eqs, c_nes, c_in, c_nin, t_bool, t_int, t_none]
  refine need_purse_ok G U ib hk ?_
  cases hp : purseB B v with
  | false => simp [hp] at q ⊢; exact q
  | true =>
    have hf := purse_free hp
    obtain ⟨k, rfl⟩ : ∃ k, v = .str k := ⟨_, (purse_name hp).1⟩
    simp only [hp, if_true] at q ⊢
    exact at_free hA ib rfl (sub_free ib hf q)
set_option tactic.hygienic false in
theorem asideOf_raw {v : AV} (ib : IsBook o H b f s p as B) (hk : Kn H v) (hs' : ∀ k, hs B.free k = true → hs B.aside k = true) (q : if purseB B v then Q (.int (asideOf B v)) H else E "NoPurse" H) : CallOK c (n + 3) true "Book.aside_of" [.ref b, v] Q E H := by
  refine G.call (F := BK.f_Book_aside_of) U.aside_of rfl ?_
  have hA : c.P.attrs = BK.attrs := by rw [G.hP, U.attrs]
  have hM : c.P.meths = BK.meths := by rw [G.hP, U.meths]
  dsimp only [BK.f_Book_aside_of, initV, v_0, x_lit, x_var, x_bin, x_neg, x_not, x_ao, x_cmp, x_cmp2, x_sub, x_glob, x_call, x_prim, x_bm, x_isi, x_list, x_tup, x_dict0, xs_nil, xs_cons, ao_one, ao_cons, xc_none, xc_some, tv, wtg, b_add, b_sub, b_mul, b_div, b_mod, b_pow, b_adds, c_lt, c_le, c_gt, c_ge, c_eq, c_ne, c_eqs, c_nes, c_in, c_nin, t_bool, t_int, t_none, w_cons, w_nil, w_ite, w_ret, w_asg, s_expr', s_raise']
  refine at_meth hM (by decide) (by decide) ib rfl ?_
  dsimp only [v_0, x_lit, x_var, x_bin, x_neg, x_not, x_ao, x_cmp, x_cmp2, x_sub, x_glob, x_call, x_prim, x_bm, x_isi, x_list, x_tup, x_dict0, xs_nil, xs_cons, ao_one, ao_cons, xc_none, xc_some, tv, wtg, b_add, b_sub, b_mul, b_div, b_mod, b_pow, b_adds, c_lt, c_le, c_gt, c_ge, c_eq, c_ne, c_eqs, c_nes, c_in, c_nin, t_bool, t_int, t_none]
  refine need_purse_ok G U ib hk ?_
  cases hp : purseB B v with
  | false => simp [hp] at q ⊢; exact q
  | true =>
    have hf := lk_get (hs' _ (purse_name hp).2)
    obtain ⟨k, rfl⟩ : ∃ k, v = .str k := ⟨_, (purse_name hp).1⟩
    simp only [hp, if_true] at q ⊢
    exact at_aside hA ib rfl (sub_aside ib hf q)
end
end Mine

end
section
open PySem PySem.W PyProof.Rows PySem.Spec PySem.SeqAt PySem.Calls
namespace Mine
set_option tactic.hygienic false in
theorem ne_up {H : AHeap} {a b : Addr} {o : AObj} (h : up H a o b = none) : a ≠ b := fun e => by subst e; rw [up_same] at h; cases h
set_option tactic.hygienic false in
theorem st_a {g : Gx} {V : VV} {K : VV → AHeap → Prop} {E : String → AHeap → Prop} {H : AHeap} {i : Nat} {n cl : String} {a : Addr} {es : List (String × AV)} {x : AV} (hV : V[i]? = some (some (.ref a))) (hP : g.c.P.attrs.contains (cl, n) = true) (h : H a = some (.inst cl es)) (hl : es.length ≤ 100) (q : K V (up H a (.inst cl (putA es n x)))) : wpT g (.attr (.var i) n) x V K E H := by
  rw [tattr, x_var, hV]
  show match H a with | some (.inst cl es) => _ | _ => False
  rw [h]; exact ⟨hP, hl, q⟩
set_option tactic.hygienic false in
theorem up_id {H : AHeap} {a : Addr} {x : AObj} (h : H a = some x) : up H a x = H := by
  funext b
  by_cases e : b = a
  · subst e; rw [up_same, h]
  · rw [up_other e]
set_option tactic.hygienic false in
theorem dP_keys {o : Addr → Option Role} {H : AHeap} : ∀ {i : Nat} {as : List Addr} {ps : List Pc}, pactsAt o H i as ps → ((dP ps as).map fun e => AV.str e.1) = ps.map fun e => .str e.name
  | _, [], [], _ => rfl
  | _, _ :: _, _ :: _, h => by simp only [dP, List.map_cons]; rw [dP_keys h.2]
section
variable {c : Cx} {P : Pg} (G : Gd c P) (U : HasA P) {n : Nat} {md : Bool} {Q : AV → AHeap → Prop} {E : String → AHeap → Prop} {H : AHeap} {b : Addr} {B : Bk}
set_option tactic.hygienic false in
theorem Kn.open {H₂ : AHeap} {v : AV} {o : Addr → Option Role} (hb : H b = some (.book B)) (hold : ∀ a x, H a = some x → a ≠ b → H₂ a = some x ∧ o a = none) (k : Kn H v) : Kn H₂ v := by
  obtain ⟨⟨t, ht⟩, hl⟩ := k
  refine ⟨⟨t, ?_⟩, hl⟩
  cases v with
  | ref a =>
    simp only [vkind] at ht ⊢
    cases e : H a with
    | none => rw [e] at ht; cases ht
    | some x =>
      have : a ≠ b := fun q => by subst q; rw [hb] at e; cases e; rw [hb] at ht; cases ht
      rw [(hold a x e this).1]; rw [e] at ht; exact ht
  | _ => exact ht
set_option tactic.hygienic false in
theorem IsBook.fresh {o : Addr → Option Role} {H₂ : AHeap} {f s p z : Addr} {as : List Addr} (ib : IsBook o H₂ b f s p as B) (hz : H₂ z = none) (y : AObj) : IsBook (fun a => if a = z then none else o a) (up H₂ z y) b f s p as B ∧ Fr1 o H₂ (fun a => if a = z then none else o a) (up H₂ z y) :=
  ⟨ib.congr fun a r x _ ho hx _ => by
      have : a ≠ z := fun q => by subst q; rw [hz] at hx; cases hx
      exact ⟨by simp only [this, if_false]; exact ho, by rw [up_other this]; exact hx⟩,
    ⟨fun a x h k => by
      have : a ≠ z := fun q => by subst q; rw [hz] at h; cases h
      exact ⟨by rw [up_other this]; exact h, by simp only [this, if_false]; exact k⟩, fun _ h => up_gr h⟩⟩
include G U
set_option tactic.hygienic false in
theorem open_B {v : AV} (hb : H b = some (.book B)) (hk : Kn H v) (hz : B.Sz) (q : Ends (openQ B v) (fun B' => Q .none (up H b (.book B'))) (fun cl => E cl H)) : CallOK c (n + 3) true "Book.open_purse" [.ref b, v] Q E H := by
  refine book_call hb fun H₂ o f s p as ib hold => open_raw G U ib (hk.open hb hold) hz ?_
  revert q
  cases openQ B v with
  | ok B' => exact fun q H' ib' fr => ⟨o, f, s, p, as, B', ib', fr, .inl ⟨(fun _ h => by cases h), q⟩⟩
  | error cl => exact fun q => ⟨o, f, s, p, as, B, ib, .refl, by rw [up_id hb]; exact q⟩
set_option tactic.hygienic false in
theorem put_B {v a : AV} (hput : P.fns.lookup "Book.put" = some BK.f_Book_put) (hb : H b = some (.book B)) (hk : Kn H v) (hka : Kn H a) (hz : B.Sz) (q : Ends (putQ B v a) (fun B' => Q .none (up H b (.book B'))) (fun cl => E cl H)) : CallOK c (n + 3) true "Book.put" [.ref b, v, a] Q E H := by
  refine book_call hb fun H₂ o f s p as ib hold => put_raw G U hput ib (hk.open hb hold) (hka.open hb hold) hz ?_
  revert q
  cases putQ B v a with
  | ok B' => exact fun q H' ib' fr => ⟨o, f, s, p, as, B', ib', fr, .inl ⟨(fun _ h => by cases h), q⟩⟩
  | error cl => exact fun q => ⟨o, f, s, p, as, B, ib, .refl, by rw [up_id hb]; exact q⟩
set_option tactic.hygienic false in
theorem take_B {v a : AV} (htake : P.fns.lookup "Book.take" = some BK.f_Book_take) (hb : H b = some (.book B)) (hk : Kn H v) (hka : Kn H a) (hz : B.Sz) (q : Ends (takeQ B v a) (fun B' => Q .none (up H b (.book B'))) (fun cl => E cl H)) : CallOK c (n + 3) true "Book.take" [.ref b, v, a] Q E H := by
  refine book_call hb fun H₂ o f s p as ib hold => take_raw G U htake ib (hk.open hb hold) (hka.open hb hold) hz ?_
  revert q
  cases takeQ B v a with
  | ok B' => exact fun q H' ib' fr => ⟨o, f, s, p, as, B', ib', fr, .inl ⟨(fun _ h => by cases h), q⟩⟩
  | error cl => exact fun q => ⟨o, f, s, p, as, B, ib, .refl, by rw [up_id hb]; exact q⟩
set_option tactic.hygienic false in
theorem freeOf_B {v : AV} (hb : H b = some (.book B)) (hk : Kn H v) (q : if purseB B v then Q (.int (freeOf B v)) H else E "NoPurse" H) : CallOK c (n + 3) true "Book.free_of" [.ref b, v] Q E H := by
  refine book_call hb fun H₂ o f s p as ib hold => freeOf_raw G U ib (hk.open hb hold) ?_
  revert q
  cases purseB B v with
  | true => exact fun q => ⟨o, f, s, p, as, B, ib, .refl, .inl ⟨(fun _ h => by cases h), by rw [up_id hb]; exact q⟩⟩
  | false => exact fun q => ⟨o, f, s, p, as, B, ib, .refl, by rw [up_id hb]; exact q⟩
set_option tactic.hygienic false in
theorem asideOf_B {v : AV} (hb : H b = some (.book B)) (hk : Kn H v) (hs' : ∀ k, hs B.free k = true → hs B.aside k = true) (q : if purseB B v then Q (.int (asideOf B v)) H else E "NoPurse" H) : CallOK c (n + 3) true "Book.aside_of" [.ref b, v] Q E H := by
  refine book_call hb fun H₂ o f s p as ib hold => asideOf_raw G U ib (hk.open hb hold) hs' ?_
  revert q
  cases purseB B v with
  | true => exact fun q => ⟨o, f, s, p, as, B, ib, .refl, .inl ⟨(fun _ h => by cases h), by rw [up_id hb]; exact q⟩⟩
  | false => exact fun q => ⟨o, f, s, p, as, B, ib, .refl, by rw [up_id hb]; exact q⟩
set_option tactic.hygienic false in
theorem none_of {H₂ : AHeap} {o : Addr → Option Role} {f s p z : Addr} {as : List Addr} (hb : H b = some (.book B)) (ib : IsBook o H₂ b f s p as B) (hold : ∀ a x, H a = some x → a ≠ b → H₂ a = some x ∧ o a = none) (hz : H₂ z = none) : H z = none := by
  cases e : H z with
  | none => rfl
  | some x =>
    by_cases q : z = b
    · subst q; rw [ib.hb] at hz; cases hz
    · rw [(hold z x e q).1] at hz; cases hz
set_option tactic.hygienic false in
theorem purses_B (hb : H b = some (.book B)) (hz : B.Sz) (q : ∀ z, H z = none → Q (.ref z) (up H z (.list (B.free.map fun e => .str e.1)))) : CallOK c (n + 1) true "Book.purses" [.ref b] Q E H := by
  refine book_call hb fun H₂ o f s p as ib hold => ?_
  refine G.call (F := BK.f_Book_purses) U.purses rfl ?_
  have hA : c.P.attrs = BK.attrs := by rw [G.hP, U.attrs]
  dsimp only [BK.f_Book_purses, initV, v_0, x_lit, x_var, x_bin, x_neg, x_not, x_ao, x_cmp, x_cmp2, x_sub, x_glob, x_call, x_prim, x_bm, x_isi, x_list, x_tup, x_dict0, xs_nil, xs_cons, ao_one, ao_cons, xc_none, xc_some, tv, wtg, b_add, b_sub, b_mul, b_div, b_mod, b_pow, b_adds, c_lt, c_le, c_gt, c_ge, c_eq, c_ne, c_eqs, c_nes, c_in, c_nin, t_bool, t_int, t_none, w_cons, w_nil, w_ite, w_ret, w_asg, s_expr', s_raise']
  refine at_free hA ib rfl ?_
  obtain ⟨ep, hf⟩ := ib.hf
  simp only [p_lens, p_range, p_range2, p_int, p_lenr, p_listr, p_sumr, hf]
  refine ⟨trivial, by rw [dI_len]; exact hz.1, fun z hz => ?_⟩
  obtain ⟨i1, i2⟩ := ib.fresh hz (.list ((dI B.free).map fun e => .str e.1))
  refine ⟨_, f, s, p, as, B, i1, i2, .inr ⟨z, _, rfl, none_of G U hb ib hold hz, up_same, by simp, ?_⟩⟩
  rw [up_id hb]
  have := q z (none_of G U hb ib hold hz)
  simp only [dI, List.map_map] at this ⊢
  exact this
set_option tactic.hygienic false in
theorem told_B (hb : H b = some (.book B)) (hp : B.pacts.length ≤ sizeLine) (q : ∀ z, H z = none → Q (.ref z) (up H z (.list (B.pacts.map fun e => .str e.name)))) : CallOK c (n + 1) true "Book.told" [.ref b] Q E H := by
  refine book_call hb fun H₂ o f s p as ib hold => ?_
  refine G.call (F := BK.f_Book_told) U.told rfl ?_
  have hA : c.P.attrs = BK.attrs := by rw [G.hP, U.attrs]
  dsimp only [BK.f_Book_told, initV, v_0, x_lit, x_var, x_bin, x_neg, x_not, x_ao, x_cmp, x_cmp2, x_sub, x_glob, x_call, x_prim, x_bm, x_isi, x_list, x_tup, x_dict0, xs_nil, xs_cons, ao_one, ao_cons, xc_none, xc_some, tv, wtg, b_add, b_sub, b_mul, b_div, b_mod, b_pow, b_adds, c_lt, c_le, c_gt, c_ge, c_eq, c_ne, c_eqs, c_nes, c_in, c_nin, t_bool, t_int, t_none, w_cons, w_nil, w_ite, w_ret, w_asg, s_expr', s_raise']
  refine at_pacts hA ib rfl ?_
  obtain ⟨ep, hf⟩ := ib.hp
  have e2 := dP_keys ib.ps
  have e1 : (dP B.pacts as).length = B.pacts.length := by have := congrArg List.length e2; simpa using this
  simp only [p_lens, p_range, p_range2, p_int, p_lenr, p_listr, p_sumr, hf]
  refine ⟨trivial, by rw [e1]; exact hp, fun z hz => ?_⟩
  obtain ⟨i1, i2⟩ := ib.fresh hz (.list ((dP B.pacts as).map fun e => .str e.1))
  refine ⟨_, f, s, p, as, B, i1, i2, .inr ⟨z, _, rfl, none_of G U hb ib hold hz, up_same, by simp, ?_⟩⟩
  rw [up_id hb, e2]
  exact q z (none_of G U hb ib hold hz)
set_option tactic.hygienic false in
omit G U in
theorem new_book {g : Gx} {V : VV} (hP : g.c = c) (G : Gd g.c P) (U : HasA P) (hn : ∃ m, g.n = m + 1) (q : ∀ a, H a = none → Q (.ref a) (up H a (.book ⟨0, [], [], []⟩))) : wpX g (.new "Book" []) V Q E H := by
  obtain ⟨m, hm⟩ := hn
  rw [x_new, xs_nil, hm]
  intro a ha
  refine CallOK.post (Q := fun r H' => r = .none ∧ ∃ o f s p, IsBook o H' a f s p [] ⟨0, [], [], []⟩ ∧ ∀ x y, x ≠ a → H x = some y → H' x = some y ∧ o x = none) (E := fun _ _ => False) ?_ (fun r H' h => ?_) (fun _ _ h => h.elim)
  · refine G.call (F := BK.f_Book___init__) U.init rfl ?_
    have hA : g.c.P.attrs = BK.attrs := by rw [G.hP, U.attrs]
    have hC : ∀ n, BK.attrs.contains ("Book", n) = true → g.c.P.attrs.contains ("Book", n) = true := fun n h => by rw [hA]; exact h
    refine w_st fun K nx => ?_
    rw [w_asg, x_lit]
    refine st_a rfl (hC _ rfl) up_same (by decide) (nx _ _ ?_)
    refine w_st fun K nx => ?_
    rw [w_asg, x_dict0]
    intro f hf
    have fa : a ≠ f := ne_up hf
    refine st_a rfl (hC _ rfl) (by rw [up_other fa, up_same]) (by decide) (nx _ _ ?_)
    refine w_st fun K nx => ?_
    rw [w_asg, x_dict0]
    intro s hs
    have sa : a ≠ s := ne_up hs
    have sf : f ≠ s := ne_up (by rw [up_other sa.symm] at hs; exact hs)
    refine st_a rfl (hC _ rfl) (by rw [up_other sa, up_same]) (by exact (show 2 ≤ 100 by decide)) (nx _ _ ?_)
    refine w_st fun K nx => ?_
    rw [w_asg, x_dict0]
    intro p hp
    have pa : a ≠ p := ne_up hp
    have ps : s ≠ p := ne_up (by rw [up_other pa.symm] at hp; exact hp)
    have pf : f ≠ p := ne_up (by rw [up_other pa.symm, up_other ps.symm, up_other pa.symm] at hp; exact hp)
    refine st_a rfl (hC _ rfl) (by rw [up_other pa, up_same]) (by exact (show 3 ≤ 100 by decide)) (nx _ _ ?_)
    refine ⟨rfl, fun x => if x = a then some .self else if x = f then some .free else if x = s then some .aside else if x = p then some .pacts else none, f, s, p, ⟨by simp, by simp [fa.symm], by simp [sa.symm, sf.symm], by simp [pa.symm, pf.symm, ps.symm], up_same, ⟨0, ?_⟩, ⟨0, ?_⟩, ⟨0, ?_⟩, trivial⟩, fun x y hx hy => ?_⟩
    · rw [up_other fa.symm, up_other pf, up_other fa.symm, up_other sf, up_other fa.symm, up_same]; rfl
    · rw [up_other sa.symm, up_other ps, up_other sa.symm, up_same]; rfl
    · rw [up_other pa.symm, up_same]; rfl
    · have xf : x ≠ f := fun e => by subst e; rw [up_other hx, up_other hx, hy] at hf; cases hf
      have xs : x ≠ s := fun e => by subst e; rw [up_other hx, up_other xf, up_other hx, up_other hx, hy] at hs; cases hs
      have xp : x ≠ p := fun e => by subst e; rw [up_other hx, up_other xs, up_other hx, up_other xf, up_other hx, up_other hx, hy] at hp; cases hp
      exact ⟨by rw [up_other hx, up_other xp, up_other hx, up_other xs, up_other hx, up_other xf, up_other hx, up_other hx, hy], by simp [hx, xf, xs, xp]⟩
  · obtain ⟨rfl, o, f, s, p, ib, hold⟩ := h
    refine ⟨_, fun H₁ r => r.pack ib fun x y e => ?_, rfl, q a ha⟩
    by_cases w : x = a
    · subst w; rw [up_same] at e; cases e; exact .inl ⟨rfl, rfl⟩
    · rw [up_other w] at e
      exact .inr ⟨w, (hold x y w e).2, (hold x y w e).1⟩
end
end Mine

end
section
open PySem PySem.W PyProof.Rows PySem.Spec PySem.SeqAt PySem.Calls
namespace Mine
noncomputable def cell (ns : List Int) (k : Nat) : Int := (ns[k]?).getD 0
set_option tactic.hygienic false in
theorem cell_ok {c : Cx} {P : Pg} (G : Gd c P) (hf : P.fns.lookup "_law_cell_at" = some BK.f__law_cell_at) {n : Nat} {md : Bool} {Q : AV → AHeap → Prop} {E : String → AHeap → Prop} {H : AHeap} {sp : Addr} {ns : List Int} {k : Int} (hk : 0 ≤ k) (hs : H sp = some (.script ns)) (hl : ns.length < 2 ^ 62)
    (q : Q (.int (cell ns k.toNat)) H) : CallOK c (n + 1) md "_law_cell_at" [.ref sp, .int k] Q E H := by
  refine G.call (F := BK.f__law_cell_at) hf rfl ?_
  simp [BK.f__law_cell_at, p_lens, p_range, p_range2, p_int, p_lenr, p_listr, p_sumr, hs, hl, initV, sub_ri, sub_rs, sub_si, v_0, x_lit, x_var, x_bin, x_neg, x_not, x_ao, x_cmp, x_cmp2, x_sub, x_glob, x_call, x_prim, x_bm, x_isi, x_list, x_tup, x_dict0, xs_nil, xs_cons, ao_one, ao_cons, xc_none, xc_some, tv, tsub, tattr, wtg, b_add, b_sub, b_mul, b_div, b_mod, b_pow, b_adds, c_lt, c_le, c_gt, c_ge, c_eq, c_ne, c_eqs, c_nes, c_in, c_nin, t_bool, t_int, t_none, w_cons, w_nil, w_ite, w_ret, w_asg, s_expr', s_raise']
  obtain ⟨j, rfl⟩ := Int.eq_ofNat_of_zero_le hk
  by_cases h : j < ns.length
  · simp [h]
    refine ⟨by omega, ?_⟩
    simpa [cell, h] using q
  · simp [h]
    simpa [cell, h] using q

set_option tactic.hygienic false in
theorem fmod_lo {x m : Int} (h : 0 < m) : 0 ≤ x.fmod m := by rw [Int.fmod_eq_emod_of_nonneg _ (by omega)]; exact Int.emod_nonneg _ (by omega)
set_option tactic.hygienic false in
theorem fmod_hi {x m : Int} (h : 0 < m) : x.fmod m < m := by rw [Int.fmod_eq_emod_of_nonneg _ (by omega)]; exact Int.emod_lt_of_pos _ h

set_option tactic.hygienic false in
theorem up_ne {H : AHeap} {a b : Addr} {o o' : AObj} (h : H b = some o') (k : H a = none) : up H a o b = some o' := by
  rw [up_other (fun z => by rw [z, k] at h; cases h)]; exact h
noncomputable def Ext (H H' : AHeap) : Prop := ∀ a o, H a = some o → H' a = some o
theorem Ext.refl {H : AHeap} : Ext H H := fun _ _ h => h
theorem Ext.trans {H H' H'' : AHeap} (x : Ext H H') (y : Ext H' H'') : Ext H H'' := fun a o h => y a o (x a o h)
set_option tactic.hygienic false in
theorem Ext.none {H H' : AHeap} {z : Addr} (x : Ext H H') (h : H' z = none) : H z = none := by
  cases q : H z with
  | none => rfl
  | some o => rw [x z o q] at h; cases h
set_option tactic.hygienic false in
theorem Ext.own {H H' : AHeap} {z : Addr} {o : AObj} (x : Ext H H') (h : H z = Option.none) : Ext H (up H' z o) := fun a o' e => by
  rw [up_other (fun q => by rw [q, h] at e; cases e)]; exact x a o' e
theorem Ext.new {H H' : AHeap} {z : Addr} {o : AObj} (x : Ext H H') (h : H' z = Option.none) : Ext H (up H' z o) := x.own (x.none h)
set_option tactic.hygienic false in
theorem ne_of {H : AHeap} {a b : Addr} {o : AObj} (h : H a = some o) (k : H b = none) : a ≠ b := fun q => by rw [q, k] at h; cases h

noncomputable def txs (l : List Str) : List AV := l.map AV.str
set_option tactic.hygienic false in
theorem txs_length {l : List Str} : (txs l).length = l.length := by simp [txs]
set_option tactic.hygienic false in
theorem txs_get {l : List Str} {k : Nat} {x : AV} (h : (txs l)[k]? = some x) : ∃ s, x = .str s ∧ l[k]? = some s := by
  unfold txs at h
  rw [List.getElem?_map, Option.map_eq_some_iff] at h
  obtain ⟨s, h1, h2⟩ := h
  exact ⟨s, h2.symm, h1⟩
set_option tactic.hygienic false in
theorem txs_snoc {l : List Str} {s : Str} : txs l ++ [.str s] = txs (l ++ [s]) := by simp [txs]
set_option tactic.hygienic false in
theorem take_snoc {α : Type} {l : List α} {k : Nat} {x : α} (h : l[k]? = some x) : l.take (k + 1) = l.take k ++ [x] := by
  rw [List.take_add_one, h]; rfl

theorem rd_txs {H : AHeap} : ∀ {l : List Str}, RDs H (txs l) (l.map PyData.str)
  | [] => .nil
  | s :: r => .cons (.str s) rd_txs
set_option tactic.hygienic false in
theorem flat_txs : ∀ {l : List Str}, flatDs (l.map PyData.str) = true
  | [] => rfl
  | s :: r => by simp [flatDs, flatD, flat_txs (l := r)]
set_option tactic.hygienic false in
theorem depth_txs : ∀ {l : List Str}, PyData.depthAll (l.map PyData.str) = 0
  | [] => rfl
  | s :: r => by simp [PyData.depthAll, PyData.depth, depth_txs (l := r)]
set_option tactic.hygienic false in
theorem ok_txs {l : List Str} : okD (.list (l.map PyData.str)) := ⟨by simp [flatD, flat_txs], by simp [PyData.depth, depth_txs]⟩
set_option tactic.hygienic false in
theorem eqv_txs : ∀ {l l' : List Str}, PyData.eqvAll (l.map PyData.str) (l'.map PyData.str) = decide (l = l')
  | [], [] => rfl
  | [], _ :: _ => rfl
  | _ :: _, [] => rfl
  | s :: r, s' :: r' => by
    simp only [List.map_cons, eqv_c, eqv_s, eqv_txs (l := r) (l' := r'), List.cons.injEq]
    by_cases h : s = s' <;> simp [h]
section
variable {Q : AV → AHeap → Prop} {H : AHeap}
set_option tactic.hygienic false in
theorem win_dict {no : Bool} {x : Str} {a : Addr} {ep : Nat} {es : List (Str × AV)} (h : H a = some (.dict ep es)) (q : Q (.bool ((lookS es x).isSome != no)) H) : win no (.str x) (.ref a) Q H := by
  simp only [in_ref, in_strv, h, ← nt_eq]; exact q
set_option tactic.hygienic false in
theorem weq_txs {ne : Bool} {a b : Addr} {l l' : List Str} (h : H a = some (.list (txs l))) (h' : H b = some (.list (txs l'))) (q : Q (.bool (decide (l = l') != ne)) H) : weq ne (.ref a) (.ref b) Q H := by
  simp only [weq, isDictV, h]
  refine ⟨.list (l.map PyData.str), .list (l'.map PyData.str), .list h rd_txs, .list h' rd_txs, ok_txs, ok_txs, ?_⟩
  rw [eqv_l, eqv_txs, ← nt_eq]; exact q
end

theorem c_eqr {Q : AV → AHeap → Prop} {H : AHeap} {u v : AV} : wcmp .Eq u v Q H = weq false u v Q H := rfl
theorem c_ner {Q : AV → AHeap → Prop} {H : AHeap} {u v : AV} : wcmp .NotEq u v Q H = weq true u v Q H := rfl

section
variable {Q : AV → AHeap → Prop} {H : AHeap}
set_option tactic.hygienic false in
theorem p_len {a : Addr} {xs : List AV} (h : H a = some (.list xs)) (hl : xs.length ≤ 100000) (q : Q (.int xs.length) H) : wprim md .len [.ref a] Q H := by
  simp only [p_lens, p_range, p_range2, p_int, p_lenr, p_listr, p_sumr, h]; exact ⟨by omega, q⟩
set_option tactic.hygienic false in
theorem p_list {a : Addr} {xs : List AV} (h : H a = some (.list xs)) (hl : xs.length ≤ 100000) (q : ∀ z, H z = none → Q (.ref z) (up H z (.list xs))) : wprim md .list [.ref a] Q H := by
  simp only [p_lens, p_range, p_range2, p_int, p_lenr, p_listr, p_sumr, h]; exact ⟨by simp [sizeLine]; omega, q⟩
theorem p_listT {a : Addr} {l : List Str} (h : H a = some (.list (txs l))) (hl : l.length ≤ 1000) (q : ∀ z, H z = none → Q (.ref z) (up H z (.list (txs l)))) : wprim md .list [.ref a] Q H :=
  p_list h (by rw [txs_length]; exact Nat.le_trans hl (by decide)) q
set_option tactic.hygienic false in
theorem m_append {p : Addr} {xs : List AV} {v : AV} (h : H p = some (.list xs)) (hl : xs.length ≤ 100000) (q : Q .none (up H p (.list (xs ++ [v])))) : wbm (.ref p) .append [v] Q H := by
  simp only [m_app, m_clr, m_idx, m_cnt, m_val, m_pop, h]; exact ⟨by simp [sizeLine]; omega, q⟩
end

section
variable {g : Gx} {QN : VV → AHeap → Prop} {QR : AV → AHeap → Prop} {E : String → VV → AHeap → Prop} {V : VV} {H : AHeap}
end

theorem wforI {QN : VV → AHeap → Prop} {stp : AV → (VV → AHeap → Prop) → VV → AHeap → Prop} {v : AV} {V : VV} {H : AHeap} {xs : List AV} (hx : itemsOf H v = some xs) (J : Nat → VV → AHeap → Prop) (h0 : J 0 V H)
    (hs : ∀ I : Nat → VV → AHeap → Prop, (∀ k V' H', J k V' H' → I k V' H') → ∀ k V' H', J k V' H' → sameIt H H' v ∧ (k = xs.length → QN V' H') ∧ ∀ x, xs[k]? = some x → stp x (I (k + 1)) V' H') : WFor QN stp v V H :=
  wfor hx J h0 (hs J fun _ _ _ h => h)

set_option tactic.hygienic false in
theorem wcomp_ext {Q : AV → AHeap → Prop} {stp : AV → (Option AV → AHeap → Prop) → AHeap → Prop} {v : AV} {H : AHeap} {xs : List AV} (hx : itemsOf H v = some xs) (hl : xs.length ≤ sizeLine) (f : AV → Option AV)
    (hs : ∀ x ∈ xs, ∀ H', Ext H H' → ∀ nx : Option AV → AHeap → Prop, (∀ H'', Ext H' H'' → nx (f x) H'') → stp x nx H')
    (q : ∀ a H', Ext H H' → H' a = none → Q (.ref a) (up H' a (.list (xs.filterMap f)))) : WComp Q stp v H := by
  refine ⟨xs, hx, hl, fun k acc H' => Ext H H' ∧ acc = (xs.take k).filterMap f, ⟨.refl, by simp⟩, ?_⟩
  rintro k acc H' ⟨hE, rfl⟩
  refine ⟨?_, fun hk a ha => ?_, fun x hxk => ?_⟩
  · cases v with
    | ref a =>
      simp only [itemsOf] at hx
      simp only [sameIt]
      cases q : H a with
      | none => rw [q] at hx; cases hx
      | some o => exact hE a o q
    | _ => trivial
  · have := q a H' hE ha
    rw [hk, List.take_length]; exact this
  · refine hs x (List.mem_of_getElem? hxk) H' hE _ fun H'' hE' => ⟨hE.trans hE', ?_⟩
    rw [take_snoc hxk, List.filterMap_append]
    cases hf : f x <;> simp [hf]

section
variable {c : Cx} {P : Pg} (G : Gd c P) {n : Nat} {md : Bool} {Q : AV → AHeap → Prop} {E : String → AHeap → Prop} {H : AHeap}

end
noncomputable def chI (i : Int) : Nat := (letters.cps[i.toNat]?).getD 0
set_option tactic.hygienic false in
theorem letters_size : letters.cps.size = 26 := by decide +kernel
set_option tactic.hygienic false in
theorem sub_let {Q : AV → AHeap → Prop} {H : AHeap} {i : Int} (h0 : 0 ≤ i) (h1 : i < 26) (q : Q (.str ⟨#[chI i]⟩) H) : wsub (.str letters) (.int i) Q H := by
  have hlt : i.toNat < letters.cps.size := by rw [letters_size]; omega
  refine ⟨h0, by omega, letters.cps[i.toNat], by simp [hlt], ?_⟩
  have : chI i = letters.cps[i.toNat] := by simp [chI, hlt]
  rw [← this]; exact q

set_option tactic.hygienic false in
theorem str_app {a b : List Nat} : (⟨a.toArray⟩ ++ ⟨b.toArray⟩ : Str) = ⟨(a ++ b).toArray⟩ := by
  show Str.mk _ = Str.mk _
  simp
set_option tactic.hygienic false in
theorem str_len {a : List Nat} : (⟨a.toArray⟩ : Str).length = a.length := by show a.toArray.size = _; simp

section
variable {c : Cx} {P : Pg} (G : Gd c P) {n : Nat} {Q : AV → AHeap → Prop} {E : String → AHeap → Prop} {H : AHeap}

end
set_option tactic.hygienic false in
theorem lk_cons {l : List (Str × Int)} {e : Str × Int} {s : Str} : lk (e :: l) s = if e.1 = s then some e.2 else lk l s := by
  unfold lk
  rw [List.find?_cons]
  by_cases h : e.1 = s <;> simp [h]
set_option tactic.hygienic false in
theorem lk_set {l : List (Str × Int)} {k s : Str} {x : Int} : lk (l.map fun e => if e.1 = k then (e.1, x) else e) s = if s = k then (lk l k).map (fun _ => x) else lk l s := by
  induction l with
  | nil => by_cases h : s = k <;> simp [h, lk]
  | cons e r ih =>
    rw [List.map_cons, lk_cons, lk_cons, lk_cons, ih]
    by_cases h : e.1 = k
    · by_cases h2 : s = k
      · simp [h, h2]
      · have : ¬ k = s := fun e => h2 e.symm
        simp [h, h2, this]
    · by_cases h2 : s = k
      · simp [h, h2]
      · simp [h, h2]
set_option tactic.hygienic false in
theorem lk_app {l : List (Str × Int)} {k s : Str} {x : Int} (h : lk l k = none) : lk (l ++ [(k, x)]) s = if s = k then some x else lk l s := by
  induction l with
  | nil => rw [List.nil_append, lk_cons]; by_cases h2 : s = k <;> simp [h2, lk] ; exact fun e => absurd e.symm h2
  | cons e r ih =>
    rw [lk_cons] at h
    by_cases h1 : e.1 = k
    · simp [h1] at h
    · rw [if_neg h1] at h
      rw [List.cons_append, lk_cons, lk_cons, ih h]
      by_cases h2 : s = k
      · simp [h2, h1]
      · simp [h2]
theorem lk_pt {l : List (Str × Int)} {k s : Str} {x : Int} : lk (pt l k x) s = if s = k then some x else lk l s := by
  unfold pt
  split
  · rename_i h
    rw [lk_set]
    obtain ⟨y, hy⟩ := Option.isSome_iff_exists.mp h
    rw [hy]; rfl
  · rename_i h
    exact lk_app (by simpa using h)
set_option tactic.hygienic false in
theorem hs_pt {l : List (Str × Int)} {k s : Str} {x : Int} : hs (pt l k x) s = (decide (s = k) || hs l s) := by
  unfold hs; rw [lk_pt]; by_cases h : s = k <;> simp [h]
end Mine

end
section
open PySem PySem.W PyProof.Rows PySem.Spec PySem.SeqAt PySem.Calls
namespace Mine
noncomputable def pAt : List Pc → Str → Option (Nat × Pc)
  | [], _ => none
  | q :: r, k => if q.name = k then some (0, q) else (pAt r k).map fun e => (e.1 + 1, e.2)
set_option tactic.hygienic false in
theorem pAt_get : ∀ {ps : List Pc} {k : Str} {j : Nat} {q : Pc}, pAt ps k = some (j, q) → ps[j]? = some q ∧ q.name = k
  | q' :: r, k, j, q, h => by
    unfold pAt at h
    by_cases e : q'.name = k
    · rw [if_pos e] at h; cases h; exact ⟨rfl, e⟩
    · rw [if_neg e] at h
      obtain ⟨⟨j', q''⟩, h1, h2⟩ := Option.map_eq_some_iff.mp h
      cases h2
      exact pAt_get (ps := r) h1
section
variable {o : Addr → Option Role} {H H' : AHeap}
set_option tactic.hygienic false in
theorem pactsAt_look : ∀ {i : Nat} {as : List Addr} {ps : List Pc}, pactsAt o H i as ps → ∀ {k : Str}, lookS (dP ps as) k = (pAt ps k).bind fun e => (as[e.1]?).map .ref
  | _, [], [], _, k => rfl
  | i, a :: as, q :: qs, h, k => by
    show lookS ((q.name, .ref a) :: dP qs as) k = _
    unfold lookS pAt
    rw [List.find?_cons]
    by_cases e : q.name = k
    · rw [if_pos e, show decide ((q.name, AV.ref a).1 = k) = true from decide_eq_true e]; rfl
    · rw [if_neg e, show decide ((q.name, AV.ref a).1 = k) = false from decide_eq_false e]
      have := pactsAt_look h.2 (k := k)
      unfold lookS at this
      show Option.map (·.2) (List.find? (fun e => decide (e.1 = k)) (dP qs as)) = _
      rw [this]
      cases pAt qs k <;> rfl
set_option tactic.hygienic false in
theorem pactsAt_get : ∀ {i : Nat} {as : List Addr} {ps : List Pc} {j : Nat} {q : Pc}, pactsAt o H i as ps → ps[j]? = some q → ∃ a, as[j]? = some a ∧ IsPact o H (i + j) a q
  | i, a :: as, q' :: qs, 0, q, h, e => by cases e; exact ⟨a, rfl, h.1⟩
  | i, a :: as, q' :: qs, j + 1, q, h, e => by
    obtain ⟨a', h1, h2⟩ := pactsAt_get (j := j) h.2 e
    exact ⟨a', h1, by rw [show i + (j + 1) = i + 1 + j by omega]; exact h2⟩
  | _, [], [], _, _, _, e => by cases e
  | _, [], _ :: _, _, _, h, _ => h.elim
  | _, _ :: _, [], _, _, h, _ => h.elim
set_option tactic.hygienic false in
theorem pactsAt_set : ∀ {i : Nat} {as : List Addr} {ps : List Pc} {j : Nat} {a : Addr} {q : Pc}, pactsAt o H i as ps → KB (fun r => r ≠ .pact (i + j) ∧ r ≠ .inside (i + j)) o o H H' → as[j]? = some a → IsPact o H' (i + j) a q → pactsAt o H' i as (ps.set j q)
  | i, a :: as, q' :: qs, 0, _, q, h, k, e, hq => by
    cases e
    refine ⟨hq, h.2.congr k ⟨(fun z => by cases z), fun z => by cases z⟩ fun m hm => ⟨⟨(fun z => by cases z <;> omega), fun z => by cases z⟩, (fun z => by cases z), fun z => by cases z <;> omega⟩⟩
  | i, a :: as, q' :: qs, j + 1, b, q, h, k, e, hq => by
    refine ⟨h.1.congr k ⟨(fun z => by cases z), fun z => by cases z⟩ ⟨⟨(fun z => by cases z <;> omega), fun z => by cases z⟩, (fun z => by cases z), fun z => by cases z <;> omega⟩, ?_⟩
    rw [show i + (j + 1) = i + 1 + j by omega] at k hq
    exact pactsAt_set h.2 k e hq
  | _, [], [], _, _, _, _, _, e, _ => by cases e
set_option tactic.hygienic false in
theorem dP_set : ∀ {ps : List Pc} {as : List Addr} {j : Nat} {q q' : Pc}, ps[j]? = some q → q'.name = q.name → dP (ps.set j q') as = dP ps as
  | _ :: _, [], _, _, _, _, _ => by simp [dP]
  | p :: ps, a :: as, 0, q, q', h, e => by cases h; simp only [List.set_cons_zero, dP, e]
  | p :: ps, a :: as, j + 1, q, q', h, e => by simp only [List.set_cons_succ, dP]; rw [dP_set (j := j) h e]
set_option tactic.hygienic false in
theorem IsBook.setPact {b f s p a : Addr} {as : List Addr} {B : Bk} {j : Nat} {q q' : Pc} (ib : IsBook o H b f s p as B) (hj : B.pacts[j]? = some q) (ha : as[j]? = some a) (k : KB (fun r => r ≠ .pact j ∧ r ≠ .inside j) o o H H') (hq : IsPact o H' j a q') (hn : q'.name = q.name) : IsBook o H' b f s p as { B with pacts := B.pacts.set j q' } := by
  obtain ⟨e1, h1⟩ := ib.hf
  obtain ⟨e2, h2⟩ := ib.hs
  obtain ⟨e3, h3⟩ := ib.hp
  have n : ∀ {r : Role}, (∀ i, r ≠ .pact i) → (∀ i, r ≠ .inside i) → r ≠ .pact j ∧ r ≠ .inside j := fun h h' => ⟨h j, h' j⟩
  refine ⟨ib.ob, ib.of, ib.os, ib.op, (k b _ _ ⟨(fun z => by cases z), fun z => by cases z⟩ ib.ob ib.hb rfl).2, ⟨e1, (k f _ _ ⟨(fun z => by cases z), fun z => by cases z⟩ ib.of h1 rfl).2⟩, ⟨e2, (k s _ _ ⟨(fun z => by cases z), fun z => by cases z⟩ ib.os h2 rfl).2⟩, ⟨e3, ?_⟩, ?_⟩
  · show H' p = some (.dict e3 (dP (B.pacts.set j q') as))
    rw [dP_set hj hn]; exact (k p _ _ ⟨(fun z => by cases z), fun z => by cases z⟩ ib.op h3 rfl).2
  · exact pactsAt_set ib.ps (by rw [Nat.zero_add]; exact k) ha (by rw [Nat.zero_add]; exact hq)
end
noncomputable def pactV (B : Bk) : AV → Option (Nat × Pc)
  | .str k => if isNm k then pAt B.pacts k else none
  | _ => none
structure HasP (P : Pg) : Prop where
  a : HasA P
  need_pact : P.fns.lookup "Book.need_pact" = some BK.f_Book_need_pact
  need_open : P.fns.lookup "Book.need_open" = some BK.f_Book_need_open
section
variable {c : Cx} {P : Pg} (G : Gd c P) (U : HasP P) {n : Nat} {md : Bool} {Q : AV → AHeap → Prop} {E : String → AHeap → Prop} {H : AHeap} {o : Addr → Option Role} {b f s p : Addr} {as : List Addr} {B : Bk}
set_option tactic.hygienic false in
theorem in_pacts {k : Str} {no : Bool} (ib : IsBook o H b f s p as B) (q : Q (.bool ((pAt B.pacts k).isSome != no)) H) : win no (.str k) (.ref p) Q H := by
  obtain ⟨ep, hp⟩ := ib.hp
  rw [in_ref, hp]
  show Q (.bool (nt no (lookS (dP B.pacts as) k).isSome)) H
  rw [pactsAt_look ib.ps, ← nt_eq]
  cases e : pAt B.pacts k with
  | none => rw [e] at q; exact q
  | some x =>
    obtain ⟨a, h1, _⟩ := pactsAt_get ib.ps (pAt_get (j := x.1) (q := x.2) e).1
    rw [e] at q
    show Q (.bool (((as[x.1]?).map AV.ref).isSome != no)) H
    rw [h1]; exact q
set_option tactic.hygienic false in
theorem sub_pacts {k : Str} {j : Nat} {x : Pc} (ib : IsBook o H b f s p as B) (e : pAt B.pacts k = some (j, x)) (q : ∀ a, as[j]? = some a → IsPact o H j a x → Q (.ref a) H) : wsub (.ref p) (.str k) Q H := by
  obtain ⟨ep, hp⟩ := ib.hp
  obtain ⟨a, h1, h2⟩ := pactsAt_get ib.ps (pAt_get e).1
  rw [sub_rs, hp]
  refine ⟨.ref a, ?_, q a h1 (by rw [Nat.zero_add] at h2; exact h2)⟩
  rw [pactsAt_look ib.ps, e]
  show (as[j]?).map AV.ref = _
  rw [h1]; rfl
include G U
set_option tactic.hygienic false in
theorem need_pact_ok {v : AV} (ib : IsBook o H b f s p as B) (hk : Kn H v) (q : match pactV B v with | some (j, x) => ∀ a, as[j]? = some a → IsPact o H j a x → Q (.ref a) H | none => E "NoPact" H) : CallOK c (n + 2) true "Book.need_pact" [.ref b, v] Q E H := by
  refine G.call (F := BK.f_Book_need_pact) U.need_pact rfl ?_
  have hA : c.P.attrs = BK.attrs := by rw [G.hP, U.a.attrs]
  show wpSs _ _ _ _ _ [some (.ref b), some v] _
  refine w_st fun K nx => ?_
  dsimp [v_0, x_lit, x_var, x_bin, x_neg, x_not, x_ao, x_cmp, x_cmp2, x_sub, x_glob, x_call, x_prim, x_bm, x_isi, x_list, x_tup, x_dict0, xs_nil, xs_cons, ao_one, ao_cons, xc_none, xc_some, tv, wtg, b_add, b_sub, b_mul, b_div, b_mod, b_pow, b_adds, c_lt, c_le, c_gt, c_ge, c_eq, c_ne, c_eqs, c_nes, c_in, c_nin, t_bool, t_int, t_none, w_cons, w_nil, w_ite, w_ret, w_asg, s_expr', s_raise']
  refine is_name_ok G U.a hk ?_
  cases hn : nameB v with
  | false =>
    have : pactV B v = none := by cases v <;> first | rfl | (simp only [nameB] at hn; simp [pactV, hn])
    rw [this] at q
    exact ⟨rfl, q⟩
  | true =>
    obtain ⟨k, rfl⟩ : ∃ k, v = .str k := ⟨_, name_key hn⟩
    have hpv : pactV B (.str k) = pAt B.pacts k := if_pos hn
    rw [hpv] at q
    rw [t_bool, if_pos (by decide)]
    refine at_pacts hA ib rfl (in_pacts ib ?_)
    cases e : pAt B.pacts k with
    | none =>
      rw [e] at q
      exact ⟨rfl, q⟩
    | some x =>
      rw [e] at q
      refine nx _ _ ?_
      refine w_st fun K nx => ?_
      rw [w_ret, x_sub]
      refine at_pacts hA ib rfl ?_
      exact sub_pacts ib (j := x.1) (x := x.2) e q
end
end Mine

end
section
open PySem PySem.W PyProof.Rows PySem.Spec PySem.SeqAt PySem.Calls
namespace Mine
noncomputable def insD (x : Pc) : List (Str × AV) := x.inside.map fun k => (k, .bool true)
section
variable {o : Addr → Option Role} {H : AHeap}
set_option tactic.hygienic false in
theorem pairs_get : ∀ {ts : List Addr} {l : List (Str × Int)} {m : Nat} {t : Addr}, pairsAV o H ts l → ts[m]? = some t → ∃ e, l[m]? = some e ∧ o t = some .data ∧ H t = some (.tuple [.str e.1, .int e.2])
  | t :: _, e :: _, 0, _, h, z => by cases z; exact ⟨e, rfl, h.1, h.2.1⟩
  | _ :: ts, _ :: l, m + 1, _, h, z => pairs_get (m := m) h.2.2 z
  | [], [], _, _, _, z => by cases z
  | [], _ :: _, _, _, h, _ => h.elim
  | _ :: _, [], _, _, h, _ => h.elim
theorem pairs_len : ∀ {ts : List Addr} {l : List (Str × Int)}, pairsAV o H ts l → ts.length = l.length
  | [], [], _ => rfl
  | _ :: _, _ :: _, h => congrArg Nat.succ (pairs_len h.2.2)
  | [], _ :: _, h => h.elim
  | _ :: _, [], h => h.elim
set_option tactic.hygienic false in
theorem sub_tup {Q : AV → AHeap → Prop} {a : Addr} {xs : List AV} {i : Int} {v : AV} (h : H a = some (.tuple xs)) (h0 : 0 ≤ i) (hk : xs[i.toNat]? = some v) (hl : xs.length ≤ 100000) (q : Q v H) : wsub (.ref a) (.int i) Q H := by
  have hlt : i.toNat < xs.length := (List.getElem?_eq_some_iff.mp hk).1
  rw [sub_ri, h]
  exact ⟨i.toNat, v, by simp only [pyIdx, h0, if_true]; rw [if_pos (by omega)], by omega, by omega, hk, q⟩
theorem pair0 {Q : AV → AHeap → Prop} {t : Addr} {k : Str} {i : Int} (h : H t = some (.tuple [.str k, .int i])) (q : Q (.str k) H) : wsub (.ref t) (.int 0) Q H := sub_tup h (by decide) rfl (by simp) q
theorem pair1 {Q : AV → AHeap → Prop} {t : Addr} {k : Str} {i : Int} (h : H t = some (.tuple [.str k, .int i])) (q : Q (.int i) H) : wsub (.ref t) (.int 1) Q H := sub_tup h (by decide) rfl (by simp) q
end
section
variable {c : Cx} {P : Pg} (G : Gd c P) (U : HasP P) {n : Nat} {md : Bool} {Q : AV → AHeap → Prop} {E : String → AHeap → Prop} {H : AHeap} {o : Addr → Option Role} {b f s p a : Addr} {as : List Addr} {B : Bk} {j : Nat} {x : Pc}
section
variable {g : Gx} {V : VV} {i : Nat} (hP : g.c.P.attrs = BK.attrs) (ip : IsPact o H j a x) (hV : V[i]? = some (some (.ref a)))
include hP ip hV
set_option tactic.hygienic false in
theorem pa_state (q : Q (.str x.state.str) H) : wpX g (.attr (.var i) "state") V Q E H := by
  obtain ⟨pa, ga, ne, ins, ep, h, _⟩ := ip.at_
  simp only [x_attr, x_var, hV, h]; exact ⟨by rw [hP]; rfl, q⟩
set_option tactic.hygienic false in
theorem pa_name (q : Q (.str x.name) H) : wpX g (.attr (.var i) "name") V Q E H := by
  obtain ⟨pa, ga, ne, ins, ep, h, _⟩ := ip.at_
  simp only [x_attr, x_var, hV, h]; exact ⟨by rw [hP]; rfl, q⟩
set_option tactic.hygienic false in
theorem pa_parts (q : ∀ z, PairsAt o H z x.parts → Q (.ref z) H) : wpX g (.attr (.var i) "parts") V Q E H := by
  obtain ⟨pa, ga, ne, ins, ep, h, h1, _⟩ := ip.at_
  simp only [x_attr, x_var, hV, h]; exact ⟨by rw [hP]; rfl, q pa h1⟩
set_option tactic.hygienic false in
theorem pa_gains (q : ∀ z, PairsAt o H z x.gains → Q (.ref z) H) : wpX g (.attr (.var i) "gains") V Q E H := by
  obtain ⟨pa, ga, ne, ins, ep, h, h1, h2, _⟩ := ip.at_
  simp only [x_attr, x_var, hV, h]; exact ⟨by rw [hP]; rfl, q ga h2⟩
set_option tactic.hygienic false in
theorem pa_needs (q : ∀ z, o z = some .data → H z = some (.list (txs x.needs)) → Q (.ref z) H) : wpX g (.attr (.var i) "needs") V Q E H := by
  obtain ⟨pa, ga, ne, ins, ep, h, h1, h2, h3, h4, _⟩ := ip.at_
  simp only [x_attr, x_var, hV, h]; exact ⟨by rw [hP]; rfl, q ne h3 h4⟩
set_option tactic.hygienic false in
theorem pa_inside (q : ∀ z ep, o z = some (.inside j) → H z = some (.dict ep (insD x)) → (∀ ep' l, IsPact o (up H z (.dict ep' (l.map fun k => (k, .bool true)))) j a { x with inside := l }) → Q (.ref z) H) : wpX g (.attr (.var i) "inside") V Q E H := by
  obtain ⟨h0, pa, ga, ne, ins, ep, h, h1, h2, h3, h4, h5, h6⟩ := ip
  simp only [x_attr, x_var, hV, h]; refine ⟨by rw [hP]; rfl, q ins ep h5 h6 fun ep' l => ?_⟩
  have kb : ∀ y, KB (fun r => r = .data) o o H (up H ins y) := fun y => kb_up fun r hr z => by rw [h5] at hr; cases hr; cases z
  exact ⟨h0, pa, ga, ne, ins, ep', by rw [up_other (ne_role h0 h5 (by intro z; cases z))]; exact h, h1.congr (kb _) rfl, h2.congr (kb _) rfl, h3, by rw [up_other (ne_role h3 h5 (by intro z; cases z))]; exact h4, h5, up_same⟩
set_option tactic.hygienic false in
theorem pa_meth {m : String} {xs : List X} (hM : g.c.P.meths = BK.meths) (hm : BK.meths.contains ("Pact", m) = true) (hn : ["name", "parts", "gains", "needs", "last", "state", "inside"].contains m = false)
    (q : wpXs g xs V (fun vs H => CallOK g.c g.n g.md ("Pact." ++ m) (.ref a :: vs) Q E H) E H) : wpX g (.meth (.var i) m xs) V Q E H := by
  obtain ⟨pa, ga, ne, ins, ep, h, _⟩ := ip.at_
  simp only [x_meth, x_var, hV, h]
  refine ⟨by rw [hM]; exact hm, ?_, q⟩
  simp only [List.contains_cons, List.contains_nil, Bool.or_false, Bool.or_eq_false_iff, beq_eq_false_iff_ne] at hn
  obtain ⟨n1, n2, n3, n4, n5, n6, n7⟩ := hn
  simp [lookA, n1.symm, n2.symm, n3.symm, n4.symm, n5.symm, n6.symm, n7.symm]
end
include G U
set_option tactic.hygienic false in
theorem need_open_ok {v : AV} (ib : IsBook o H b f s p as B) (hk : Kn H v) (q : match pactV B v with | some (j, x) => (if x.state = .opn then ∀ a, as[j]? = some a → IsPact o H j a x → Q (.ref a) H else E "NotOpen" H) | none => E "NoPact" H) : CallOK c (n + 3) true "Book.need_open" [.ref b, v] Q E H := by
  refine G.call (F := BK.f_Book_need_open) U.need_open rfl ?_
  have hA : c.P.attrs = BK.attrs := by rw [G.hP, U.a.attrs]
  have hM : c.P.meths = BK.meths := by rw [G.hP, U.a.meths]
  show wpSs _ _ _ _ _ [some (.ref b), some v, none] _
  refine w_st fun K nx => ?_
  rw [w_asg]
  refine at_meth hM (by decide) (by decide) ib rfl ?_
  dsimp [v_0, x_lit, x_var, x_bin, x_neg, x_not, x_ao, x_cmp, x_cmp2, x_sub, x_glob, x_call, x_prim, x_bm, x_isi, x_list, x_tup, x_dict0, xs_nil, xs_cons, ao_one, ao_cons, xc_none, xc_some, tv, wtg, b_add, b_sub, b_mul, b_div, b_mod, b_pow, b_adds, c_lt, c_le, c_gt, c_ge, c_eq, c_ne, c_eqs, c_nes, c_in, c_nin, t_bool, t_int, t_none]
  refine need_pact_ok G U ib hk ?_
  cases e : pactV B v with
  | none => rw [e] at q; exact q
  | some z =>
    obtain ⟨j, x⟩ := z
    rw [e] at q
    intro a ha ip
    refine ⟨by decide, nx _ _ ?_⟩
    refine w_st fun K nx => ?_
    show wpS _ _ _ _ _ [some (.ref b), some v, some (.ref a)] _
    rw [w_ite, x_cmp]
    refine pa_state hA ip rfl ?_
    rw [x_lit, c_nes, t_bool]
    by_cases h : x.state = .opn
    · have q : ∀ a, as[j]? = some a → IsPact o H j a x → Q (.ref a) H := by simpa only [h, if_true] using q
      rw [if_neg (by rw [h]; decide)]
      exact nx _ _ (q a ha ip)
    · have q : E "NotOpen" H := by simpa only [h, if_false] using q
      rw [if_pos (by revert h; cases x.state <;> decide)]
      exact ⟨rfl, q⟩
set_option tactic.hygienic false in
omit U in
theorem part_of_ok {k : Str} (hU : P.fns.lookup "Pact.part_of" = some BK.f_Pact_part_of) (hA : c.P.attrs = BK.attrs) (ip : IsPact o H j a x) (q : Q (match lk x.parts k with | some i => .int i | none => .none) H) : CallOK c (n + 1) true "Pact.part_of" [.ref a, .str k] Q E H := by
  refine G.call (F := BK.f_Pact_part_of) hU rfl ?_
  show wpSs _ _ _ _ _ [some (.ref a), some (.str k), none] _
  refine w_st fun K nx => ?_
  rw [s_for']
  refine ⟨rfl, ?_⟩
  refine pa_parts hA ip rfl fun z ⟨hz, ts, hts, hl⟩ => ?_
  refine wforI (xs := ts.map .ref) (by simp only [itemsOf, hts]) (fun m V' H' => H' = H ∧ (∃ pr, V' = [some (.ref a), some (.str k), pr]) ∧ lk (x.parts.take m) k = none) ⟨rfl, ⟨_, rfl⟩, rfl⟩ ?_
  rintro I hI m V' H' ⟨rfl, ⟨pr, rfl⟩, hm⟩
  refine ⟨rfl, fun hlen => ?_, fun y hy => ?_⟩
  · rw [hlen, List.length_map, pairs_len hl, List.take_length] at hm
    rw [hm] at q
    exact nx _ _ q
  · rw [List.getElem?_map, Option.map_eq_some_iff] at hy
    obtain ⟨t, ht, rfl⟩ := hy
    obtain ⟨e, he, _, htt⟩ := pairs_get hl ht
    refine ⟨show 2 < 3 by decide, ?_⟩
    refine w_st fun K nx => ?_
    show wpS _ _ _ _ _ [some (.ref a), some (.str k), some (.ref t)] _
    dsimp [v_0, x_lit, x_var, x_bin, x_neg, x_not, x_ao, x_cmp, x_cmp2, x_sub, x_glob, x_call, x_prim, x_bm, x_isi, x_list, x_tup, x_dict0, xs_nil, xs_cons, ao_one, ao_cons, xc_none, xc_some, tv, wtg, b_add, b_sub, b_mul, b_div, b_mod, b_pow, b_adds, c_lt, c_le, c_gt, c_ge, c_eq, c_ne, c_eqs, c_nes, c_in, c_nin, t_bool, t_int, t_none, w_cons, w_nil, w_ite, w_ret, w_asg, s_expr', s_raise']
    refine pair0 htt ?_
    rw [c_eqs, t_bool]
    have hsplit : x.parts.take (m + 1) = x.parts.take m ++ [e] := by rw [List.take_add_one, he]; rfl
    by_cases h : e.1 = k
    · rw [if_pos (by rw [h]; exact beq_self_eq_true k)]
      refine pair1 htt ?_
      have : lk x.parts k = some e.2 := by
        have hlk : lk (x.parts.take (m + 1)) k = some e.2 := by
          rw [hsplit]; unfold lk at hm ⊢
          rw [List.find?_append, Option.map_eq_none_iff.mp hm]; simp [h]
        unfold lk at hlk ⊢
        obtain ⟨w, hw, hw2⟩ := Option.map_eq_some_iff.mp hlk
        rw [← List.take_append_drop (m + 1) x.parts, List.find?_append, hw]; exact congrArg some hw2
      rw [this] at q
      exact q
    · rw [if_neg (by simpa using h)]
      refine nx _ _ (hI _ _ _ ⟨rfl, ⟨_, rfl⟩, ?_⟩)
      rw [hsplit]; unfold lk at hm ⊢
      rw [List.find?_append, Option.map_eq_none_iff.mp hm]; simp [h]
end
end Mine

end
section
open PySem PySem.W PyProof.Rows PySem.Spec PySem.SeqAt PySem.Calls
namespace Mine
noncomputable def giveB (B : Bk) (k : Str) (i : Int) : Bk := { B with aside := pt B.aside k ((lk B.aside k).getD 0 - i), free := pt B.free k ((lk B.free k).getD 0 + i) }
noncomputable def asideQ (B : Bk) (v w : AV) : Except String Bk :=
  if purseB B v then
    match pactV B w with
    | none => .error "NoPact"
    | some (j, x) => if x.state = .opn then
        match lk x.parts (keyOf v) with
        | none => .error "NoPart"
        | some i => if keyOf v ∈ x.inside then .error "Already" else if freeOf B v < i then .error "TooLittle" else
            .ok { B with pacts := B.pacts.set j { x with inside := x.inside ++ [keyOf v] }, free := pt B.free (keyOf v) (freeOf B v - i), aside := pt B.aside (keyOf v) (asideOf B v + i) }
      else .error "NotOpen"
  else .error "NoPurse"
noncomputable def drawQ (B : Bk) (v w : AV) : Except String Bk :=
  if purseB B v then
    match pactV B w with
    | none => .error "NoPact"
    | some (j, x) => if x.state = .opn then
        if keyOf v ∈ x.inside then .ok (giveB { B with pacts := B.pacts.set j { x with inside := x.inside.filter (· ≠ keyOf v) } } (keyOf v) ((lk x.parts (keyOf v)).getD 0)) else .error "NotAside"
      else .error "NotOpen"
  else .error "NoPurse"
structure BkOK (B : Bk) : Prop where
  sz : B.Sz
  both : ∀ k, hs B.free k = true → hs B.aside k = true
  len : B.pacts.length ≤ 100
  part : ∀ (j : Nat) (x : Pc), B.pacts[j]? = some x → ∀ k ∈ x.inside, (lk x.parts k).isSome = true
  inl : ∀ (j : Nat) (x : Pc), B.pacts[j]? = some x → x.inside.length ≤ 100 ∧ x.parts.length ≤ 100 ∧ x.gains.length ≤ 100 ∧ x.needs.length ≤ 100
  purse : ∀ (j : Nat) (x : Pc), B.pacts[j]? = some x → ∀ e : Str × Int, e ∈ x.parts ∨ e ∈ x.gains → hs B.free e.1 = true
set_option tactic.hygienic false in
theorem pactV_get {B : Bk} {w : AV} {j : Nat} {x : Pc} (h : pactV B w = some (j, x)) : B.pacts[j]? = some x := by
  unfold pactV at h
  split at h
  · split at h
    · exact (pAt_get h).1
    · cases h
  · cases h
set_option tactic.hygienic false in
theorem look_ins {l : List Str} {k : Str} : (lookS (l.map fun k => (k, AV.bool true)) k).isSome = decide (k ∈ l) := by
  unfold lookS
  induction l with
  | nil => rfl
  | cons y r ih =>
    rw [List.map_cons, List.find?_cons]
    by_cases e : y = k
    · rw [show decide ((y, AV.bool true).1 = k) = true from decide_eq_true e]; simp [e]
    · rw [show decide ((y, AV.bool true).1 = k) = false from decide_eq_false e]
      refine ih.trans ?_
      simp [show k ≠ y from fun z => e z.symm]
set_option tactic.hygienic false in
theorem look_insV {l : List Str} {k : Str} (h : k ∈ l) : lookS (l.map fun k => (k, AV.bool true)) k = some (.bool true) := by
  unfold lookS
  induction l with
  | nil => cases h
  | cons y r ih =>
    rw [List.map_cons, List.find?_cons]
    by_cases e : y = k
    · rw [show decide ((y, AV.bool true).1 = k) = true from decide_eq_true e]; rfl
    · rw [show decide ((y, AV.bool true).1 = k) = false from decide_eq_false e]
      exact ih ((List.mem_cons.mp h).resolve_left fun z => e z.symm)
set_option tactic.hygienic false in
theorem put_ins {l : List Str} {k : Str} (h : k ∉ l) : putS (l.map fun k => (k, AV.bool true)) k (.bool true) = (l ++ [k]).map fun k => (k, AV.bool true) := by
  unfold putS
  rw [look_ins, decide_eq_false h]
  simp
set_option tactic.hygienic false in
theorem pop_ins {l : List Str} {k : Str} : ((l.map fun k => (k, AV.bool true)).filter fun e => decide (e.1 ≠ k)) = (l.filter (· ≠ k)).map fun k => (k, AV.bool true) := by
  rw [List.filter_map]; rfl
section
variable {c : Cx} {P : Pg} (G : Gd c P) (U : HasP P) {n : Nat} {md : Bool} {Q : AV → AHeap → Prop} {E : String → AHeap → Prop} {H : AHeap} {o : Addr → Option Role} {b f s p a : Addr} {as : List Addr} {B : Bk} {j : Nat} {x : Pc}
section
variable {g : Gx} {V : VV} {QN : VV → AHeap → Prop} {i m : Nat} {k : Str} (hP : g.c.P.attrs = BK.attrs) (ib : IsBook o H b f s p as B) (hj : B.pacts[j]? = some x) (ha : as[j]? = some a) (ip : IsPact o H j a x) (hV : V[i]? = some (some (.ref a)))
include hP ib hj ha ip hV
set_option tactic.hygienic false in
theorem st_inside (hm : V[m]? = some (some (.str k))) (hk : k ∉ x.inside) (hl : x.inside.length ≤ 100) (q : ∀ H', IsBook o H' b f s p as { B with pacts := B.pacts.set j { x with inside := x.inside ++ [k] } } → Fr1 o H o H' → QN V H') : wpT g (.sub (.attr (.var i) "inside") (.var m)) (.bool true) V QN E H := by
  rw [tsub]
  refine pa_inside hP ip hV fun z ep hz hd up' => ?_
  simp only [x_var, hm, hd]
  refine ⟨by rw [insD, List.length_map]; exact Nat.le_trans hl (by decide), fun ep' => ?_⟩
  rw [insD, put_ins hk]
  refine q _ (ib.setPact hj ha (kb_up fun r hr => by rw [hz] at hr; cases hr; exact fun w => w.2 rfl) (up' ep' _) rfl) (up_fr (by rw [hz]; simp))
set_option tactic.hygienic false in
theorem in_ins {no : Bool} {e : X} (he : ∀ Q', Q' (.str k) H → wpX g e V Q' E H) (q : Q (.bool (decide (k ∈ x.inside) != no)) H) : wpX g (.cmp (if no then .NotIn else .In) e (.attr (.var i) "inside")) V Q E H := by
  rw [x_cmp]
  refine he _ (pa_inside hP ip hV fun z ep hz hd up' => ?_)
  have : win no (.str k) (.ref z) Q H := by
    rw [in_ref, hd]
    show Q (.bool (nt no (lookS (insD x) k).isSome)) H
    rw [insD, look_ins, ← nt_eq]; exact q
  cases no <;> exact this
end
include G U
set_option tactic.hygienic false in
omit U in
theorem given_back_ok {k : Str} {i : Int} (hU : P.fns.lookup "Book.given_back" = some BK.f_Book_given_back) (hA : c.P.attrs = BK.attrs) (ib : IsBook o H b f s p as B) (hz : B.Sz) (hf : hs B.free k = true) (hs' : hs B.aside k = true) (q : ∀ H', IsBook o H' b f s p as (giveB B k i) → Fr1 o H o H' → Q .none H') : CallOK c (n + 1) true "Book.given_back" [.ref b, .str k, .int i] Q E H := by
  refine G.call (F := BK.f_Book_given_back) hU rfl ?_
  show wpSs _ _ _ _ _ [some (.ref b), some (.str k), some (.int i)] _
  refine w_st fun K nx => ?_
  rw [w_asg, x_bin, x_sub]
  refine at_aside hA ib rfl (sub_aside ib (lk_get hs') ?_)
  dsimp [v_0, x_lit, x_var, x_bin, x_neg, x_not, x_ao, x_cmp, x_cmp2, x_sub, x_glob, x_call, x_prim, x_bm, x_isi, x_list, x_tup, x_dict0, xs_nil, xs_cons, ao_one, ao_cons, xc_none, xc_some, tv, wtg, b_add, b_sub, b_mul, b_div, b_mod, b_pow, b_adds, c_lt, c_le, c_gt, c_ge, c_eq, c_ne, c_eqs, c_nes, c_in, c_nin, t_bool, t_int, t_none]
  refine st_aside (k := k) hA ib hz.2 rfl rfl fun H1 ib1 f1 => nx _ _ ?_
  refine w_st fun K nx => ?_
  rw [w_asg, x_bin, x_sub]
  refine at_free hA ib1 rfl (sub_free (v := (lk B.free k).getD 0) ib1 (lk_get hf) ?_)
  dsimp [v_0, x_lit, x_var, x_bin, x_neg, x_not, x_ao, x_cmp, x_cmp2, x_sub, x_glob, x_call, x_prim, x_bm, x_isi, x_list, x_tup, x_dict0, xs_nil, xs_cons, ao_one, ao_cons, xc_none, xc_some, tv, wtg, b_add, b_sub, b_mul, b_div, b_mod, b_pow, b_adds, c_lt, c_le, c_gt, c_ge, c_eq, c_ne, c_eqs, c_nes, c_in, c_nin, t_bool, t_int, t_none]
  refine st_free (k := k) hA ib1 hz.1 rfl rfl fun H2 ib2 f2 => nx _ _ ?_
  exact q H2 ib2 (f1.trans f2)
set_option tactic.hygienic false in
theorem aside_raw {v w : AV} (hU : P.fns.lookup "Book.set_aside" = some BK.f_Book_set_aside) (hU2 : P.fns.lookup "Pact.part_of" = some BK.f_Pact_part_of) (ib : IsBook o H b f s p as B) (hk : Kn H v) (hw : Kn H w) (ok : BkOK B)
    (q : Ends (asideQ B v w) (fun B' => ∀ H', IsBook o H' b f s p as B' → Fr1 o H o H' → Q .none H') (fun cl => E cl H)) : CallOK c (n + 4) true "Book.set_aside" [.ref b, v, w] Q E H := by
  refine G.call (F := BK.f_Book_set_aside) hU rfl ?_
  have hA : c.P.attrs = BK.attrs := by rw [G.hP, U.a.attrs]
  have hM : c.P.meths = BK.meths := by rw [G.hP, U.a.meths]
  show wpSs _ _ _ _ _ [some (.ref b), some v, some w, none, none] _
  unfold asideQ at q
  refine w_st fun K nx => ?_
  rw [s_expr']
  refine at_meth hM (by decide) (by decide) ib rfl ?_
  dsimp [v_0, x_lit, x_var, x_bin, x_neg, x_not, x_ao, x_cmp, x_cmp2, x_sub, x_glob, x_call, x_prim, x_bm, x_isi, x_list, x_tup, x_dict0, xs_nil, xs_cons, ao_one, ao_cons, xc_none, xc_some, tv, wtg, b_add, b_sub, b_mul, b_div, b_mod, b_pow, b_adds, c_lt, c_le, c_gt, c_ge, c_eq, c_ne, c_eqs, c_nes, c_in, c_nin, t_bool, t_int, t_none]
  refine need_purse_ok G U.a ib hk ?_
  cases hp : purseB B v with
  | false => rw [hp] at q; exact q
  | true =>
  obtain ⟨k, rfl⟩ : ∃ k, v = .str k := ⟨_, (purse_name hp).1⟩
  have hf := purse_free hp
  have hs' := lk_get (ok.both _ (purse_name hp).2)
  rw [hp] at q
  refine nx _ _ ?_
  refine w_st fun K nx => ?_
  rw [w_asg]
  refine at_meth hM (by decide) (by decide) ib rfl ?_
  dsimp [v_0, x_lit, x_var, x_bin, x_neg, x_not, x_ao, x_cmp, x_cmp2, x_sub, x_glob, x_call, x_prim, x_bm, x_isi, x_list, x_tup, x_dict0, xs_nil, xs_cons, ao_one, ao_cons, xc_none, xc_some, tv, wtg, b_add, b_sub, b_mul, b_div, b_mod, b_pow, b_adds, c_lt, c_le, c_gt, c_ge, c_eq, c_ne, c_eqs, c_nes, c_in, c_nin, t_bool, t_int, t_none]
  refine need_open_ok G U ib hw ?_
  cases e : pactV B w with
  | none => rw [e] at q; exact q
  | some z =>
  obtain ⟨j, x⟩ := z
  rw [e] at q
  have hj := pactV_get e
  show if x.state = .opn then _ else _
  by_cases ho : x.state = .opn
  case neg =>
    rw [if_neg ho]
    rw [if_pos rfl] at q
    dsimp only at q
    rw [if_neg ho] at q
    exact q
  rw [if_pos ho]
  rw [if_pos rfl] at q
  dsimp only at q
  rw [if_pos ho] at q
  intro a ha ip
  refine ⟨by decide, nx _ _ ?_⟩
  refine w_st fun K nx => ?_
  show wpS _ _ _ _ _ [some (.ref b), some (.str k), some w, some (.ref a), none] _
  rw [w_asg]
  refine pa_meth hA ip rfl hM (by decide) (by decide) ?_
  dsimp [v_0, x_lit, x_var, x_bin, x_neg, x_not, x_ao, x_cmp, x_cmp2, x_sub, x_glob, x_call, x_prim, x_bm, x_isi, x_list, x_tup, x_dict0, xs_nil, xs_cons, ao_one, ao_cons, xc_none, xc_some, tv, wtg, b_add, b_sub, b_mul, b_div, b_mod, b_pow, b_adds, c_lt, c_le, c_gt, c_ge, c_eq, c_ne, c_eqs, c_nes, c_in, c_nin, t_bool, t_int, t_none]
  refine part_of_ok G hU2 hA ip ?_
  refine ⟨by decide, nx _ _ ?_⟩
  refine w_st fun K nx => ?_
  cases hl : lk x.parts k with
  | none =>
    have q : E "NoPart" H := by rw [show keyOf (.str k) = k from rfl, hl] at q; exact q
    exact ⟨rfl, q⟩
  | some i =>
  rw [show keyOf (.str k) = k from rfl, hl] at q
  refine nx _ _ ?_
  refine w_st fun K nx => ?_
  show wpS _ _ _ _ _ [some (.ref b), some (.str k), some w, some (.ref a), some (.int i)] _
  rw [w_ite]
  refine in_ins (no := false) (k := k) hA ib hj ha ip rfl (fun Q' h => h) ?_
  by_cases hi : k ∈ x.inside
  · rw [decide_eq_true hi]
    have q : E "Already" H := by simpa only [hi, if_true, Ends] using q
    exact ⟨rfl, q⟩
  rw [decide_eq_false hi]
  have q : Ends (if freeOf B (.str k) < i then .error "TooLittle" else .ok { B with pacts := B.pacts.set j { x with inside := x.inside ++ [k] }, free := pt B.free k (freeOf B (.str k) - i), aside := pt B.aside k (asideOf B (.str k) + i) }) (fun B' => ∀ H', IsBook o H' b f s p as B' → Fr1 o H o H' → Q .none H') (fun cl => E cl H) := by simpa only [hi, if_false] using q
  refine nx _ _ ?_
  refine w_st fun K nx => ?_
  rw [w_ite, x_cmp, x_sub]
  refine at_free hA ib rfl (sub_free ib hf ?_)
  dsimp [v_0, x_lit, x_var, x_bin, x_neg, x_not, x_ao, x_cmp, x_cmp2, x_sub, x_glob, x_call, x_prim, x_bm, x_isi, x_list, x_tup, x_dict0, xs_nil, xs_cons, ao_one, ao_cons, xc_none, xc_some, tv, wtg, b_add, b_sub, b_mul, b_div, b_mod, b_pow, b_adds, c_lt, c_le, c_gt, c_ge, c_eq, c_ne, c_eqs, c_nes, c_in, c_nin, t_bool, t_int, t_none]
  by_cases hlt : freeOf B (.str k) < i
  · rw [decide_eq_true hlt]
    have q : E "TooLittle" H := by simpa only [hlt, if_true, Ends] using q
    exact ⟨rfl, q⟩
  rw [decide_eq_false hlt]
  have q : ∀ H', IsBook o H' b f s p as { B with pacts := B.pacts.set j { x with inside := x.inside ++ [k] }, free := pt B.free k (freeOf B (.str k) - i), aside := pt B.aside k (asideOf B (.str k) + i) } → Fr1 o H o H' → Q .none H' := by simpa only [hlt, if_false, Ends] using q
  refine nx _ _ ?_
  refine w_st fun K nx => ?_
  rw [w_asg, x_lit]
  refine st_inside (k := k) hA ib hj ha ip rfl rfl hi (ok.inl j x hj).1 fun H1 ib1 f1 => nx _ _ ?_
  refine w_st fun K nx => ?_
  rw [w_asg, x_bin, x_sub]
  refine at_free hA ib1 rfl (sub_free (v := freeOf B (.str k)) ib1 hf ?_)
  dsimp [v_0, x_lit, x_var, x_bin, x_neg, x_not, x_ao, x_cmp, x_cmp2, x_sub, x_glob, x_call, x_prim, x_bm, x_isi, x_list, x_tup, x_dict0, xs_nil, xs_cons, ao_one, ao_cons, xc_none, xc_some, tv, wtg, b_add, b_sub, b_mul, b_div, b_mod, b_pow, b_adds, c_lt, c_le, c_gt, c_ge, c_eq, c_ne, c_eqs, c_nes, c_in, c_nin, t_bool, t_int, t_none]
  refine st_free (k := k) hA ib1 ok.sz.1 rfl rfl fun H2 ib2 f2 => nx _ _ ?_
  refine w_st fun K nx => ?_
  rw [w_asg, x_bin, x_sub]
  refine at_aside hA ib2 rfl (sub_aside (v := asideOf B (.str k)) ib2 hs' ?_)
  dsimp [v_0, x_lit, x_var, x_bin, x_neg, x_not, x_ao, x_cmp, x_cmp2, x_sub, x_glob, x_call, x_prim, x_bm, x_isi, x_list, x_tup, x_dict0, xs_nil, xs_cons, ao_one, ao_cons, xc_none, xc_some, tv, wtg, b_add, b_sub, b_mul, b_div, b_mod, b_pow, b_adds, c_lt, c_le, c_gt, c_ge, c_eq, c_ne, c_eqs, c_nes, c_in, c_nin, t_bool, t_int, t_none]
  refine st_aside (k := k) hA ib2 ok.sz.2 rfl rfl fun H3 ib3 f3 => nx _ _ ?_
  exact q H3 ib3 ((f1.trans f2).trans f3)
end
end Mine

end
section
open PySem PySem.W PyProof.Rows PySem.Spec PySem.SeqAt PySem.Calls
namespace Mine
noncomputable def fullB (x : Pc) : Bool := x.state == .opn && x.inside.length == x.parts.length
set_option tactic.hygienic false in
theorem sta_opn {x : Sta} : (x.str == Str.ofString "open") = (x == .opn) := by cases x <;> decide
set_option tactic.hygienic false in
theorem sta_dn {x : Sta} : (x.str == Str.ofString "done") = (x == .dn) := by cases x <;> decide
set_option tactic.hygienic false in
theorem sta_fln {x : Sta} : (x.str == Str.ofString "fallen") = (x == .fln) := by cases x <;> decide
section
variable {c : Cx} {P : Pg} (G : Gd c P) (U : HasP P) {n : Nat} {md : Bool} {Q : AV → AHeap → Prop} {E : String → AHeap → Prop} {H : AHeap} {o : Addr → Option Role} {b f s p a : Addr} {as : List Addr} {B : Bk} {j : Nat} {x : Pc}
section
variable {g : Gx} {V : VV} {QN : VV → AHeap → Prop} {i m : Nat} {k : Str} (hP : g.c.P.attrs = BK.attrs) (ib : IsBook o H b f s p as B) (hj : B.pacts[j]? = some x) (ha : as[j]? = some a) (ip : IsPact o H j a x) (hV : V[i]? = some (some (.ref a)))
include hP ib hj ha ip hV
set_option tactic.hygienic false in
theorem pop_inside {e : X} (he : ∀ Q', Q' (.str k) H → wpX g e V Q' E H) (hk : k ∈ x.inside) (hl : x.inside.length ≤ 100) (q : ∀ H', IsBook o H' b f s p as { B with pacts := B.pacts.set j { x with inside := x.inside.filter (· ≠ k) } } → IsPact o H' j a { x with inside := x.inside.filter (· ≠ k) } → Fr1 o H o H' → Q (.bool true) H') : wpX g (.bm (.attr (.var i) "inside") .pop [e]) V Q E H := by
  rw [x_bm]
  refine pa_inside hP ip hV fun z ep hz hd up' => ?_
  refine ⟨?_, ?_⟩
  · show match H z with | some (.list _) => _ | some (.dict _ _) => _ | _ => False
    rw [hd]; exact .inr rfl
  rw [xs_cons]
  refine he _ ?_
  rw [xs_nil, m_pop, hd]
  refine ⟨by rw [insD, List.length_map]; exact Nat.le_trans hl (by decide), .bool true, look_insV hk, fun ep' => ?_⟩
  rw [insD, pop_ins]
  exact q _ (ib.setPact hj ha (kb_up fun r hr => by rw [hz] at hr; cases hr; exact fun w => w.2 rfl) (up' ep' _) rfl) (up' ep' _) (up_fr (by rw [hz]; simp))
end
include G U
set_option tactic.hygienic false in
omit U in
theorem is_full_ok (hU : P.fns.lookup "Pact.is_full" = some BK.f_Pact_is_full) (hA : c.P.attrs = BK.attrs) (ip : IsPact o H j a x) (h1 : x.inside.length ≤ 100) (h2 : x.parts.length ≤ 100) (q : Q (.bool (fullB x)) H) : CallOK c (n + 1) md "Pact.is_full" [.ref a] Q E H := by
  refine G.call (F := BK.f_Pact_is_full) hU rfl ?_
  show wpSs _ _ _ _ _ [some (.ref a)] _
  refine w_st fun K nx => ?_
  rw [w_ret, x_ao, ao_cons, x_cmp]
  refine pa_state hA ip rfl ?_
  rw [x_lit, c_eqs, t_bool, sta_opn]
  unfold fullB at q
  cases hs : x.state == Sta.opn with
  | false => rw [hs] at q; exact q
  | true =>
    rw [hs] at q
    rw [if_pos rfl, ao_one, x_cmp, x_prim, xs_cons]
    refine pa_inside hA ip rfl fun z ep hz hd _ => ?_
    rw [xs_nil, p_lenr, hd]
    refine ⟨by rw [insD, List.length_map]; omega, ?_⟩
    rw [x_prim, xs_cons]
    refine pa_parts hA ip rfl fun z' ⟨_, ts, hts, hl⟩ => ?_
    rw [xs_nil, p_lenr, hts]
    have e1 := pairs_len hl
    refine ⟨by rw [List.length_map]; omega, ?_⟩
    rw [c_eq, insD, List.length_map, List.length_map, e1]
    have : (((x.inside.length : Nat) : Int) == ((x.parts.length : Nat) : Int)) = (x.inside.length == x.parts.length) := by
      by_cases h : x.inside.length = x.parts.length
      · rw [h]; simp
      · rw [beq_eq_false_iff_ne.mpr h]; exact beq_eq_false_iff_ne.mpr fun z => h (Int.ofNat.inj z)
    rw [this]; exact q
set_option tactic.hygienic false in
theorem draw_raw {v w : AV} (hU : P.fns.lookup "Book.draw_back" = some BK.f_Book_draw_back) (hU2 : P.fns.lookup "Pact.part_of" = some BK.f_Pact_part_of) (hU3 : P.fns.lookup "Book.given_back" = some BK.f_Book_given_back) (ib : IsBook o H b f s p as B) (hk : Kn H v) (hw : Kn H w) (ok : BkOK B)
    (q : Ends (drawQ B v w) (fun B' => ∀ H', IsBook o H' b f s p as B' → Fr1 o H o H' → Q .none H') (fun cl => E cl H)) : CallOK c (n + 4) true "Book.draw_back" [.ref b, v, w] Q E H := by
  refine G.call (F := BK.f_Book_draw_back) hU rfl ?_
  have hA : c.P.attrs = BK.attrs := by rw [G.hP, U.a.attrs]
  have hM : c.P.meths = BK.meths := by rw [G.hP, U.a.meths]
  show wpSs _ _ _ _ _ [some (.ref b), some v, some w, none] _
  unfold drawQ at q
  refine w_st fun K nx => ?_
  rw [s_expr']
  refine at_meth hM (by decide) (by decide) ib rfl ?_
  dsimp [v_0, x_lit, x_var, x_bin, x_neg, x_not, x_ao, x_cmp, x_cmp2, x_sub, x_glob, x_call, x_prim, x_bm, x_isi, x_list, x_tup, x_dict0, xs_nil, xs_cons, ao_one, ao_cons, xc_none, xc_some, tv, wtg, b_add, b_sub, b_mul, b_div, b_mod, b_pow, b_adds, c_lt, c_le, c_gt, c_ge, c_eq, c_ne, c_eqs, c_nes, c_in, c_nin, t_bool, t_int, t_none]
  refine need_purse_ok G U.a ib hk ?_
  cases hp : purseB B v with
  | false => rw [hp] at q; exact q
  | true =>
  obtain ⟨k, rfl⟩ : ∃ k, v = .str k := ⟨_, (purse_name hp).1⟩
  have hf := (purse_name hp).2
  have hs' := ok.both _ hf
  rw [hp] at q
  refine nx _ _ ?_
  refine w_st fun K nx => ?_
  rw [w_asg]
  refine at_meth hM (by decide) (by decide) ib rfl ?_
  dsimp [v_0, x_lit, x_var, x_bin, x_neg, x_not, x_ao, x_cmp, x_cmp2, x_sub, x_glob, x_call, x_prim, x_bm, x_isi, x_list, x_tup, x_dict0, xs_nil, xs_cons, ao_one, ao_cons, xc_none, xc_some, tv, wtg, b_add, b_sub, b_mul, b_div, b_mod, b_pow, b_adds, c_lt, c_le, c_gt, c_ge, c_eq, c_ne, c_eqs, c_nes, c_in, c_nin, t_bool, t_int, t_none]
  refine need_open_ok G U ib hw ?_
  cases e : pactV B w with
  | none => rw [e] at q; exact q
  | some z =>
  obtain ⟨j, x⟩ := z
  rw [e] at q
  have hj := pactV_get e
  show if x.state = .opn then _ else _
  by_cases ho : x.state = .opn
  case neg =>
    rw [if_neg ho]
    rw [if_pos rfl] at q
    dsimp only at q
    rw [if_neg ho] at q
    exact q
  rw [if_pos ho]
  rw [if_pos rfl] at q
  dsimp only at q
  rw [if_pos ho] at q
  intro a ha ip
  refine ⟨by decide, nx _ _ ?_⟩
  refine w_st fun K nx => ?_
  show wpS _ _ _ _ _ [some (.ref b), some (.str k), some w, some (.ref a)] _
  rw [w_ite]
  refine in_ins (no := true) (k := k) hA ib hj ha ip rfl (fun Q' h => h) ?_
  by_cases hi : k ∈ x.inside
  case neg =>
    rw [decide_eq_false hi]
    rw [if_neg (show keyOf (.str k) ∉ x.inside from hi)] at q
    exact ⟨rfl, q⟩
  rw [decide_eq_true hi]
  rw [if_pos (show keyOf (.str k) ∈ x.inside from hi)] at q
  have q : ∀ H', IsBook o H' b f s p as (giveB { B with pacts := B.pacts.set j { x with inside := x.inside.filter (· ≠ k) } } k ((lk x.parts k).getD 0)) → Fr1 o H o H' → Q .none H' := q
  refine nx _ _ ?_
  refine w_st fun K nx => ?_
  rw [s_expr']
  refine pop_inside (k := k) hA ib hj ha ip rfl (fun Q' h => h) hi (ok.inl j x hj).1 fun H1 ib1 ip1 f1 => nx _ _ ?_
  refine w_st fun K nx => ?_
  rw [s_expr']
  refine at_meth hM (by decide) (by decide) ib1 rfl ?_
  rw [xs_cons, x_var]
  show wpXs _ [.meth (.var 3) "part_of" [.var 1]] _ _ _ _
  rw [xs_cons]
  refine pa_meth hA ip1 rfl hM (by decide) (by decide) ?_
  dsimp [v_0, x_lit, x_var, x_bin, x_neg, x_not, x_ao, x_cmp, x_cmp2, x_sub, x_glob, x_call, x_prim, x_bm, x_isi, x_list, x_tup, x_dict0, xs_nil, xs_cons, ao_one, ao_cons, xc_none, xc_some, tv, wtg, b_add, b_sub, b_mul, b_div, b_mod, b_pow, b_adds, c_lt, c_le, c_gt, c_ge, c_eq, c_ne, c_eqs, c_nes, c_in, c_nin, t_bool, t_int, t_none]
  refine part_of_ok G hU2 hA ip1 ?_
  obtain ⟨i, hl⟩ := Option.isSome_iff_exists.mp (ok.part j x hj k hi)
  rw [hl] at q
  show CallOK _ _ _ _ [.ref b, .str k, match lk x.parts k with | some i => .int i | none => .none] _ _ _
  rw [hl]
  exact given_back_ok G hU3 hA ib1 ok.sz hf hs' fun H2 ib2 f2 => nx _ _ (q H2 ib2 (f1.trans f2))
set_option tactic.hygienic false in
theorem state_of_raw {v : AV} (hU : P.fns.lookup "Book.state_of" = some BK.f_Book_state_of) (ib : IsBook o H b f s p as B) (hk : Kn H v) (q : match pactV B v with | some (j, x) => Q (.str x.state.str) H | none => E "NoPact" H) : CallOK c (n + 3) true "Book.state_of" [.ref b, v] Q E H := by
  refine G.call (F := BK.f_Book_state_of) hU rfl ?_
  have hA : c.P.attrs = BK.attrs := by rw [G.hP, U.a.attrs]
  have hM : c.P.meths = BK.meths := by rw [G.hP, U.a.meths]
  show wpSs _ _ _ _ _ [some (.ref b), some v] _
  refine w_st fun K nx => ?_
  rw [w_ret, x_attr]
  refine at_meth hM (by decide) (by decide) ib rfl ?_
  dsimp [v_0, x_lit, x_var, x_bin, x_neg, x_not, x_ao, x_cmp, x_cmp2, x_sub, x_glob, x_call, x_prim, x_bm, x_isi, x_list, x_tup, x_dict0, xs_nil, xs_cons, ao_one, ao_cons, xc_none, xc_some, tv, wtg, b_add, b_sub, b_mul, b_div, b_mod, b_pow, b_adds, c_lt, c_le, c_gt, c_ge, c_eq, c_ne, c_eqs, c_nes, c_in, c_nin, t_bool, t_int, t_none]
  refine need_pact_ok G U ib hk ?_
  cases e : pactV B v with
  | none => rw [e] at q; exact q
  | some z =>
    obtain ⟨j, x⟩ := z
    rw [e] at q
    intro a ha ip
    obtain ⟨pa, ga, ne, ins, ep, h, _⟩ := ip.at_
    show match H a with | some (.inst _ _) => _ | some (.book _) => _ | _ => False
    rw [h]; exact ⟨by rw [hA]; rfl, q⟩
end
end Mine

end
section
open PySem PySem.W PyProof.Rows PySem.Spec PySem.SeqAt PySem.Calls
namespace Mine
noncomputable def giveAll (ins : List Str) : List (Str × Int) → Bk → Bk
  | [], B => B
  | e :: l, B => giveAll ins l (if e.1 ∈ ins then giveB B e.1 e.2 else B)
noncomputable def fellB (B : Bk) (j : Nat) (x : Pc) : Bk := { giveAll x.inside x.parts B with pacts := B.pacts.set j { x with inside := [], state := .fln } }
theorem giveAll_snoc {ins : List Str} {e : Str × Int} : ∀ {l : List (Str × Int)} {B : Bk}, giveAll ins (l ++ [e]) B = (if e.1 ∈ ins then giveB (giveAll ins l B) e.1 e.2 else giveAll ins l B)
  | [], B => rfl
  | e' :: l, B => giveAll_snoc (l := l)
set_option tactic.hygienic false in
theorem pt_same {l : List (Str × Int)} {k : Str} {x : Int} (h : hs l k = true) : (pt l k x).length = l.length ∧ ∀ s, hs (pt l k x) s = hs l s := by
  refine ⟨?_, fun s => ?_⟩
  · unfold pt; rw [if_pos (show (lk l k).isSome = true from h), List.length_map]
  · rw [hs_pt]
    by_cases e : s = k
    · rw [e, h]; simp
    · simp [e]
structure SameB (B B' : Bk) : Prop where
  day : B'.day = B.day
  fl : B'.free.length = B.free.length
  al : B'.aside.length = B.aside.length
  fh : ∀ s, hs B'.free s = hs B.free s
  ah : ∀ s, hs B'.aside s = hs B.aside s
theorem SameB.refl {B : Bk} : SameB B B := ⟨rfl, rfl, rfl, fun _ => rfl, fun _ => rfl⟩
theorem SameB.trans {B B' B'' : Bk} (x : SameB B B') (y : SameB B' B'') : SameB B B'' := ⟨y.day.trans x.day, y.fl.trans x.fl, y.al.trans x.al, fun s => (y.fh s).trans (x.fh s), fun s => (y.ah s).trans (x.ah s)⟩
theorem SameB.give {B : Bk} {k : Str} {i : Int} (h : hs B.free k = true) (h' : hs B.aside k = true) : SameB B (giveB B k i) := ⟨rfl, (pt_same h).1, (pt_same h').1, (pt_same h).2, (pt_same h').2⟩
set_option tactic.hygienic false in
theorem SameB.all {ins : List Str} : ∀ {l : List (Str × Int)} {B : Bk}, (∀ e ∈ l, hs B.free e.1 = true ∧ hs B.aside e.1 = true) → SameB B (giveAll ins l B) ∧ (giveAll ins l B).pacts = B.pacts
  | [], B, _ => ⟨.refl, rfl⟩
  | e :: l, B, h => by
    have h0 := h e List.mem_cons_self
    unfold giveAll
    by_cases hi : e.1 ∈ ins
    · rw [if_pos hi]
      have s1 := SameB.give (i := e.2) h0.1 h0.2
      obtain ⟨s2, p2⟩ := SameB.all (ins := ins) (l := l) (B := giveB B e.1 e.2) fun e' he => by rw [s1.fh, s1.ah]; exact h e' (List.mem_cons_of_mem _ he)
      exact ⟨s1.trans s2, p2⟩
    · rw [if_neg hi]
      exact SameB.all fun e' he => h e' (List.mem_cons_of_mem _ he)
set_option tactic.hygienic false in
theorem BkOK.keep {B B' : Bk} (ok : BkOK B) (sm : SameB B B') (hl : B'.pacts.length = B.pacts.length) (hp : ∀ (j : Nat) (y : Pc), B'.pacts[j]? = some y → ∃ x, B.pacts[j]? = some x ∧ y.parts = x.parts ∧ y.gains = x.gains ∧ y.needs = x.needs ∧ ∀ k ∈ y.inside, (lk x.parts k).isSome = true) (hi : ∀ (j : Nat) (y : Pc), B'.pacts[j]? = some y → y.inside.length ≤ 100) : BkOK B' := by
  refine ⟨⟨by rw [sm.fl]; exact ok.sz.1, by rw [sm.al]; exact ok.sz.2⟩, fun k h => ?_, by rw [hl]; exact ok.len, fun j y hy k hk => ?_, fun j y hy => ?_, fun j y hy e he => ?_⟩
  · rw [sm.ah]; rw [sm.fh] at h; exact ok.both k h
  · obtain ⟨x, h1, h2, h3, h4, h5⟩ := hp j y hy
    rw [h2]; exact h5 k hk
  · obtain ⟨x, h1, h2, h3, h4, h5⟩ := hp j y hy
    have := ok.inl j x h1
    exact ⟨hi j y hy, by rw [h2]; exact this.2.1, by rw [h3]; exact this.2.2.1, by rw [h4]; exact this.2.2.2⟩
  · obtain ⟨x, h1, h2, h3, h4, h5⟩ := hp j y hy
    rw [h2, h3] at he
    rw [sm.fh]; exact ok.purse j x h1 e he
theorem set_get {ps : List Pc} {j m : Nat} {x' y : Pc} (h : (ps.set j x')[m]? = some y) : (m = j ∧ y = x' ∧ j < ps.length) ∨ (m ≠ j ∧ ps[m]? = some y) := by
  rw [List.getElem?_set] at h
  by_cases e : j = m
  · rw [if_pos e] at h
    split at h
    · cases h; exact .inl ⟨e.symm, rfl, by assumption⟩
    · cases h
  · rw [if_neg e] at h; exact .inr ⟨fun z => e z.symm, h⟩
theorem BkOK.giveAble {B : Bk} {j : Nat} {x : Pc} (ok : BkOK B) (hj : B.pacts[j]? = some x) : ∀ e ∈ x.parts, hs B.free e.1 = true ∧ hs B.aside e.1 = true := fun e he => have h := ok.purse j x hj e (.inl he); ⟨h, ok.both _ h⟩
set_option tactic.hygienic false in
theorem BkOK.fell {B : Bk} {j : Nat} {x : Pc} (ok : BkOK B) (hj : B.pacts[j]? = some x) : BkOK (fellB B j x) := by
  obtain ⟨sm, hp⟩ := SameB.all (ins := x.inside) (ok.giveAble hj)
  refine ok.keep ⟨sm.day, sm.fl, sm.al, sm.fh, sm.ah⟩ List.length_set (fun m y hy => ?_) fun m y hy => ?_
  · rcases set_get hy with ⟨rfl, rfl, _⟩ | ⟨_, h⟩
    · exact ⟨x, hj, rfl, rfl, rfl, fun k hk => by cases hk⟩
    · exact ⟨y, h, rfl, rfl, rfl, ok.part m y h⟩
  · rcases set_get hy with ⟨rfl, rfl, _⟩ | ⟨_, h⟩
    · exact Nat.zero_le _
    · exact (ok.inl m y h).1
section
variable {c : Cx} {P : Pg} (G : Gd c P) (U : HasP P) {n : Nat} {md : Bool} {Q : AV → AHeap → Prop} {E : String → AHeap → Prop} {H : AHeap} {o : Addr → Option Role} {b f s p a : Addr} {as : List Addr} {B : Bk} {j : Nat} {x : Pc}
set_option tactic.hygienic false in
theorem IsBook.pact (ib : IsBook o H b f s p as B) (hj : B.pacts[j]? = some x) (ha : as[j]? = some a) : IsPact o H j a x := by
  obtain ⟨a', h1, h2⟩ := pactsAt_get ib.ps hj
  rw [ha] at h1; cases h1
  rw [Nat.zero_add] at h2; exact h2
noncomputable def KD (o : Addr → Option Role) (H H' : AHeap) : Prop := ∀ y, o y = some .data → H' y = H y
set_option tactic.hygienic false in
theorem KD.up {y : Addr} {z : AObj} {r : Role} (h : o y = some r) (hr : r ≠ .data) : KD o H (up H y z) := fun w hw => up_other fun e => by subst e; rw [h] at hw; cases hw; exact hr rfl
theorem KD.trans {H' H'' : AHeap} (h : KD o H H') (h' : KD o H' H'') : KD o H H'' := fun y hy => (h' y hy).trans (h y hy)
include G U
set_option tactic.hygienic false in
omit U in
theorem given_back_kd {k : Str} {i : Int} (hU : P.fns.lookup "Book.given_back" = some BK.f_Book_given_back) (hA : c.P.attrs = BK.attrs) (ib : IsBook o H b f s p as B) (hz : B.Sz) (hf : hs B.free k = true) (hs' : hs B.aside k = true) (q : ∀ H', IsBook o H' b f s p as (giveB B k i) → Fr1 o H o H' → KD o H H' → Q .none H') : CallOK c (n + 1) true "Book.given_back" [.ref b, .str k, .int i] Q E H := by
  refine G.call (F := BK.f_Book_given_back) hU rfl ?_
  show wpSs _ _ _ _ _ [some (.ref b), some (.str k), some (.int i)] _
  obtain ⟨ef, hf0⟩ := ib.hf
  obtain ⟨es, hs0⟩ := ib.hs
  have hfs : f ≠ s := ne_role ib.of ib.os (by intro h; cases h)
  refine w_st fun K nx => ?_
  rw [w_asg, x_bin, x_sub]
  refine at_aside hA ib rfl (sub_aside ib (lk_get hs') ?_)
  dsimp [v_0, x_lit, x_var, x_bin, x_neg, x_not, x_ao, x_cmp, x_cmp2, x_sub, x_glob, x_call, x_prim, x_bm, x_isi, x_list, x_tup, x_dict0, xs_nil, xs_cons, ao_one, ao_cons, xc_none, xc_some, tv, wtg, b_add, b_sub, b_mul, b_div, b_mod, b_pow, b_adds, c_lt, c_le, c_gt, c_ge, c_eq, c_ne, c_eqs, c_nes, c_in, c_nin, t_bool, t_int, t_none]
  rw [tsub]
  refine at_aside hA ib rfl ?_
  dsimp [v_0, x_lit, x_var, x_bin, x_neg, x_not, x_ao, x_cmp, x_cmp2, x_sub, x_glob, x_call, x_prim, x_bm, x_isi, x_list, x_tup, x_dict0, xs_nil, xs_cons, ao_one, ao_cons, xc_none, xc_some, tv, wtg, b_add, b_sub, b_mul, b_div, b_mod, b_pow, b_adds, c_lt, c_le, c_gt, c_ge, c_eq, c_ne, c_eqs, c_nes, c_in, c_nin, t_bool, t_int, t_none]
  rw [hs0]
  refine ⟨by rw [dI_len]; exact hz.2, fun e1 => nx _ _ ?_⟩
  rw [put_dI]
  have ib1 := ib.setAside e1 (pt B.aside k ((lk B.aside k).getD 0 - i))
  refine w_st fun K nx => ?_
  rw [w_asg, x_bin, x_sub]
  refine at_free hA ib1 rfl (sub_free (v := (lk B.free k).getD 0) ib1 (lk_get hf) ?_)
  dsimp [v_0, x_lit, x_var, x_bin, x_neg, x_not, x_ao, x_cmp, x_cmp2, x_sub, x_glob, x_call, x_prim, x_bm, x_isi, x_list, x_tup, x_dict0, xs_nil, xs_cons, ao_one, ao_cons, xc_none, xc_some, tv, wtg, b_add, b_sub, b_mul, b_div, b_mod, b_pow, b_adds, c_lt, c_le, c_gt, c_ge, c_eq, c_ne, c_eqs, c_nes, c_in, c_nin, t_bool, t_int, t_none]
  rw [tsub]
  refine at_free hA ib1 rfl ?_
  dsimp [v_0, x_lit, x_var, x_bin, x_neg, x_not, x_ao, x_cmp, x_cmp2, x_sub, x_glob, x_call, x_prim, x_bm, x_isi, x_list, x_tup, x_dict0, xs_nil, xs_cons, ao_one, ao_cons, xc_none, xc_some, tv, wtg, b_add, b_sub, b_mul, b_div, b_mod, b_pow, b_adds, c_lt, c_le, c_gt, c_ge, c_eq, c_ne, c_eqs, c_nes, c_in, c_nin, t_bool, t_int, t_none]
  rw [up_other hfs, hf0]
  refine ⟨by rw [dI_len]; exact hz.1, fun e2 => nx _ _ ?_⟩
  rw [put_dI]
  exact q _ (ib1.setFree e2 _) ((up_fr (by rw [ib.os]; simp)).trans (up_fr (by rw [ib.of]; simp))) ((KD.up ib.os (by intro h; cases h)).trans (KD.up ib.of (by intro h; cases h)))
set_option tactic.hygienic false in
theorem fell_ok (hU : P.fns.lookup "Book.fell" = some BK.f_Book_fell) (hU2 : P.fns.lookup "Book.given_back" = some BK.f_Book_given_back) (ib : IsBook o H b f s p as B) (ok : BkOK B) (hj : B.pacts[j]? = some x) (ha : as[j]? = some a)
    (q : ∀ o' H', IsBook o' H' b f s p as (fellB B j x) → Fr1 o H o' H' → Q (.str x.name) H') : CallOK c (n + 2) true "Book.fell" [.ref b, .ref a] Q E H := by
  refine G.call (F := BK.f_Book_fell) hU rfl ?_
  have hA : c.P.attrs = BK.attrs := by rw [G.hP, U.a.attrs]
  have hM : c.P.meths = BK.meths := by rw [G.hP, U.a.meths]
  have hC : ∀ n, BK.attrs.contains ("Pact", n) = true → c.P.attrs.contains ("Pact", n) = true := fun n h => by rw [hA]; exact h
  show wpSs _ _ _ _ _ [some (.ref b), some (.ref a), none] _
  have able := ok.giveAble hj
  refine w_st fun K nx => ?_
  rw [s_for']
  refine ⟨rfl, ?_⟩
  refine pa_parts hA (ib.pact hj ha) rfl fun z ⟨hz, ts, hts, hl⟩ => ?_
  refine wforI (xs := ts.map .ref) (by simp only [itemsOf, hts]) (fun m V' H' => (∃ pr, V' = [some (.ref b), some (.ref a), pr]) ∧ IsBook o H' b f s p as (giveAll x.inside (x.parts.take m) B) ∧ Fr1 o H o H' ∧ KD o H H') ⟨⟨_, rfl⟩, by rw [List.take_zero]; exact ib, .refl, fun _ _ => rfl⟩ ?_
  rintro I hI m V' H' ⟨⟨pr, rfl⟩, ib', fr', kd'⟩
  obtain ⟨sm, hp⟩ := SameB.all (ins := x.inside) (l := x.parts.take m) (B := B) fun e he => able e (List.mem_of_mem_take he)
  have hj' : (giveAll x.inside (x.parts.take m) B).pacts[j]? = some x := by rw [hp]; exact hj
  refine ⟨kd' z hz, fun hlen => ?_, fun y hy => ?_⟩
  · rw [hlen, List.length_map, pairs_len hl, List.take_length] at ib' sm hp hj'
    refine nx _ _ ?_
    obtain ⟨h0, pa, ga, ne, ins, ep, h, h1, h2, h3, h4, h5, h6⟩ := ib'.pact hj' ha
    refine w_st fun K nx => ?_
    rw [w_asg, x_dict0]
    intro w hw
    have haw : a ≠ w := fun e => by rw [e, hw] at h; cases h
    refine st_a rfl (hC _ rfl) (by rw [up_other haw]; exact h) (by exact (show 7 ≤ 100 by decide)) (nx _ _ ?_)
    refine w_st fun K nx => ?_
    rw [w_asg, x_lit]
    refine st_a rfl (hC _ rfl) up_same (by exact (show 7 ≤ 100 by decide)) (nx _ _ ?_)
    -- the ghost that owns the new dict
    have kb0 : KB (fun _ => True) o (fun y => if y = w then some (.inside j) else o y) H' (Mine.up H' w (.dict 0 [])) := fun y r v _ hr hv _ => by
      have : y ≠ w := fun e => by rw [e, hw] at hv; cases hv
      exact ⟨(if_neg this).trans hr, by rw [up_other this]; exact hv⟩
    have ib1 := ib'.congr kb0
    generalize ho : (fun y => if y = w then some (Role.inside j) else o y) = o' at kb0 ib1
    have hoa : o' a = some (.pact j) := by rw [← ho]; exact (if_neg haw).trans h0
    have how : o' w = some (.inside j) := by rw [← ho]; exact if_pos rfl
    have kb1 : ∀ {X : AHeap} {y : AObj}, KB (fun r => r ≠ .pact j ∧ r ≠ .inside j) o' o' X (Mine.up X a y) := kb_up fun r hr => by rw [hoa] at hr; cases hr; exact fun z => z.1 rfl
    have kbd : ∀ {X : AHeap} {y : AObj}, KB (fun r => r = .data) o' o' X (Mine.up X a y) := kb_up fun r hr => by rw [hoa] at hr; cases hr; exact fun z => by cases z
    have kb0' : KB (fun r => r = .data) o o' H' (Mine.up H' w (.dict 0 [])) := fun y r v _ hr hv hb => kb0 y r v trivial hr hv hb
    have ip : IsPact o' (Mine.up (Mine.up (Mine.up H' w (.dict 0 [])) a (.inst "Pact" (putA [("name", .str x.name), ("parts", .ref pa), ("gains", .ref ga), ("needs", .ref ne), ("last", .int x.last), ("state", .str x.state.str), ("inside", .ref ins)] "inside" (.ref w)))) a (.inst "Pact" (putA (putA [("name", .str x.name), ("parts", .ref pa), ("gains", .ref ga), ("needs", .ref ne), ("last", .int x.last), ("state", .str x.state.str), ("inside", .ref ins)] "inside" (.ref w)) "state" (.str (Str.ofString "fallen"))))) j a { x with inside := [], state := .fln } := by
      refine ⟨hoa, pa, ga, ne, w, 0, up_same, ((h1.congr kb0' rfl).congr kbd rfl).congr kbd rfl, ((h2.congr kb0' rfl).congr kbd rfl).congr kbd rfl, ?_, ?_, how, ?_⟩
      · exact (kb0' ne _ _ rfl h3 h4 rfl).1
      · have := kb0' ne _ _ rfl h3 h4 rfl
        have hna : ne ≠ a := ne_role this.1 hoa (by intro z; cases z)
        rw [up_other hna, up_other hna]; exact this.2
      · rw [up_other haw.symm, up_other haw.symm, up_same]; rfl
    refine w_st fun K nx => ?_
    rw [w_ret]
    refine pa_name hA ip rfl ?_
    have ib2 := ib1.setPact hj' ha (fun y r v hr ho hv hb => kb1 y r v hr ho (kb1 y r v hr ho hv hb).2 hb) ip rfl
    rw [hp] at ib2
    refine q o' _ ib2 (fr'.trans ⟨fun y v hy ho' => ?_, fun y h => up_gr (up_gr (up_gr h))⟩)
    have hyw : y ≠ w := fun e => by rw [e, hw] at hy; cases hy
    have hya : y ≠ a := fun e => by rw [e, h0] at ho'; cases ho'
    exact ⟨by rw [up_other hya, up_other hya, up_other hyw]; exact hy, by rw [← ho]; exact (if_neg hyw).trans ho'⟩
  · rw [List.getElem?_map, Option.map_eq_some_iff] at hy
    obtain ⟨t, ht, rfl⟩ := hy
    obtain ⟨e, he, htd, htt⟩ := pairs_get hl ht
    have htt' : H' t = some (.tuple [.str e.1, .int e.2]) := by rw [kd' t htd]; exact htt
    refine ⟨show 2 < 3 by decide, ?_⟩
    refine w_st fun K nx => ?_
    show wpS _ _ _ _ _ [some (.ref b), some (.ref a), some (.ref t)] _
    have hsplit : x.parts.take (m + 1) = x.parts.take m ++ [e] := by rw [List.take_add_one, he]; rfl
    rw [w_ite]
    refine in_ins (no := false) (k := e.1) hA ib' hj' ha (ib'.pact hj' ha) rfl (fun Q' h => pair0 htt' h) ?_
    by_cases hi : e.1 ∈ x.inside
    · rw [decide_eq_true hi]
      show wpSs _ _ _ _ _ [some (.ref b), some (.ref a), some (.ref t)] _
      refine w_st fun K2 nx2 => ?_
      rw [s_expr']
      refine at_meth hM (by decide) (by decide) ib' rfl ?_
      rw [xs_cons, x_sub]
      refine pair0 htt' ?_
      rw [xs_cons, x_sub]
      refine pair1 htt' ?_
      have hem : e ∈ x.parts := List.mem_of_getElem? he
      refine given_back_kd G hU2 hA ib' ⟨by rw [sm.fl]; exact ok.sz.1, by rw [sm.al]; exact ok.sz.2⟩ (by rw [sm.fh]; exact (able e hem).1) (by rw [sm.ah]; exact (able e hem).2) fun H2 ib2 fr2 kd2 => nx2 _ _ (nx _ _ (hI _ _ _ ⟨⟨_, rfl⟩, ?_, fr'.trans fr2, kd'.trans kd2⟩))
      rw [hsplit, giveAll_snoc, if_pos hi]; exact ib2
    · rw [decide_eq_false hi]
      refine nx _ _ (hI _ _ _ ⟨⟨_, rfl⟩, ?_, fr', kd'⟩)
      rw [hsplit, giveAll_snoc, if_neg hi]; exact ib'
end
end Mine

end
section
open PySem PySem.W PyProof.Rows PySem.Spec PySem.SeqAt PySem.Calls
namespace Mine
noncomputable def fAt (g : Pc → Bool) : List Pc → Option (Nat × Pc)
  | [] => none
  | q :: r => if g q then some (0, q) else (fAt g r).map fun e => (e.1 + 1, e.2)
set_option tactic.hygienic false in
theorem fAt_hit {g : Pc → Bool} : ∀ {ps : List Pc} {m : Nat} {x : Pc}, (∀ i y, i < m → ps[i]? = some y → g y = false) → ps[m]? = some x → g x = true → fAt g ps = some (m, x)
  | q :: r, 0, x, _, h, hg => by cases h; unfold fAt; rw [if_pos hg]
  | q :: r, m + 1, x, hi, h, hg => by
    unfold fAt
    rw [if_neg (by rw [hi 0 q (Nat.succ_pos m) rfl]; decide), fAt_hit (ps := r) (m := m) (fun i y hm hy => hi (i + 1) y (Nat.succ_lt_succ hm) hy) h hg]; rfl
  | [], _, _, _, h, _ => by cases h
set_option tactic.hygienic false in
theorem fAt_miss {g : Pc → Bool} : ∀ {ps : List Pc}, (∀ (i : Nat) y, ps[i]? = some y → g y = false) → fAt g ps = none
  | [], _ => rfl
  | q :: r, h => by
    unfold fAt
    rw [if_neg (by rw [h 0 q rfl]; decide), fAt_miss (ps := r) fun i y hy => h (i + 1) y hy]; rfl
set_option tactic.hygienic false in
theorem fAt_get {g : Pc → Bool} : ∀ {ps : List Pc} {m : Nat} {x : Pc}, fAt g ps = some (m, x) → ps[m]? = some x ∧ g x = true
  | q :: r, m, x, h => by
    unfold fAt at h
    by_cases hg : g q = true
    · rw [if_pos hg] at h; cases h; exact ⟨rfl, hg⟩
    · rw [if_neg hg] at h
      obtain ⟨⟨m', x'⟩, h1, h2⟩ := Option.map_eq_some_iff.mp h
      cases h2
      exact fAt_get (ps := r) h1
noncomputable def fallenB (B : Bk) (k : Str) : Bool := match pAt B.pacts k with
  | some e => e.2.state == .fln
  | none => false
noncomputable def dragB (B : Bk) (x : Pc) : Bool := x.state == .opn && x.needs.any (fallenB B)
noncomputable def firstD (B : Bk) : Option (Nat × Pc) := fAt (dragB B) B.pacts
noncomputable def dragAll : Nat → Bk → List Str → Bk × List Str
  | 0, B, l => (B, l)
  | n + 1, B, l => match firstD B with
    | none => (B, l)
    | some e => dragAll n (fellB B e.1 e.2) (l ++ [e.2.name])
noncomputable def opens (B : Bk) : Nat := B.pacts.countP fun q => q.state == .opn
set_option tactic.hygienic false in
theorem countP_set {g : Pc → Bool} : ∀ {ps : List Pc} {j : Nat} {x x' : Pc}, ps[j]? = some x → g x = true → g x' = false → (ps.set j x').countP g + 1 = ps.countP g
  | q :: r, 0, x, x', h, h1, h2 => by cases h; simp [h1, h2]
  | q :: r, j + 1, x, x', h, h1, h2 => by
    have := countP_set (ps := r) (j := j) h h1 h2
    rw [List.set_cons_succ, List.countP_cons, List.countP_cons]; omega
  | [], _, _, _, h, _, _ => by cases h
theorem opens_fell {B : Bk} {j : Nat} {x : Pc} (h : B.pacts[j]? = some x) (ho : (x.state == .opn) = true) : opens (fellB B j x) + 1 = opens B := countP_set h ho rfl
section
variable {o : Addr → Option Role} {H : AHeap} {b f s p : Addr} {as : List Addr} {B : Bk}
set_option tactic.hygienic false in
theorem dP_vals : ∀ {i : Nat} {as : List Addr} {ps : List Pc}, pactsAt o H i as ps → (dP ps as).map (·.2) = as.map AV.ref ∧ as.length = ps.length
  | _, [], [], _ => ⟨rfl, rfl⟩
  | i, a :: as, q :: qs, h => by
    obtain ⟨h1, h2⟩ := dP_vals h.2
    exact ⟨by rw [dP, List.map_cons, h1]; rfl, congrArg Nat.succ h2⟩
  | _, [], _ :: _, h => h.elim
  | _, _ :: _, [], h => h.elim
set_option tactic.hygienic false in
theorem IsBook.upN (ib : IsBook o H b f s p as B) {z : Addr} (hz : o z = none) (y : AObj) : IsBook o (up H z y) b f s p as B :=
  ib.congr fun a r v _ hr hv _ => ⟨hr, by rw [up_other (fun e => by rw [e, hz] at hr; cases hr)]; exact hv⟩
end
section
variable {c : Cx} {P : Pg} (G : Gd c P) (U : HasP P) {n : Nat} {md : Bool} {Q : AV → AHeap → Prop} {E : String → AHeap → Prop} {H : AHeap} {o : Addr → Option Role} {b f s p a : Addr} {as : List Addr} {B : Bk} {j : Nat} {x : Pc}
set_option tactic.hygienic false in
theorem vals_list {g : Gx} {V : VV} {i : Nat} (hP : g.c.P.attrs = BK.attrs) (hmd : g.md = true) (ib : IsBook o H b f s p as B) (hl : B.pacts.length ≤ 100) (hV : V[i]? = some (some (.ref b)))
    (q : ∀ z o' H', H z = none → o' z = none → H' z = some (.list (as.map .ref)) → IsBook o' H' b f s p as B → Fr1 o H o' H' → Q (.ref z) H') : wpX g (.prim .list [.bm (.attr (.var i) "pacts") .values []]) V Q E H := by
  obtain ⟨ep, hp⟩ := ib.hp
  obtain ⟨e1, e2⟩ := dP_vals ib.ps
  have e3 : (dP B.pacts as).length = as.length := by have := congrArg List.length e1; simpa using this
  rw [x_prim, xs_cons, x_bm]
  refine at_pacts hP ib hV ⟨?_, ?_⟩
  · show match H p with | some (.list _) => _ | some (.dict _ _) => _ | _ => False
    rw [hp]; exact .inl rfl
  rw [xs_nil, m_val, hp]
  intro z1 hz1
  have hpz : p ≠ z1 := fun e => by rw [e, hz1] at hp; cases hp
  obtain ⟨ib1, f1⟩ := ib.fresh hz1 (.vals p)
  rw [xs_nil, p_listr, up_same]
  show match up H z1 (.vals p) p with | some (.dict _ _) => _ | _ => False
  rw [up_other hpz, hp]
  refine ⟨hmd, by rw [e3, e2]; exact Nat.le_trans hl (by decide), fun z2 hz2 => ?_⟩
  obtain ⟨ib2, f2⟩ := ib1.fresh hz2 (.list ((dP B.pacts as).map (·.2)))
  have hz0 : H z2 = none := by
    have hne : z2 ≠ z1 := fun e => by rw [e, up_same] at hz2; cases hz2
    rw [up_other hne] at hz2; exact hz2
  exact q z2 _ _ hz0 (if_pos rfl) (by rw [up_same, e1]) ib2 (f1.trans f2)
set_option tactic.hygienic false in
theorem pa_stateX {g : Gx} {V : VV} {e : X} (hP : g.c.P.attrs = BK.attrs) (ip : IsPact o H j a x) (he : ∀ Q' : AV → AHeap → Prop, Q' (.ref a) H → wpX g e V Q' E H) (q : Q (.str x.state.str) H) : wpX g (.attr e "state") V Q E H := by
  obtain ⟨pa, ga, ne, ins, ep, h, _⟩ := ip.at_
  rw [x_attr]
  refine he _ ?_
  show match H a with | some (.inst _ _) => _ | some (.book _) => _ | _ => False
  rw [h]; exact ⟨by rw [hP]; rfl, q⟩
include G U
set_option tactic.hygienic false in
theorem first_dragged_ok (hU : P.fns.lookup "Book.first_dragged" = some BK.f_Book_first_dragged) (ib : IsBook o H b f s p as B) (ok : BkOK B)
    (q : ∀ o' H', IsBook o' H' b f s p as B → Fr1 o H o' H' → match firstD B with | some e => ∀ a, as[e.1]? = some a → Q (.ref a) H' | none => Q .none H') : CallOK c (n + 1) true "Book.first_dragged" [.ref b] Q E H := by
  refine G.call (F := BK.f_Book_first_dragged) hU rfl ?_
  have hA : c.P.attrs = BK.attrs := by rw [G.hP, U.a.attrs]
  show wpSs _ _ _ _ _ [some (.ref b), none, none] _
  refine w_st fun K nx => ?_
  rw [s_for']
  refine ⟨rfl, ?_⟩
  refine vals_list hA rfl ib ok.len rfl fun z o' H1 _ hzo hz1 ib1 f1 => ?_
  have q := q o' H1 ib1 f1
  obtain ⟨_, e2⟩ := dP_vals ib1.ps
  refine wforI (xs := as.map .ref) (by simp only [itemsOf, hz1]) (fun m V' H' => H' = H1 ∧ (∃ p1 p2, V' = [some (.ref b), p1, p2]) ∧ ∀ i y, i < m → B.pacts[i]? = some y → dragB B y = false) ⟨rfl, ⟨_, _, rfl⟩, fun i y h => absurd h (Nat.not_lt_zero i)⟩ ?_
  rintro I hI m V' H' ⟨rfl, ⟨p1, p2, rfl⟩, hm⟩
  refine ⟨rfl, fun hlen => ?_, fun y hy => ?_⟩
  · rw [List.length_map, e2] at hlen
    have : firstD B = none := fAt_miss fun i y hy => hm i y (by rw [hlen]; exact (List.getElem?_eq_some_iff.mp hy).1) hy
    rw [this] at q
    exact nx _ _ q
  rw [List.getElem?_map, Option.map_eq_some_iff] at hy
  obtain ⟨a, ha, rfl⟩ := hy
  obtain ⟨x, hx⟩ : ∃ x, B.pacts[m]? = some x := ⟨B.pacts[m]'(by rw [← e2]; exact (List.getElem?_eq_some_iff.mp ha).1), List.getElem?_eq_getElem _⟩
  have ip := ib1.pact hx ha
  refine ⟨show 1 < 3 by decide, ?_⟩
  refine w_st fun K2 nx2 => ?_
  show wpS _ _ _ _ _ [some (.ref b), some (.ref a), p2] _
  rw [w_ite, x_cmp]
  refine pa_state hA ip rfl ?_
  rw [x_lit, c_eqs, t_bool, sta_opn]
  have next : dragB B x = false → I (m + 1) [some (.ref b), some (.ref a), p2] H' := fun h => hI _ _ _ ⟨rfl, ⟨_, _, rfl⟩, fun i y hi hy => by
    rcases Nat.lt_succ_iff_lt_or_eq.mp hi with h' | h'
    · exact hm i y h' hy
    · subst h'; rw [hx] at hy; cases hy; exact h⟩
  cases hs : x.state == Sta.opn with
  | false => exact nx2 _ _ (next (by unfold dragB; rw [hs]; rfl))
  | true =>
  show wpSs _ _ _ _ _ [some (.ref b), some (.ref a), p2] _
  refine w_st fun K3 nx3 => ?_
  rw [s_for']
  refine ⟨rfl, ?_⟩
  refine pa_needs hA ip rfl fun zn _ hzn => ?_
  refine wforI (xs := txs x.needs) (by simp only [itemsOf, hzn]) (fun i V' H2 => H2 = H' ∧ (∃ p2, V' = [some (.ref b), some (.ref a), p2]) ∧ ∀ i' k, i' < i → x.needs[i']? = some k → fallenB B k = false) ⟨rfl, ⟨_, rfl⟩, fun i y h => absurd h (Nat.not_lt_zero i)⟩ ?_
  rintro J hJ i V' H2 ⟨rfl, ⟨p3, rfl⟩, hi⟩
  refine ⟨rfl, fun hlen => ?_, fun y hy => ?_⟩
  · rw [txs_length] at hlen
    refine nx3 _ _ (nx2 _ _ ?_)
    refine hI _ _ _ ⟨rfl, ⟨_, _, rfl⟩, fun i' y hi' hy => ?_⟩
    rcases Nat.lt_succ_iff_lt_or_eq.mp hi' with h' | h'
    · exact hm i' y h' hy
    · subst h'; rw [hx] at hy; cases hy
      unfold dragB; rw [hs, Bool.true_and, List.any_eq_false]
      intro k hk
      obtain ⟨i2, h2, h3⟩ := List.mem_iff_getElem.mp hk
      rw [hi i2 k (by rw [hlen]; exact h2) (by rw [List.getElem?_eq_getElem h2, h3])]; decide
  obtain ⟨k, rfl, hk⟩ := txs_get hy
  refine ⟨show 2 < 3 by decide, ?_⟩
  refine w_st fun K4 nx4 => ?_
  show wpS _ _ _ _ _ [some (.ref b), some (.ref a), some (.str k)] _
  have nextJ : fallenB B k = false → J (i + 1) [some (.ref b), some (.ref a), some (.str k)] H2 := fun h => hJ _ _ _ ⟨rfl, ⟨_, rfl⟩, fun i' k' hi' hk' => by
    rcases Nat.lt_succ_iff_lt_or_eq.mp hi' with h' | h'
    · exact hi i' k' h' hk'
    · subst h'; rw [hk] at hk'; cases hk'; exact h⟩
  rw [w_ite, x_ao, ao_cons, x_cmp, x_var]
  refine at_pacts hA ib1 rfl ?_
  rw [c_in]
  refine in_pacts ib1 ?_
  cases e : pAt B.pacts k with
  | none => exact nx4 _ _ (nextJ (by unfold fallenB; rw [e]))
  | some w =>
  show wpAO _ true [_] _ _ _ _
  rw [ao_one, x_cmp]
  obtain ⟨a', ha', ip'⟩ := pactsAt_get ib1.ps (pAt_get (j := w.1) (q := w.2) e).1
  rw [Nat.zero_add] at ip'
  refine pa_stateX hA ip' (fun Q' h => ?_) ?_
  · rw [x_sub]
    refine at_pacts hA ib1 rfl ?_
    rw [x_var]
    exact sub_pacts ib1 (j := w.1) (x := w.2) e fun a'' h'' _ => by rw [ha'] at h''; cases h''; exact h
  rw [x_lit]
  rw [c_eqs, t_bool, sta_fln]
  have hfb : fallenB B k = (w.2.state == .fln) := by unfold fallenB; rw [e]
  cases hw : w.2.state == Sta.fln with
  | false => exact nx4 _ _ (nextJ (hfb.trans hw))
  | true =>
    have hd : dragB B x = true := by
      unfold dragB; rw [hs, Bool.true_and, List.any_eq_true]
      exact ⟨k, List.mem_of_getElem? hk, hfb.trans hw⟩
    have : firstD B = some (m, x) := fAt_hit hm hx hd
    rw [this] at q
    exact q a ha
end
end Mine

end
section
open PySem PySem.W PyProof.Rows PySem.Spec PySem.SeqAt PySem.Calls
namespace Mine
set_option tactic.hygienic false in
theorem dragAll_none {n : Nat} {B : Bk} {l : List Str} (h : firstD B = none) : dragAll n B l = (B, l) := by
  cases n with
  | zero => rfl
  | succ n => unfold dragAll; rw [h]
set_option tactic.hygienic false in
theorem dragAll_some {n : Nat} {B : Bk} {l : List Str} {e : Nat × Pc} (h : firstD B = some e) : dragAll (n + 1) B l = dragAll n (fellB B e.1 e.2) (l ++ [e.2.name]) := by
  conv => lhs; unfold dragAll
  rw [h]
theorem fell_len {B : Bk} {j : Nat} {x : Pc} : (fellB B j x).pacts.length = B.pacts.length := List.length_set
theorem opens_le {B : Bk} : opens B ≤ B.pacts.length := List.countP_le_length
section
variable {c : Cx} {P : Pg} (G : Gd c P) (U : HasP P) {n : Nat} {md : Bool} {Q : AV → AHeap → Prop} {E : String → AHeap → Prop} {H : AHeap} {o : Addr → Option Role} {b f s p a : Addr} {as : List Addr} {B : Bk} {j : Nat} {x : Pc}
inductive DragI (o : Addr → Option Role) (H : AHeap) (b f s p : Addr) (as : List Addr) (R : Bk × List Str) (l0 : Nat) (v1 : Option AV) (z : Addr) (m : Nat) (V' : VV) (H' : AHeap) : Prop
  | mk (o' : Addr → Option Role) (B' : Bk) (l : List Str) (v : AV) (hV : V' = [some (.ref b), v1, some (.ref z), some v]) (ib : IsBook o' H' b f s p as B') (ok : BkOK B') (fr : Fr1 o H o' H') (hz : H' z = some (.list (txs l))) (ho : o' z = none) (hl : l.length + m ≤ l0) (hm : opens B' ≤ m) (hR : dragAll m B' l = R)
      (hv : match firstD B' with | some e => ∃ a, as[e.1]? = some a ∧ v = .ref a | none => v = .none) : DragI o H b f s p as R l0 v1 z m V' H'
include G U
set_option tactic.hygienic false in
theorem dragged_ok {nl : Addr} {l : List Str} (hU : P.fns.lookup "Book.dragged" = some BK.f_Book_dragged) (hU1 : P.fns.lookup "Book.first_dragged" = some BK.f_Book_first_dragged) (hU2 : P.fns.lookup "Book.fell" = some BK.f_Book_fell) (hU3 : P.fns.lookup "Book.given_back" = some BK.f_Book_given_back)
    (ib : IsBook o H b f s p as B) (ok : BkOK B) (hn : H nl = some (.list (txs l))) (hno : o nl = none) (hl : l.length ≤ 200)
    (q : ∀ z o' H', H z = none → o' z = none → H' z = some (.list (txs (dragAll B.pacts.length B l).2)) → IsBook o' H' b f s p as (dragAll B.pacts.length B l).1 → Fr1 o H o' H' → Q (.ref z) H') : CallOK c (n + 3) true "Book.dragged" [.ref b, .ref nl] Q E H := by
  refine G.call (F := BK.f_Book_dragged) hU rfl ?_
  have hM : c.P.meths = BK.meths := by rw [G.hP, U.a.meths]
  show wpSs _ _ _ _ _ [some (.ref b), some (.ref nl), none, none] _
  refine w_st fun K nx => ?_
  dsimp [v_0, x_lit, x_var, x_bin, x_neg, x_not, x_ao, x_cmp, x_cmp2, x_sub, x_glob, x_call, x_prim, x_bm, x_isi, x_list, x_tup, x_dict0, xs_nil, xs_cons, ao_one, ao_cons, xc_none, xc_some, tv, wtg, b_add, b_sub, b_mul, b_div, b_mod, b_pow, b_adds, c_lt, c_le, c_gt, c_ge, c_eq, c_ne, c_eqs, c_nes, c_in, c_nin, t_bool, t_int, t_none, w_cons, w_nil, w_ite, w_ret, w_asg, s_expr', s_raise']
  refine p_listT hn (by omega) fun z hz => ⟨by decide, nx _ _ ?_⟩
  obtain ⟨ib1, f1⟩ := ib.fresh hz (.list (txs l))
  have hz1 : up H z (.list (txs l)) z = some (.list (txs l)) := up_same
  have hzo : (fun a => if a = z then none else o a) z = (none : Option Role) := if_pos rfl
  generalize (fun a => if a = z then none else o a) = o1 at ib1 f1 hzo
  generalize up H z (.list (txs l)) = H1 at ib1 f1 hz1
  refine w_st fun K nx => ?_
  rw [w_asg]
  refine at_meth hM (by decide) (by decide) ib1 rfl ?_
  rw [xs_nil]
  refine first_dragged_ok G U hU1 ib1 ok fun o2 H2 ib2 f2 => ?_
  obtain ⟨hz2, hzo2⟩ := f2.old _ _ hz1 hzo
  have key : ∀ v, (match firstD B with | some e => ∃ a, as[e.1]? = some a ∧ v = .ref a | none => v = .none) → 3 < 4 ∧ K [some (.ref b), some (.ref nl), some (.ref z), some v] H2 := fun v hv => by
    refine ⟨by decide, nx _ _ ?_⟩
    refine w_st fun K nx => ?_
    rw [s_while']
    refine ⟨rfl, DragI o H b f s p as (dragAll B.pacts.length B l) (l.length + B.pacts.length) (some (.ref nl)) z, ⟨_, o2, B, l, v, rfl, ib2, ok, f1.trans f2, hz2, hzo2, Nat.le_refl _, opens_le, rfl, hv⟩, ?_⟩
    rintro m V' H' ⟨o', B', l', v', rfl, ib', ok', fr', hz', ho', hl', hm', hR', hv'⟩
    rw [x_cmp, x_var]
    show wpX _ (.lit .none) _ _ _ _
    rw [x_lit]
    cases e : firstD B' with
    | none =>
      rw [e] at hv'
      subst hv'
      rw [dragAll_none e] at hR'
      refine nx _ _ ?_
      have q := q z o' H' hz ho'
      rw [← hR'] at q
      exact q hz' ib' fr'
    | some w =>
      rw [e] at hv'
      obtain ⟨a, ha, rfl⟩ := hv'
      obtain ⟨hj, hd⟩ := fAt_get (m := w.1) (x := w.2) e
      have hopn : (w.2.state == Sta.opn) = true := (Bool.and_eq_true _ _ ▸ (show (w.2.state == Sta.opn && w.2.needs.any (fallenB B')) = true from hd)).1
      have hop := opens_fell hj hopn
      obtain ⟨m, rfl⟩ : ∃ m', m = m' + 1 := ⟨m - 1, by omega⟩
      rw [dragAll_some e] at hR'
      show wpSs _ _ _ _ _ [some (.ref b), some (.ref nl), some (.ref z), some (.ref a)] _
      refine w_st fun K2 nx2 => ?_
      rw [s_expr', x_bm, x_var]
      refine ⟨?_, ?_⟩
      · show match H' z with | some (.list _) => _ | some (.dict _ _) => _ | _ => False
        rw [hz']; exact .inl rfl
      rw [xs_cons]
      refine at_meth hM (by decide) (by decide) ib' rfl ?_
      rw [xs_cons, x_var]
      refine fell_ok G U hU2 hU3 ib' ok' hj ha fun o3 H3 ib3 f3 => ?_
      obtain ⟨hz3, hzo3⟩ := f3.old _ _ hz' ho'
      rw [xs_nil]
      refine m_append hz3 (by rw [txs_length]; have := ok.len; omega) (nx2 _ _ ?_)
      rw [txs_snoc]
      have ib4 := ib3.upN hzo3 (.list (txs (l' ++ [w.2.name])))
      have fr4 : Fr1 o H o3 (up H3 z (.list (txs (l' ++ [w.2.name])))) := ⟨fun y v hy hyo => by
        have := (fr'.trans f3).old y v hy hyo
        exact ⟨by rw [up_other (fun e => by rw [e, hz] at hy; cases hy)]; exact this.1, this.2⟩, fun y h => (fr'.trans f3).gr y (up_gr h)⟩
      refine w_st fun K3 nx3 => ?_
      rw [w_asg]
      refine at_meth hM (by decide) (by decide) ib4 rfl ?_
      rw [xs_nil]
      have ok4 := ok'.fell hj
      refine first_dragged_ok G U hU1 ib4 ok4 fun o5 H5 ib5 f5 => ?_
      obtain ⟨hz5, hzo5⟩ := f5.old z _ up_same hzo3
      have fin : ∀ v, (match firstD (fellB B' w.1 w.2) with | some e => ∃ a, as[e.1]? = some a ∧ v = .ref a | none => v = .none) → 3 < 4 ∧ K3 [some (.ref b), some (.ref nl), some (.ref z), some v] H5 := fun v hv => ⟨by decide, nx3 _ _ ⟨m, Nat.lt_succ_self m, o5, fellB B' w.1 w.2, l' ++ [w.2.name], v, rfl, ib5, ok4, fr4.trans f5, hz5, hzo5, by rw [List.length_append]; simp only [List.length_cons, List.length_nil]; omega, by omega, hR', hv⟩⟩
      cases e5 : firstD (fellB B' w.1 w.2) with
      | none => exact fin _ (by rw [e5])
      | some w5 => exact fun a5 ha5 => fin _ (by rw [e5]; exact ⟨a5, ha5, rfl⟩)
  cases e : firstD B with
  | none => exact key _ (by rw [e])
  | some w => exact fun a ha => key _ (by rw [e]; exact ⟨a, ha, rfl⟩)
noncomputable def offQ (B : Bk) (w : AV) : Except String (Bk × List Str) := match pactV B w with
  | none => .error "NoPact"
  | some e => if e.2.state = .opn then .ok (dragAll B.pacts.length (fellB B e.1 e.2) [e.2.name]) else .error "NotOpen"
set_option tactic.hygienic false in
theorem off_raw {w : AV} (hU0 : P.fns.lookup "Book.call_off" = some BK.f_Book_call_off) (hU : P.fns.lookup "Book.dragged" = some BK.f_Book_dragged) (hU1 : P.fns.lookup "Book.first_dragged" = some BK.f_Book_first_dragged) (hU2 : P.fns.lookup "Book.fell" = some BK.f_Book_fell) (hU3 : P.fns.lookup "Book.given_back" = some BK.f_Book_given_back)
    (ib : IsBook o H b f s p as B) (ok : BkOK B) (hw : Kn H w)
    (q : match offQ B w with | .ok r => ∀ z o' H', H z = none → o' z = none → H' z = some (.list (txs r.2)) → IsBook o' H' b f s p as r.1 → Fr1 o H o' H' → Q (.ref z) H' | .error cl => E cl H) : CallOK c (n + 4) true "Book.call_off" [.ref b, w] Q E H := by
  refine G.call (F := BK.f_Book_call_off) hU0 rfl ?_
  have hM : c.P.meths = BK.meths := by rw [G.hP, U.a.meths]
  show wpSs _ _ _ _ _ [some (.ref b), some w] _
  refine w_st fun K nx => ?_
  rw [w_ret]
  refine at_meth hM (by decide) (by decide) ib rfl ?_
  rw [xs_cons, x_list, xs_cons]
  refine at_meth hM (by decide) (by decide) ib rfl ?_
  rw [xs_cons]
  refine at_meth hM (by decide) (by decide) ib rfl ?_
  rw [xs_cons, x_var]
  refine need_open_ok G U ib hw ?_
  unfold offQ at q
  cases e : pactV B w with
  | none => rw [e] at q; exact q
  | some x =>
    rw [e] at q
    have hj := pactV_get (j := x.1) (x := x.2) e
    show if x.2.state = .opn then _ else _
    by_cases ho : x.2.state = .opn
    · rw [if_pos ho]
      dsimp only at q
      rw [if_pos ho] at q
      intro a ha ip
      rw [xs_nil]
      refine fell_ok G U hU2 hU3 ib ok hj ha fun o1 H1 ib1 f1 => ?_
      rw [xs_nil]
      intro z hz
      rw [xs_nil]
      obtain ⟨ib2, f2⟩ := ib1.fresh hz (.list (txs [x.2.name]))
      refine dragged_ok G U (l := [x.2.name]) hU hU1 hU2 hU3 ib2 (ok.fell hj) up_same (if_pos rfl) (by simp) fun z' o' H' h1 h2 h3 h4 h5 => ?_
      rw [fell_len] at h3 h4
      exact q z' o' H' ((f1.trans f2).gr z' h1) h2 h3 h4 ((f1.trans f2).trans h5)
    · rw [if_neg ho]
      dsimp only at q
      rw [if_neg ho] at q
      exact q
end
end Mine

end
section
open PySem PySem.W PyProof.Rows PySem.Spec PySem.SeqAt PySem.Calls
namespace Mine
structure Kv (v : AV) : Prop where
  nr : ∀ a, v ≠ .ref a
  len : ∀ s, v = .str s → s.length < 2 ^ 62
set_option tactic.hygienic false in
theorem Kv.kn {v : AV} (h : Kv v) {H : AHeap} : Kn H v := by
  refine ⟨?_, h.len⟩
  cases v with
  | ref a => exact absurd rfl (h.nr a)
  | _ => exact ⟨_, rfl⟩
noncomputable def pairsF (B : Bk) : List (AV × AV) → List (Str × Int) → Except String (List (Str × Int))
  | [], acc => .ok acc
  | e :: r, acc => if purseB B e.1 then (if keyOf e.1 ∈ acc.map (·.1) then .error "Twice" else if amountB e.2 then pairsF B r (acc ++ [(keyOf e.1, intOf e.2)]) else .error "NoAmount") else .error "NoPurse"
noncomputable def pairsQ (B : Bk) (l : List (AV × AV)) : Except String (List (Str × Int)) := if 1 ≤ l.length ∧ l.length ≤ 8 then pairsF B l [] else .error "NoRow"
noncomputable def pairsG (o : Addr → Option Role) (H : AHeap) : List Addr → List (AV × AV) → Prop
  | [], [] => True
  | t :: ts, e :: l => (o t = none ∧ H t = some (.tuple [e.1, e.2]) ∧ Kv e.1 ∧ Kv e.2) ∧ pairsG o H ts l
  | _, _ => False
noncomputable def pairsU (H0 : AHeap) (o : Addr → Option Role) (H : AHeap) : List Addr → List (Str × Int) → Prop
  | [], [] => True
  | t :: ts, e :: l => (H0 t = none ∧ o t = none ∧ H t = some (.tuple [.str e.1, .int e.2])) ∧ pairsU H0 o H ts l
  | _, _ => False
section
variable {o o' : Addr → Option Role} {H H' H0 : AHeap}
set_option tactic.hygienic false in
theorem pairsG_get : ∀ {ts : List Addr} {l : List (AV × AV)} {m : Nat} {t : Addr}, pairsG o H ts l → ts[m]? = some t → ∃ e, l[m]? = some e ∧ o t = none ∧ H t = some (.tuple [e.1, e.2]) ∧ Kv e.1 ∧ Kv e.2
  | _ :: _, e :: _, 0, _, h, z => by cases z; exact ⟨e, rfl, h.1⟩
  | _ :: ts, _ :: l, m + 1, _, h, z => pairsG_get (m := m) h.2 z
  | [], [], _, _, _, z => by cases z
  | [], _ :: _, _, _, h, _ => h.elim
  | _ :: _, [], _, _, h, _ => h.elim
theorem pairsG_len : ∀ {ts : List Addr} {l : List (AV × AV)}, pairsG o H ts l → ts.length = l.length
  | [], [], _ => rfl
  | _ :: _, _ :: _, h => congrArg Nat.succ (pairsG_len h.2)
  | [], _ :: _, h => h.elim
  | _ :: _, [], h => h.elim
theorem pairsU.keep (k : ∀ t v, H0 t = none → o t = none → H t = some (.tuple v) → o' t = none ∧ H' t = some (.tuple v)) : ∀ {ts : List Addr} {l : List (Str × Int)}, pairsU H0 o H ts l → pairsU H0 o' H' ts l
  | [], [], _ => trivial
  | t :: _, _ :: _, h => ⟨⟨h.1.1, k t _ h.1.1 h.1.2.1 h.1.2.2⟩, pairsU.keep k h.2⟩
  | [], _ :: _, h => h.elim
  | _ :: _, [], h => h.elim
theorem pairsU.snoc {t : Addr} {e : Str × Int} (h0 : H0 t = none ∧ o t = none ∧ H t = some (.tuple [.str e.1, .int e.2])) : ∀ {ts : List Addr} {l : List (Str × Int)}, pairsU H0 o H ts l → pairsU H0 o H (ts ++ [t]) (l ++ [e])
  | [], [], _ => ⟨h0, trivial⟩
  | _ :: _, _ :: _, h => ⟨h.1, pairsU.snoc h0 h.2⟩
  | [], _ :: _, h => h.elim
  | _ :: _, [], h => h.elim
theorem pairsU_len : ∀ {ts : List Addr} {l : List (Str × Int)}, pairsU H0 o H ts l → ts.length = l.length
  | [], [], _ => rfl
  | _ :: _, _ :: _, h => congrArg Nat.succ (pairsU_len h.2)
  | [], _ :: _, h => h.elim
  | _ :: _, [], h => h.elim
set_option tactic.hygienic false in
theorem Fr1.upF {z : Addr} {y : AObj} (fr : Fr1 o H o' H') (hz : H z = none) : Fr1 o H o' (up H' z y) :=
  ⟨fun a v h k => ⟨by rw [up_other (fun e => by rw [e, hz] at h; cases h)]; exact (fr.old a v h k).1, (fr.old a v h k).2⟩, fun a h => fr.gr a (up_gr h)⟩
end
inductive PairI (B : Bk) (o : Addr → Option Role) (H : AHeap) (b f s p : Addr) (as : List Addr) (l : List (AV × AV)) (R : Except String (List (Str × Int))) (v1 : Option AV) (z sd : Addr) (m : Nat) (V' : VV) (H' : AHeap) : Prop
  | mk (o' : Addr → Option Role) (acc : List (Str × Int)) (ts : List Addr) (ep : Nat) (pr : Option AV) (hV : V' = [some (.ref b), v1, some (.ref z), some (.ref sd), pr]) (ib : IsBook o' H' b f s p as B) (fr : Fr1 o H o' H') (hz : H' z = some (.list (ts.map .ref))) (hzo : o' z = none) (hs : H' sd = some (.dict ep ((acc.map (·.1)).map fun k => (k, .bool true)))) (hso : o' sd = none)
      (pu : pairsU H o' H' ts acc) (hl : acc.length = m) (hR : pairsF B (l.drop m) acc = R) : PairI B o H b f s p as l R v1 z sd m V' H'
section
variable {c : Cx} {P : Pg} (G : Gd c P) (U : HasP P) {n : Nat} {md : Bool} {Q : AV → AHeap → Prop} {E : String → AHeap → Prop} {H : AHeap} {o : Addr → Option Role} {b f s p a : Addr} {as : List Addr} {B : Bk} {j : Nat} {x : Pc}
theorem tup0 {H : AHeap} {Q : AV → AHeap → Prop} {t : Addr} {v w : AV} (h : H t = some (.tuple [v, w])) (q : Q v H) : wsub (.ref t) (.int 0) Q H := sub_tup h (by decide) rfl (by simp) q
theorem tup1 {H : AHeap} {Q : AV → AHeap → Prop} {t : Addr} {v w : AV} (h : H t = some (.tuple [v, w])) (q : Q w H) : wsub (.ref t) (.int 1) Q H := sub_tup h (by decide) rfl (by simp) q
include G U
set_option tactic.hygienic false in
theorem pairs_of_ok {pl : Addr} {ts : List Addr} {l : List (AV × AV)} (hU : P.fns.lookup "Book.pairs_of" = some BK.f_Book_pairs_of) (ib : IsBook o H b f s p as B) (hp : H pl = some (.list (ts.map .ref))) (hpo : o pl = none) (hg : pairsG o H ts l) (hll : l.length ≤ 1000)
    (q : match pairsQ B l with | .ok r => (∀ z ts o' H', H z = none → o' z = none → H' z = some (.list (ts.map .ref)) → pairsU H o' H' ts r → IsBook o' H' b f s p as B → Fr1 o H o' H' → Q (.ref z) H') | .error cl => ∀ o' H', IsBook o' H' b f s p as B → Fr1 o H o' H' → E cl H') : CallOK c (n + 3) true "Book.pairs_of" [.ref b, .ref pl] Q E H := by
  refine G.call (F := BK.f_Book_pairs_of) hU rfl ?_
  have hM : c.P.meths = BK.meths := by rw [G.hP, U.a.meths]
  have hgl : c.P.consts.lookup "MOST" = some (.int 8) := by rw [G.hP, U.a.consts]; rfl
  have hlen := pairsG_len hg
  show wpSs _ _ _ _ _ [some (.ref b), some (.ref pl), none, none, none] _
  unfold pairsQ at q
  refine w_st fun K nx => ?_
  rw [w_ite, x_not, x_cmp2, x_lit, x_prim, xs_cons, x_var]
  show wpXs _ [] _ _ _ _
  rw [xs_nil, p_lenr, hp]
  refine ⟨by rw [List.length_map]; omega, ?_⟩
  rw [List.length_map, hlen, c_le, t_bool]
  by_cases h1 : 1 ≤ l.length
  case neg =>
    rw [if_neg (fun h => h1 h.1)] at q
    rw [decide_eq_false (by omega)]
    exact ⟨rfl, q o H ib .refl⟩
  rw [decide_eq_true (by omega), if_pos rfl, x_glob]
  show match c.P.consts.lookup "MOST" with | some v => _ | none => False
  rw [hgl]
  show wcmp .LtE (.int l.length) (.int 8) _ _
  rw [c_le]
  by_cases h2 : l.length ≤ 8
  case neg =>
    rw [if_neg (fun h => h2 h.2)] at q
    rw [decide_eq_false (by omega)]
    exact ⟨rfl, q o H ib .refl⟩
  rw [decide_eq_true (by omega)]
  rw [if_pos ⟨h1, h2⟩] at q
  refine nx _ _ ?_
  refine w_st fun K nx => ?_
  rw [w_asg, x_list, xs_nil]
  intro z hz
  refine ⟨show 2 < 5 by decide, nx _ _ ?_⟩
  obtain ⟨ib1, f1⟩ := ib.fresh hz (.list [])
  refine w_st fun K nx => ?_
  rw [w_asg, x_dict0]
  intro sd hsd
  refine ⟨show 3 < 5 by decide, nx _ _ ?_⟩
  obtain ⟨ib2, f2⟩ := ib1.fresh hsd (.dict 0 [])
  have hzs : z ≠ sd := ne_up hsd
  have hsd0 : H sd = none := up_gr hsd
  refine w_st fun K nx => ?_
  rw [s_for', x_var]
  refine ⟨rfl, ?_⟩
  show WFor _ _ (.ref pl) _ _
  have fr2 := f1.trans f2
  obtain ⟨hp2, hpo2⟩ := fr2.old _ _ hp hpo
  refine wforI (xs := ts.map .ref) (by simp only [itemsOf, hp2]) (PairI B o H b f s p as l (pairsF B l []) (some (.ref pl)) z sd) ⟨_, [], [], 0, none, rfl, ib2, fr2, by rw [up_other hzs, up_same]; rfl, by rw [if_neg hzs, if_pos rfl], up_same, if_pos rfl, trivial, rfl, rfl⟩ ?_
  rintro I hI m V' H' ⟨o', acc, us, ep, pr, rfl, ib', fr', hz', hzo', hs', hso', pu, hlm, hR⟩
  refine ⟨by show H' pl = _; rw [(fr'.old _ _ hp hpo).1, hp2], fun hm => ?_, fun y hy => ?_⟩
  · rw [List.length_map, hlen] at hm
    rw [hm, List.drop_length] at hR
    rw [← hR] at q
    exact nx _ _ (q z us o' H' hz hzo' hz' pu ib' fr')
  rw [List.getElem?_map, Option.map_eq_some_iff] at hy
  obtain ⟨t, ht, rfl⟩ := hy
  obtain ⟨e, he, hto, htt, kv1, kv2⟩ := pairsG_get hg ht
  obtain ⟨htt', _⟩ := fr'.old _ _ htt hto
  have hdrop : l.drop m = e :: l.drop (m + 1) := by
    obtain ⟨hlt, hee⟩ := List.getElem?_eq_some_iff.mp he
    rw [← hee]; exact List.drop_eq_getElem_cons hlt
  rw [hdrop, pairsF] at hR
  refine ⟨show 4 < 5 by decide, ?_⟩
  refine w_st fun K2 nx2 => ?_
  show wpS _ _ _ _ _ [some (.ref b), some (.ref pl), some (.ref z), some (.ref sd), some (.ref t)] _
  rw [s_expr']
  refine at_meth hM (by decide) (by decide) ib' rfl ?_
  rw [xs_cons, x_sub]
  refine tup0 htt' ?_
  rw [xs_nil]
  refine need_purse_ok G U.a ib' kv1.kn ?_
  cases hpb : purseB B e.1 with
  | false =>
    rw [hpb] at hR
    rw [← hR] at q
    exact q o' H' ib' fr'
  | true =>
  obtain ⟨k, hk⟩ : ∃ k, e.1 = .str k := ⟨_, (purse_name hpb).1⟩
  rw [hpb, if_pos rfl] at hR
  rw [hk] at htt' hR
  have hkk : keyOf (.str k) = k := rfl
  rw [hkk] at hR
  refine nx2 _ _ ?_
  refine w_st fun K2 nx2 => ?_
  rw [w_ite, x_cmp, x_sub]
  refine tup0 htt' ?_
  rw [x_var]
  show wcmp .In (.str k) (.ref sd) _ _
  rw [c_in, in_ref, hs']
  show wtruth (.bool (lookS ((acc.map (·.1)).map fun k => (k, .bool true)) k).isSome) _ _
  rw [look_ins, t_bool]
  by_cases hin : k ∈ acc.map (·.1)
  · rw [if_pos hin] at hR
    rw [← hR] at q
    rw [decide_eq_true hin]
    exact ⟨rfl, q o' H' ib' fr'⟩
  rw [if_neg hin] at hR
  rw [decide_eq_false hin]
  refine nx2 _ _ ?_
  refine w_st fun K2 nx2 => ?_
  rw [w_asg, x_lit, tsub, x_var]
  show wpX _ (.sub (.var 4) (.lit (.int 0))) _ _ _ _
  rw [x_sub, x_var]
  show wpX _ (.lit (.int 0)) _ _ _ _
  rw [x_lit]
  refine tup0 htt' ?_
  show match H' sd with | some (.dict _ _) => _ | _ => False
  rw [hs']
  refine ⟨by rw [List.length_map, List.length_map, hlm]; have : m < l.length := (List.getElem?_eq_some_iff.mp he).1; exact Nat.le_trans (Nat.le_of_lt (Nat.lt_of_lt_of_le this hll)) (by decide), fun ep' => nx2 _ _ ?_⟩
  rw [put_ins hin]
  have ib3 := ib'.upN hso' (.dict ep' ((acc.map (·.1) ++ [k]).map fun k => (k, .bool true)))
  have fr3 : Fr1 o H o' (up H' sd (.dict ep' ((acc.map (·.1) ++ [k]).map fun k => (k, .bool true)))) := fr'.upF hsd0
  have hz3 : up H' sd (.dict ep' ((acc.map (·.1) ++ [k]).map fun k => (k, .bool true))) z = some (.list (us.map .ref)) := by rw [up_other hzs]; exact hz'
  have hs3 : up H' sd (.dict ep' ((acc.map (·.1) ++ [k]).map fun k => (k, .bool true))) sd = some (.dict ep' ((acc.map (·.1) ++ [k]).map fun k => (k, .bool true))) := up_same
  have pu3 : pairsU H o' (up H' sd (.dict ep' ((acc.map (·.1) ++ [k]).map fun k => (k, .bool true)))) us acc := pu.keep fun t v _ h1 h2 => ⟨h1, by rw [up_other (fun e => by rw [e, hs'] at h2; cases h2)]; exact h2⟩
  generalize up H' sd (.dict ep' ((acc.map (·.1) ++ [k]).map fun k => (k, .bool true))) = H3 at ib3 fr3 hz3 hs3 pu3
  obtain ⟨htt3, _⟩ := fr3.old _ _ htt hto
  rw [hk] at htt3
  refine w_st fun K2 nx2 => ?_
  rw [s_expr', x_bm, x_var]
  refine ⟨?_, ?_⟩
  · show match H3 z with | some (.list _) => _ | some (.dict _ _) => _ | _ => False
    rw [hz3]; exact .inl rfl
  rw [xs_cons, x_tup, xs_cons, x_sub]
  refine tup0 htt3 ?_
  rw [xs_cons, x_call, xs_cons, x_sub]
  refine tup1 htt3 ?_
  rw [xs_nil]
  refine amount_ok G U.a kv2.kn ?_
  cases hab : amountB e.2 with
  | false =>
    rw [hab] at hR
    rw [← hR] at q
    exact q o' H3 ib3 fr3
  | true =>
  obtain ⟨i, hi⟩ : ∃ i, e.2 = .int i := ⟨_, amount_int hab⟩
  rw [hab, if_pos rfl] at hR
  rw [hi] at hR ⊢
  rw [if_pos rfl, xs_nil]
  intro t4 ht4
  obtain ⟨ib4, f4⟩ := ib3.fresh ht4 (.tuple [.str k, .int i])
  have fr4 := fr3.trans f4
  obtain ⟨hz4, hzo4⟩ := f4.old _ _ hz3 hzo'
  obtain ⟨hs4, hso4⟩ := f4.old _ _ hs3 hso'
  have pu4 := pu3.keep (H0 := H) (H' := up H3 t4 (.tuple [.str k, .int i])) (o' := fun a => if a = t4 then none else o' a) fun t v _ h1 h2 => ⟨(f4.old _ _ h2 h1).2, (f4.old _ _ h2 h1).1⟩
  have pu5 := pu4.snoc (t := t4) (e := (k, i)) ⟨fr3.gr t4 ht4, if_pos rfl, up_same⟩
  rw [xs_nil]
  refine m_append hz4 (by rw [List.length_map, pairsU_len pu, hlm]; have : m < l.length := (List.getElem?_eq_some_iff.mp he).1; omega) (nx2 _ _ ?_)
  refine hI _ _ _ ⟨_, acc ++ [(k, i)], us ++ [t4], ep', some (.ref t), rfl, ib4.upN hzo4 _, fr4.upF hz, by rw [up_same, List.map_append]; rfl, hzo4, by rw [up_other hzs.symm, hs4, List.map_append (f := fun x : Str × Int => x.1)]; rfl, hso4, pu5.keep fun t v _ h1 h2 => ⟨h1, by rw [up_other (fun e => by rw [e, hz4] at h2; cases h2)]; exact h2⟩, by rw [List.length_append, hlm]; rfl, hR⟩
end
end Mine

end
section
open PySem PySem.W PyProof.Rows PySem.Spec PySem.SeqAt PySem.Calls
namespace Mine
noncomputable def needsF (B : Bk) : List AV → List Str → Except String Unit
  | [], _ => .ok ()
  | v :: r, seen => if nameB v then (if keyOf v ∈ seen then .error "Twice" else if fallenB B (keyOf v) then .error "Fallen" else needsF B r (seen ++ [keyOf v])) else .error "NoName"
noncomputable def needsQ (B : Bk) (k : Str) (l : List AV) : Except String Unit := if l.length ≤ 8 then needsF B l [k] else .error "NoRow"
set_option tactic.hygienic false in
theorem needsF_txs {B : Bk} : ∀ {l : List AV} {seen : List Str}, needsF B l seen = .ok () → l = txs (l.map keyOf)
  | [], _, _ => rfl
  | v :: r, seen, h => by
    unfold needsF at h
    by_cases hn : nameB v = true
    · rw [if_pos hn] at h
      split at h
      · cases h
      · split at h
        · cases h
        · have := needsF_txs h
          rw [List.map_cons]
          show v :: r = .str (keyOf v) :: txs (r.map keyOf)
          rw [← name_key hn, ← this]
    · rw [if_neg hn] at h; cases h
inductive NeedI (B : Bk) (o : Addr → Option Role) (H : AHeap) (b f s p : Addr) (as : List Addr) (l : List AV) (R : Except String Unit) (v1 v2 : Option AV) (sd : Addr) (m : Nat) (V' : VV) (H' : AHeap) : Prop
  | mk (o' : Addr → Option Role) (seen : List Str) (ep : Nat) (pr : Option AV) (hV : V' = [some (.ref b), v1, v2, some (.ref sd), pr]) (ib : IsBook o' H' b f s p as B) (fr : Fr1 o H o' H') (hs : H' sd = some (.dict ep (seen.map fun k => (k, .bool true)))) (hso : o' sd = none) (hl : seen.length = m + 1) (hR : needsF B (l.drop m) seen = R) : NeedI B o H b f s p as l R v1 v2 sd m V' H'
section
variable {c : Cx} {P : Pg} (G : Gd c P) (U : HasP P) {n : Nat} {md : Bool} {Q : AV → AHeap → Prop} {E : String → AHeap → Prop} {H : AHeap} {o : Addr → Option Role} {b f s p a : Addr} {as : List Addr} {B : Bk} {j : Nat} {x : Pc}
include G U
set_option tactic.hygienic false in
theorem needs_of_ok {nl : Addr} {l : List AV} {kn : Str} (hU : P.fns.lookup "Book.needs_of" = some BK.f_Book_needs_of) (ib : IsBook o H b f s p as B) (hp : H nl = some (.list l)) (hpo : o nl = none) (hg : ∀ v ∈ l, Kv v) (hll : l.length ≤ 1000)
    (q : match needsQ B kn l with | .ok _ => (∀ z o' H', H z = none → o' z = none → H' z = some (.list l) → IsBook o' H' b f s p as B → Fr1 o H o' H' → Q (.ref z) H') | .error cl => ∀ o' H', IsBook o' H' b f s p as B → Fr1 o H o' H' → E cl H') : CallOK c (n + 3) true "Book.needs_of" [.ref b, .str kn, .ref nl] Q E H := by
  refine G.call (F := BK.f_Book_needs_of) hU rfl ?_
  have hA : c.P.attrs = BK.attrs := by rw [G.hP, U.a.attrs]
  have hgl : c.P.consts.lookup "MOST" = some (.int 8) := by rw [G.hP, U.a.consts]; rfl
  show wpSs _ _ _ _ _ [some (.ref b), some (.str kn), some (.ref nl), none, none] _
  unfold needsQ at q
  refine w_st fun K nx => ?_
  rw [w_ite, x_cmp, x_prim, xs_cons, x_var]
  show wpXs _ [] _ _ _ _
  rw [xs_nil, p_lenr, hp]
  refine ⟨by omega, ?_⟩
  rw [x_glob]
  show match c.P.consts.lookup "MOST" with | some v => _ | none => False
  rw [hgl]
  show wcmp .Gt (.int l.length) (.int 8) _ _
  rw [c_gt, t_bool]
  by_cases h2 : l.length ≤ 8
  case neg =>
    rw [if_neg h2] at q
    rw [decide_eq_true (by omega)]
    exact ⟨rfl, q o H ib .refl⟩
  rw [decide_eq_false (by omega)]
  rw [if_pos h2] at q
  refine nx _ _ ?_
  refine w_st fun K nx => ?_
  rw [w_asg, x_dict1, x_var]
  show ∀ a ep, H a = none → _
  intro sd ep0 hsd
  refine ⟨show 3 < 5 by decide, nx _ _ ?_⟩
  obtain ⟨ib2, fr2⟩ := ib.fresh hsd (.dict ep0 [(kn, .bool true)])
  refine w_st fun K nx => ?_
  rw [s_for', x_var]
  refine ⟨rfl, ?_⟩
  show WFor _ _ (.ref nl) _ _
  obtain ⟨hp2, hpo2⟩ := fr2.old _ _ hp hpo
  refine wforI (xs := l) (by simp only [itemsOf, hp2]) (NeedI B o H b f s p as l (needsF B l [kn]) (some (.str kn)) (some (.ref nl)) sd) ⟨_, [kn], ep0, none, rfl, ib2, fr2, up_same, if_pos rfl, rfl, rfl⟩ ?_
  rintro I hI m V' H' ⟨o', seen, ep, pr, rfl, ib', fr', hs', hso', hlm, hR⟩
  obtain ⟨hp', hpo'⟩ := fr'.old _ _ hp hpo
  refine ⟨by show H' nl = _; rw [hp', hp2], fun hm => ?_, fun v hv => ?_⟩
  · rw [hm, List.drop_length] at hR
    rw [← hR] at q
    refine nx _ _ ?_
    refine w_st fun K nx => ?_
    rw [w_ret, x_prim, xs_cons, x_var]
    show wpXs _ [] _ _ _ _
    rw [xs_nil, p_listr, hp']
    refine ⟨Nat.le_trans hll (by decide), fun z hz => ?_⟩
    obtain ⟨ib3, f3⟩ := ib'.fresh hz (.list l)
    exact q z _ _ (fr'.gr z hz) (if_pos rfl) up_same ib3 (fr'.trans f3)
  have hdrop : l.drop m = v :: l.drop (m + 1) := by
    obtain ⟨hlt, hee⟩ := List.getElem?_eq_some_iff.mp hv
    rw [← hee]; exact List.drop_eq_getElem_cons hlt
  have hmlt : m < l.length := (List.getElem?_eq_some_iff.mp hv).1
  rw [hdrop, needsF] at hR
  refine ⟨show 4 < 5 by decide, ?_⟩
  refine w_st fun K2 nx2 => ?_
  show wpS _ _ _ _ _ [some (.ref b), some (.str kn), some (.ref nl), some (.ref sd), some v] _
  rw [s_expr', x_call, xs_cons, x_var]
  show CallOK _ _ _ _ [v] _ _ _
  refine name_ok G U.a (hg v (List.mem_of_getElem? hv)).kn ?_
  cases hn : nameB v with
  | false =>
    rw [hn] at hR
    rw [← hR] at q
    exact q o' H' ib' fr'
  | true =>
  obtain ⟨k, rfl⟩ : ∃ k, v = .str k := ⟨_, name_key hn⟩
  rw [hn, if_pos rfl] at hR
  have hkk : keyOf (.str k) = k := rfl
  rw [hkk] at hR
  refine nx2 _ _ ?_
  refine w_st fun K2 nx2 => ?_
  rw [w_ite, x_cmp, x_var]
  show wpX _ (.var 3) _ _ _ _
  rw [x_var]
  show wcmp .In (.str k) (.ref sd) _ _
  rw [c_in, in_ref, hs']
  show wtruth (.bool (lookS (seen.map fun k => (k, .bool true)) k).isSome) _ _
  rw [look_ins, t_bool]
  by_cases hin : k ∈ seen
  · rw [if_pos hin] at hR
    rw [← hR] at q
    rw [decide_eq_true hin]
    exact ⟨rfl, q o' H' ib' fr'⟩
  rw [if_neg hin] at hR
  rw [decide_eq_false hin]
  refine nx2 _ _ ?_
  refine w_st fun K2 nx2 => ?_
  rw [w_asg, x_lit, tsub, x_var]
  show wpX _ (.var 4) _ _ _ _
  rw [x_var]
  show match H' sd with | some (.dict _ _) => _ | _ => False
  rw [hs']
  refine ⟨by rw [List.length_map, hlm]; exact Nat.le_trans (Nat.le_trans (Nat.succ_le_of_lt hmlt) hll) (by decide), fun ep' => nx2 _ _ ?_⟩
  rw [put_ins hin]
  have ib3 := ib'.upN hso' (.dict ep' ((seen ++ [k]).map fun k => (k, .bool true)))
  have fr3 : Fr1 o H o' (up H' sd (.dict ep' ((seen ++ [k]).map fun k => (k, .bool true)))) := fr'.upF hsd
  have hs3 : up H' sd (.dict ep' ((seen ++ [k]).map fun k => (k, .bool true))) sd = some (.dict ep' ((seen ++ [k]).map fun k => (k, .bool true))) := up_same
  generalize up H' sd (.dict ep' ((seen ++ [k]).map fun k => (k, .bool true))) = H3 at ib3 fr3 hs3
  refine w_st fun K2 nx2 => ?_
  rw [w_ite, x_ao, ao_cons, x_cmp, x_var]
  refine at_pacts hA ib3 rfl ?_
  rw [c_in]
  refine in_pacts ib3 ?_
  have nextI : fallenB B k = false → I (m + 1) [some (.ref b), some (.str kn), some (.ref nl), some (.ref sd), some (.str k)] H3 := fun h => hI _ _ _ ⟨o', seen ++ [k], ep', _, rfl, ib3, fr3, hs3, hso', by rw [List.length_append, hlm]; rfl, by rw [if_neg (by rw [h]; decide)] at hR; exact hR⟩
  cases e : pAt B.pacts k with
  | none => exact nx2 _ _ (nextI (by unfold fallenB; rw [e]))
  | some w =>
  show wpAO _ true [_] _ _ _ _
  rw [ao_one, x_cmp]
  obtain ⟨a', ha', ip'⟩ := pactsAt_get ib3.ps (pAt_get (j := w.1) (q := w.2) e).1
  rw [Nat.zero_add] at ip'
  refine pa_stateX hA ip' (fun Q' h => ?_) ?_
  · rw [x_sub]
    refine at_pacts hA ib3 rfl ?_
    rw [x_var]
    exact sub_pacts ib3 (j := w.1) (x := w.2) e fun a'' h'' _ => by rw [ha'] at h''; cases h''; exact h
  rw [x_lit, c_eqs, t_bool, sta_fln]
  have hfb : fallenB B k = (w.2.state == .fln) := by unfold fallenB; rw [e]
  cases hw : w.2.state == Sta.fln with
  | false => exact nx2 _ _ (nextI (hfb.trans hw))
  | true =>
    rw [if_pos (hfb.trans hw)] at hR
    rw [← hR] at q
    exact ⟨rfl, q o' H3 ib3 fr3⟩
set_option tactic.hygienic false in
omit U in
theorem pinit_ok {k : Str} {pa ga ne : Addr} {i : Int} (hU : P.fns.lookup "Pact.__init__" = some BK.f_Pact___init__) (hA : c.P.attrs = BK.attrs) (h : H a = some (.inst "Pact" []))
    (q : ∀ w H', H w = none → H' a = some (.inst "Pact" [("name", .str k), ("parts", .ref pa), ("gains", .ref ga), ("needs", .ref ne), ("last", .int i), ("state", .str (Str.ofString "open")), ("inside", .ref w)]) → H' w = some (.dict 0 []) → (∀ y, y ≠ a → y ≠ w → H' y = H y) → Q .none H') : CallOK c (n + 1) true "Pact.__init__" [.ref a, .str k, .ref pa, .ref ga, .ref ne, .int i] Q E H := by
  refine G.call (F := BK.f_Pact___init__) hU rfl ?_
  have hC : ∀ n, BK.attrs.contains ("Pact", n) = true → c.P.attrs.contains ("Pact", n) = true := fun n h => by rw [hA]; exact h
  show wpSs _ _ _ _ _ [some (.ref a), some (.str k), some (.ref pa), some (.ref ga), some (.ref ne), some (.int i)] _
  refine w_st fun K nx => ?_
  rw [w_asg, x_var]
  refine st_a rfl (hC _ rfl) h (by exact (show 0 ≤ 100 by decide)) (nx _ _ ?_)
  refine w_st fun K nx => ?_
  rw [w_asg, x_var]
  refine st_a rfl (hC _ rfl) up_same (by exact (show 1 ≤ 100 by decide)) (nx _ _ ?_)
  refine w_st fun K nx => ?_
  rw [w_asg, x_var]
  refine st_a rfl (hC _ rfl) up_same (by exact (show 2 ≤ 100 by decide)) (nx _ _ ?_)
  refine w_st fun K nx => ?_
  rw [w_asg, x_var]
  refine st_a rfl (hC _ rfl) up_same (by exact (show 3 ≤ 100 by decide)) (nx _ _ ?_)
  refine w_st fun K nx => ?_
  rw [w_asg, x_var]
  refine st_a rfl (hC _ rfl) up_same (by exact (show 4 ≤ 100 by decide)) (nx _ _ ?_)
  refine w_st fun K nx => ?_
  rw [w_asg, x_lit]
  refine st_a rfl (hC _ rfl) up_same (by exact (show 5 ≤ 100 by decide)) (nx _ _ ?_)
  refine w_st fun K nx => ?_
  rw [w_asg, x_dict0]
  intro w hw
  have haw : a ≠ w := ne_up hw
  refine st_a rfl (hC _ rfl) (by rw [up_other haw, up_same]) (by exact (show 6 ≤ 100 by decide)) (nx _ _ ?_)
  refine q w _ (up_gr (up_gr (up_gr (up_gr (up_gr (up_gr hw)))))) up_same (by rw [up_other haw.symm, up_same]) fun y h1 h2 => ?_
  rw [up_other h1, up_other h2, up_other h1, up_other h1, up_other h1, up_other h1, up_other h1, up_other h1]
end
end Mine

end
section
open PySem PySem.W PyProof.Rows PySem.Spec PySem.SeqAt PySem.Calls
namespace Mine
noncomputable def sumL (l : List (Str × Int)) : Int := (l.map (·.2)).sum
noncomputable def tellQ (B : Bk) (v : AV) (pl gl : List (AV × AV)) (nl : List AV) (last : AV) : Except String Bk :=
  if nameB v then
    if (pAt B.pacts (keyOf v)).isSome then .error "Taken" else
    match pairsQ B pl with
    | .error e => .error e
    | .ok ps => match pairsQ B gl with
      | .error e => .error e
      | .ok gs => if sumL ps ≠ sumL gs then .error "Uneven" else
        match needsQ B (keyOf v) nl with
        | .error e => .error e
        | .ok _ => if wholeB last = true ∧ ¬ intOf last < B.day then .ok { B with pacts := B.pacts ++ [⟨keyOf v, ps, gs, nl.map keyOf, intOf last, .opn, []⟩] } else .error "NoDay"
  else .error "NoName"
noncomputable def snd2 (H : AHeap) : AV → Option AV
  | .ref t => (match H t with | some (.tuple [_, w]) => some w | _ => none)
  | _ => none
set_option tactic.hygienic false in
theorem snd2_ref {H : AHeap} {t : Addr} {u w : AV} (h : H t = some (.tuple [u, w])) : snd2 H (.ref t) = some w := by
  show (match H t with | some (.tuple [_, w]) => some w | _ => none) = _
  rw [h]
section
variable {o o' : Addr → Option Role} {H H' H0 : AHeap}
theorem Fr1.ext (h : Ext H H') : Fr1 o H o H' := ⟨fun a v e k => ⟨h a v e, k⟩, fun a e => h.none e⟩
theorem IsBook.ext {b f s p : Addr} {as : List Addr} {B : Bk} (ib : IsBook o H b f s p as B) (h : Ext H H') : IsBook o H' b f s p as B := ib.congr fun a r v _ hr hv _ => ⟨hr, h a v hv⟩
theorem pairsU.ext {ts : List Addr} {l : List (Str × Int)} (h : pairsU H0 o H ts l) (hE : Ext H H') : pairsU H0 o H' ts l := h.keep fun t v _ h1 h2 => ⟨h1, hE _ _ h2⟩
set_option tactic.hygienic false in
theorem pairsU_vals : ∀ {ts : List Addr} {l : List (Str × Int)}, pairsU H0 o H ts l → ((ts.map AV.ref).filterMap (snd2 H)) = (l.map (·.2)).map AV.int
  | [], [], _ => rfl
  | t :: ts, e :: l, h => by
    rw [List.map_cons, List.filterMap_cons, List.map_cons, List.map_cons, ← pairsU_vals h.2]
    rw [snd2_ref h.1.2.2]
  | [], _ :: _, h => h.elim
  | _ :: _, [], h => h.elim
set_option tactic.hygienic false in
theorem pairsU_mem : ∀ {ts : List Addr} {l : List (Str × Int)} {y : AV}, pairsU H0 o H ts l → y ∈ ts.map AV.ref → ∃ t k i, y = .ref t ∧ H t = some (.tuple [.str k, .int i])
  | t :: ts, e :: l, y, h, hy => by
    rcases List.mem_cons.mp hy with rfl | hy
    · exact ⟨t, _, _, rfl, h.1.2.2⟩
    · exact pairsU_mem h.2 hy
  | [], [], _, _, hy => by cases hy
  | [], _ :: _, _, h, _ => h.elim
  | _ :: _, [], _, h, _ => h.elim
set_option tactic.hygienic false in
theorem pairsU_in : ∀ {ts : List Addr} {l : List (Str × Int)} {t : Addr}, pairsU H0 o H ts l → t ∈ ts → H0 t = none ∧ o t = none ∧ ∃ v, H t = some (.tuple v)
  | t :: ts, e :: l, y, h, hy => by
    rcases List.mem_cons.mp hy with rfl | hy
    · exact ⟨h.1.1, h.1.2.1, _, h.1.2.2⟩
    · exact pairsU_in h.2 hy
  | [], [], _, _, hy => by cases hy
  | [], _ :: _, _, h, _ => h.elim
  | _ :: _, [], _, h, _ => h.elim
set_option tactic.hygienic false in
theorem pairsU.own (hk : ∀ t v, t ∈ ts → H t = some (.tuple v) → o' t = some .data ∧ H' t = some (.tuple v)) {l : List (Str × Int)} (h : pairsU H0 o H ts l) : pairsAV o' H' ts l := by
  induction ts generalizing l with
  | nil => cases l with
    | nil => trivial
    | cons => exact h.elim
  | cons t ts ih => cases l with
    | nil => exact h.elim
    | cons e l =>
      have := hk t _ List.mem_cons_self h.1.2.2
      exact ⟨this.1, this.2, ih (fun t v ht => hk t v (List.mem_cons_of_mem _ ht)) h.2⟩
set_option tactic.hygienic false in
theorem pactsAt_app : ∀ {i : Nat} {as : List Addr} {ps : List Pc} {a : Addr} {x : Pc}, pactsAt o H i as ps → IsPact o H (i + ps.length) a x → pactsAt o H i (as ++ [a]) (ps ++ [x]) ∧ dP (ps ++ [x]) (as ++ [a]) = dP ps as ++ [(x.name, .ref a)]
  | _, [], [], a, x, _, hx => ⟨⟨hx, trivial⟩, rfl⟩
  | i, a' :: as, q :: qs, a, x, h, hx => by
    obtain ⟨h1, h2⟩ := pactsAt_app (i := i + 1) (a := a) (x := x) h.2 (by rw [show i + 1 + qs.length = i + (q :: qs).length by simp; omega]; exact hx)
    exact ⟨⟨h.1, h1⟩, by show _ :: dP (qs ++ [x]) (as ++ [a]) = _; rw [h2]; rfl⟩
  | _, [], _ :: _, _, _, h, _ => h.elim
  | _, _ :: _, [], _, _, h, _ => h.elim
end
section
variable {c : Cx} {P : Pg} (G : Gd c P) (U : HasP P) {n : Nat} {md : Bool} {Q : AV → AHeap → Prop} {E : String → AHeap → Prop} {H : AHeap} {o : Addr → Option Role} {b f s p a : Addr} {as : List Addr} {B : Bk} {j : Nat} {x : Pc}
set_option tactic.hygienic false in
theorem sum_pairs {g : Gx} {V : VV} {i : Nat} {z : Addr} {ts : List Addr} {l : List (Str × Int)} {H0 : AHeap} (hmd : g.md = true) (hl9 : V.length = 9) (hV : V[i]? = some (some (.ref z))) (hz : H z = some (.list (ts.map .ref))) (hu : pairsU H0 o H ts l) (hl : l.length ≤ 1000)
    (q : ∀ H', Ext H H' → Q (.int (sumL l)) H') : wpX g (.prim .sum [.comp (.sub (.var 9) (.lit (.int 1))) 1 false (.var i) none]) V Q E H := by
  rw [x_prim, xs_cons, x_comp, x_var, hV]
  refine ⟨hmd, ?_⟩
  refine wcomp_ext (xs := ts.map .ref) (by simp only [itemsOf, hz]) (by rw [List.length_map, pairsU_len hu]; exact Nat.le_trans hl (by decide)) (snd2 H) (fun y hy H' hE nx hnx => ?_) fun a H' hE ha => ?_
  · obtain ⟨t, k, w, rfl, ht⟩ := pairsU_mem hu hy
    rw [if_neg (by decide), xc_none, if_pos rfl, x_sub, x_var, List.getElem?_append_right (by omega), hl9]
    show wpX g (.lit (.int 1)) _ _ _ _
    rw [x_lit]
    refine tup1 (hE _ _ ht) ?_
    have := hnx H' .refl
    rw [snd2_ref ht] at this
    exact this
  · rw [xs_nil, p_sumr, hmd, up_same]
    refine ⟨rfl, l.map (·.2), pairsU_vals hu, ?_⟩
    exact q _ (hE.new ha)
set_option tactic.hygienic false in
theorem pairsF_len {B : Bk} : ∀ {l : List (AV × AV)} {acc r : List (Str × Int)}, pairsF B l acc = .ok r → r.length = acc.length + l.length
  | [], acc, r, h => by cases h; rfl
  | e :: l, acc, r, h => by
    unfold pairsF at h
    split at h
    · split at h
      · cases h
      · split at h
        · rw [pairsF_len h, List.length_append]; simp; omega
        · cases h
    · cases h
theorem pairsQ_len {B : Bk} {l : List (AV × AV)} {r : List (Str × Int)} (h : pairsQ B l = .ok r) : r.length ≤ 1000 := by
  unfold pairsQ at h
  split at h
  · rename_i hh
    rw [pairsF_len h]; simp; omega
  · cases h
set_option tactic.hygienic false in
theorem tell_book {H0 H6 : AHeap} {o0 o : Addr → Option Role} {H : AHeap} {b f s p a w za zb zn : Addr} {as ta tb : List Addr} {B : Bk} {k : Str} {ps gs : List (Str × Int)} {ns : List Str} {i : Int} (ib : IsBook o H b f s p as B) (fr : Fr1 o0 H0 o H) (nza : H0 za = none) (nzb : H0 zb = none) (nzn : H0 zn = none) (pa : pairsU H0 o H ta ps) (pb : pairsU H0 o H tb gs) (ha : H a = none) (hw : H w = none) (haw : a ≠ w)
    (hia : H6 a = some (.inst "Pact" [("name", .str k), ("parts", .ref za), ("gains", .ref zb), ("needs", .ref zn), ("last", .int i), ("state", .str (Str.ofString "open")), ("inside", .ref w)])) (hiw : H6 w = some (.dict 0 [])) (hold : ∀ y v, H y = some v → H6 y = some v)
    (hza : H za = some (.list (ta.map .ref))) (hzao : o za = none) (hzb : H zb = some (.list (tb.map .ref))) (hzbo : o zb = none) (hzn : H zn = some (.list (txs ns))) (hzno : o zn = none) (ep : Nat) :
    ∃ o' : Addr → Option Role, IsBook o' (up H6 p (.dict ep (dP B.pacts as ++ [(k, .ref a)]))) b f s p (as ++ [a]) { B with pacts := B.pacts ++ [⟨k, ps, gs, ns, i, .opn, []⟩] } ∧ Fr1 o0 H0 o' (up H6 p (.dict ep (dP B.pacts as ++ [(k, .ref a)]))) := by
  obtain ⟨e1, hf⟩ := ib.hf
  obtain ⟨e2, hs⟩ := ib.hs
  obtain ⟨e3, hp⟩ := ib.hp
  have na : ∀ {y v}, H y = some v → y ≠ a := fun h e => by rw [e, ha] at h; cases h
  have nw : ∀ {y v}, H y = some v → y ≠ w := fun h e => by rw [e, hw] at h; cases h
  have hd : ∃ o' : Addr → Option Role, o' a = some (.pact B.pacts.length) ∧ o' w = some (.inside B.pacts.length) ∧ (∀ y v, H y = some v → (y = za ∨ y = zb ∨ y = zn ∨ y ∈ ta ∨ y ∈ tb) → o' y = some .data) ∧ (∀ y v, H y = some v → ¬ (y = za ∨ y = zb ∨ y = zn ∨ y ∈ ta ∨ y ∈ tb) → o' y = o y) := by
    refine ⟨fun y => if y = a then some (.pact B.pacts.length) else if y = w then some (.inside B.pacts.length) else if y = za ∨ y = zb ∨ y = zn ∨ y ∈ ta ∨ y ∈ tb then some .data else o y, if_pos rfl, (if_neg haw.symm).trans (if_pos rfl), fun y v h1 h2 => ?_, fun y v h1 h2 => ?_⟩
    · exact (if_neg (na h1)).trans ((if_neg (nw h1)).trans (if_pos h2))
    · exact (if_neg (na h1)).trans ((if_neg (nw h1)).trans (if_neg h2))
  obtain ⟨o', oa, ow, od, oo⟩ := hd
  have nset : ∀ {y v r}, H y = some v → o y = some r → ¬ (y = za ∨ y = zb ∨ y = zn ∨ y ∈ ta ∨ y ∈ tb) := fun {y v r} h1 h2 h => by
    rcases h with h | h | h | h | h
    · rw [h, hzao] at h2; cases h2
    · rw [h, hzbo] at h2; cases h2
    · rw [h, hzno] at h2; cases h2
    · rw [(pairsU_in pa h).2.1] at h2; cases h2
    · rw [(pairsU_in pb h).2.1] at h2; cases h2
  have keep : ∀ {y v r}, H y = some v → o y = some r → y ≠ p → o' y = some r ∧ up H6 p (.dict ep (dP B.pacts as ++ [(k, .ref a)])) y = some v := fun {y v r} h1 h2 h3 => ⟨(oo y v h1 (nset h1 h2)).trans h2, by rw [up_other h3]; exact hold y v h1⟩
  have np : ∀ {y v}, H y = some v → o y = none → y ≠ p := fun h1 h2 e => by rw [e, ib.op] at h2; cases h2
  have kd : ∀ {y v}, H y = some v → o y = none → (y = za ∨ y = zb ∨ y = zn ∨ y ∈ ta ∨ y ∈ tb) → o' y = some .data ∧ up H6 p (.dict ep (dP B.pacts as ++ [(k, .ref a)])) y = some v := fun {y v} h1 h2 h3 => ⟨od y v h1 h3, by rw [up_other (np h1 h2)]; exact hold y v h1⟩
  have pap : p ≠ a := na hp
  have pwp : p ≠ w := nw hp
  have ip : IsPact o' (up H6 p (.dict ep (dP B.pacts as ++ [(k, .ref a)]))) (0 + B.pacts.length) a ⟨k, ps, gs, ns, i, .opn, []⟩ := by
    rw [Nat.zero_add]
    refine ⟨oa, za, zb, zn, w, 0, by rw [up_other pap.symm]; exact hia, ?_, ?_, ?_, ?_, ow, by rw [up_other pwp.symm]; exact hiw⟩
    · exact ⟨(kd hza hzao (.inl rfl)).1, ta, (kd hza hzao (.inl rfl)).2, pa.own fun t v ht h => kd h (pairsU_in pa ht).2.1 (.inr (.inr (.inr (.inl ht))))⟩
    · exact ⟨(kd hzb hzbo (.inr (.inl rfl))).1, tb, (kd hzb hzbo (.inr (.inl rfl))).2, pb.own fun t v ht h => kd h (pairsU_in pb ht).2.1 (.inr (.inr (.inr (.inr ht))))⟩
    · exact (kd hzn hzno (.inr (.inr (.inl rfl)))).1
    · exact (kd hzn hzno (.inr (.inr (.inl rfl)))).2
  have nb : b ≠ p := ne_role ib.ob ib.op (by intro h; cases h)
  have nf : f ≠ p := ne_role ib.of ib.op (by intro h; cases h)
  have ns' : s ≠ p := ne_role ib.os ib.op (by intro h; cases h)
  have psk : pactsAt o' (up H6 p (.dict ep (dP B.pacts as ++ [(k, .ref a)]))) 0 as B.pacts := ib.ps.congr (P := Role.isP) (fun y r v hr h1 h2 _ => keep h2 h1 (fun e => by rw [e, ib.op] at h1; cases h1; exact hr)) trivial fun _ _ => ⟨trivial, trivial⟩
  obtain ⟨p1, p2⟩ := pactsAt_app psk ip
  refine ⟨o', ⟨(keep ib.hb ib.ob nb).1, (keep hf ib.of nf).1, (keep hs ib.os ns').1, (oo p _ hp (nset hp ib.op)).trans ib.op, (keep ib.hb ib.ob nb).2, ⟨e1, (keep hf ib.of nf).2⟩, ⟨e2, (keep hs ib.os ns').2⟩, ⟨ep, ?_⟩, p1⟩, ⟨fun y v h1 h2 => ?_, fun y h => ?_⟩⟩
  · show up H6 p _ p = some (.dict ep (dP (B.pacts ++ [_]) (as ++ [a])))
    rw [up_same, p2]
  · obtain ⟨h3, h4⟩ := fr.old y v h1 h2
    refine ⟨by rw [up_other (np h3 h4)]; exact hold y v h3, (oo y v h3 fun h => ?_).trans h4⟩
    rcases h with h | h | h | h | h
    · rw [h, nza] at h1; cases h1
    · rw [h, nzb] at h1; cases h1
    · rw [h, nzn] at h1; cases h1
    · rw [(pairsU_in pa h).1] at h1; cases h1
    · rw [(pairsU_in pb h).1] at h1; cases h1
  · refine fr.gr y ?_
    cases hy : H y with
    | none => rfl
    | some v => have := up_gr h; rw [hold y v hy] at this; cases this
include G U
set_option tactic.hygienic false in
theorem tell_raw {v last : AV} {pl gl nl : Addr} {ts us : List Addr} {pL gL : List (AV × AV)} {nL : List AV} (hU : P.fns.lookup "Book.tell" = some BK.f_Book_tell) (hU1 : P.fns.lookup "Book.pairs_of" = some BK.f_Book_pairs_of) (hU2 : P.fns.lookup "Book.needs_of" = some BK.f_Book_needs_of) (hU3 : P.fns.lookup "Pact.__init__" = some BK.f_Pact___init__) (hcl : c.P.classes.contains "Pact" = true)
    (ib : IsBook o H b f s p as B) (ok : BkOK B) (kv : Kv v) (kl : Kv last) (hp : H pl = some (.list (ts.map .ref))) (hpo : o pl = none) (hpg : pairsG o H ts pL) (hg : H gl = some (.list (us.map .ref))) (hgo : o gl = none) (hgg : pairsG o H us gL) (hn : H nl = some (.list nL)) (hno : o nl = none) (hng : ∀ v ∈ nL, Kv v)
    (l1 : pL.length ≤ 1000) (l2 : gL.length ≤ 1000) (l3 : nL.length ≤ 1000)
    (q : match tellQ B v pL gL nL last with | .ok B' => (∀ o' H' as', IsBook o' H' b f s p as' B' → Fr1 o H o' H' → Q .none H') | .error cl => ∀ o' H', IsBook o' H' b f s p as B → Fr1 o H o' H' → E cl H') : CallOK c (n + 4) true "Book.tell" [.ref b, v, .ref pl, .ref gl, .ref nl, last] Q E H := by
  refine G.call (F := BK.f_Book_tell) hU rfl ?_
  have hA : c.P.attrs = BK.attrs := by rw [G.hP, U.a.attrs]
  have hM : c.P.meths = BK.meths := by rw [G.hP, U.a.meths]
  show wpSs _ _ _ _ _ [some (.ref b), some v, some (.ref pl), some (.ref gl), some (.ref nl), some last, none, none, none] _
  unfold tellQ at q
  refine w_st fun K nx => ?_
  rw [s_expr', x_call, xs_cons, x_var]
  show CallOK _ _ _ _ [v] _ _ _
  refine name_ok G U.a kv.kn ?_
  cases hnb : nameB v with
  | false => rw [hnb] at q; exact q o H ib .refl
  | true =>
  obtain ⟨k, rfl⟩ : ∃ k, v = .str k := ⟨_, name_key hnb⟩
  have hkk : keyOf (.str k) = k := rfl
  rw [hnb, if_pos rfl, hkk] at q
  refine nx _ _ ?_
  refine w_st fun K nx => ?_
  rw [w_ite, x_cmp, x_var]
  refine at_pacts hA ib rfl ?_
  rw [c_in]
  refine in_pacts ib ?_
  cases e : pAt B.pacts k with
  | some w =>
    rw [e] at q
    exact ⟨rfl, q o H ib .refl⟩
  | none =>
  rw [e] at q
  rw [if_neg (by decide)] at q
  refine nx _ _ ?_
  refine w_st fun K nx => ?_
  rw [w_asg]
  refine at_meth hM (by decide) (by decide) ib rfl ?_
  rw [xs_cons, x_var]
  refine pairs_of_ok G U hU1 ib hp hpo hpg l1 ?_
  cases e1 : pairsQ B pL with
  | error cl => rw [e1] at q; exact q
  | ok ps =>
  rw [e1] at q
  intro za ta o1 H1 hza hzo1 hz1 pu1 ib1 f1
  refine ⟨show 6 < 9 by decide, nx _ _ ?_⟩
  refine w_st fun K nx => ?_
  rw [w_asg]
  refine at_meth hM (by decide) (by decide) ib1 rfl ?_
  rw [xs_cons, x_var]
  obtain ⟨hg1, hgo1⟩ := f1.old _ _ hg hgo
  have hgg1 : pairsG o1 H1 us gL := by
    clear q nx
    revert hgg
    generalize us = us
    generalize gL = gL
    intro hgg
    induction us generalizing gL with
    | nil => cases gL with
      | nil => trivial
      | cons => exact hgg.elim
    | cons t r ih => cases gL with
      | nil => exact hgg.elim
      | cons g gs => exact ⟨⟨(f1.old _ _ hgg.1.2.1 hgg.1.1).2, (f1.old _ _ hgg.1.2.1 hgg.1.1).1, hgg.1.2.2⟩, ih gs hgg.2⟩
  refine pairs_of_ok G U hU1 ib1 hg1 hgo1 hgg1 l2 ?_
  cases e2 : pairsQ B gL with
  | error cl =>
    rw [e2] at q
    exact fun o' H' ib' f' => q o' H' ib' (f1.trans f')
  | ok gs =>
  rw [e2] at q
  intro zb tb o2 H2 hzb hzo2 hz2 pu2 ib2 f2
  refine ⟨show 7 < 9 by decide, nx _ _ ?_⟩
  obtain ⟨hz1', hzo1'⟩ := f2.old _ _ hz1 hzo1
  have pu1' : pairsU H o2 H2 ta ps := pu1.keep fun t v _ h1 h2 => ⟨(f2.old _ _ h2 h1).2, (f2.old _ _ h2 h1).1⟩
  have pu2' : pairsU H o2 H2 tb gs := by
    clear q nx
    revert pu2
    generalize tb = tb
    generalize gs = gs
    intro h
    induction tb generalizing gs with
    | nil => cases gs with
      | nil => trivial
      | cons => exact h.elim
    | cons t r ih => cases gs with
      | nil => exact h.elim
      | cons g gs => exact ⟨⟨f1.gr _ h.1.1, h.1.2⟩, ih gs h.2⟩
  have fr2 := f1.trans f2
  have lps : ps.length ≤ 1000 := pairsQ_len e1
  have lgs : gs.length ≤ 1000 := pairsQ_len e2
  refine w_st fun K nx => ?_
  show wpS _ _ _ _ _ [some (.ref b), some (.str k), some (.ref pl), some (.ref gl), some (.ref nl), some last, some (.ref za), some (.ref zb), none] _
  rw [w_ite, x_cmp]
  refine sum_pairs rfl rfl rfl hz1' pu1' lps fun H3 hE3 => ?_
  refine sum_pairs rfl rfl rfl (hE3 _ _ hz2) (pu2'.ext hE3) lgs fun H4 hE4 => ?_
  rw [c_ne, t_bool]
  have hE := hE3.trans hE4
  have ib4 := ib2.ext hE
  have fr4 : Fr1 o H o2 H4 := fr2.trans (.ext hE)
  have pa4' := pu1'.ext hE
  have pb4' := pu2'.ext hE
  have hza4 := hE _ _ hz1'
  have hzb4 := hE _ _ hz2
  dsimp only at q
  by_cases hsum : sumL ps = sumL gs
  case neg =>
    rw [if_pos hsum] at q
    rw [if_pos (by simpa using hsum)]
    exact ⟨rfl, q o2 H4 ib4 fr4⟩
  rw [if_neg (fun h => h hsum)] at q
  rw [if_neg (by simpa using hsum)]
  refine nx _ _ ?_
  refine w_st fun K nx => ?_
  rw [w_asg]
  refine at_meth hM (by decide) (by decide) ib4 rfl ?_
  rw [xs_cons, x_var]
  show wpXs _ [.var 4] _ _ _ _
  rw [xs_cons, x_var]
  obtain ⟨hn4, hno4⟩ := fr4.old _ _ hn hno
  refine needs_of_ok G U hU2 ib4 hn4 hno4 hng l3 ?_
  cases e3 : needsQ B k nL with
  | error cl =>
    rw [e3] at q
    exact fun o' H' ib' f' => q o' H' ib' (fr4.trans f')
  | ok u =>
  rw [e3] at q
  dsimp only at q
  intro zn o5 H5 hzn hzno hzn5 ib5 f5
  have fr5 := fr4.trans f5
  obtain ⟨hza5, hzao5⟩ := f5.old _ _ hza4 hzo1'
  obtain ⟨hzb5, hzbo5⟩ := f5.old _ _ hzb4 hzo2
  have pa5 : pairsU H o5 H5 ta ps := pa4'.keep fun t v _ h1 h2 => ⟨(f5.old _ _ h2 h1).2, (f5.old _ _ h2 h1).1⟩
  have pb5 : pairsU H o5 H5 tb gs := pb4'.keep fun t v _ h1 h2 => ⟨(f5.old _ _ h2 h1).2, (f5.old _ _ h2 h1).1⟩
  refine ⟨show 8 < 9 by decide, nx _ _ ?_⟩
  have hnt : nL = txs (nL.map keyOf) := by
    unfold needsQ at e3
    split at e3
    · exact needsF_txs e3
    · cases e3
  refine w_st fun K nx => ?_
  show wpS _ _ _ _ _ [some (.ref b), some (.str k), some (.ref pl), some (.ref gl), some (.ref nl), some last, some (.ref za), some (.ref zb), some (.ref zn)] _
  rw [w_ite, x_ao, ao_cons, x_not, x_call, xs_cons, x_var]
  show CallOK _ _ _ _ [last] _ _ _
  refine is_whole_ok G U.a kl.kn ?_
  cases hwl : wholeB last with
  | false =>
    rw [if_neg (fun h => by rw [hwl] at h; cases h.1)] at q
    exact ⟨rfl, q o5 H5 ib5 fr5⟩
  | true =>
  obtain ⟨i, rfl⟩ : ∃ i, last = .int i := by cases last <;> first | exact ⟨_, rfl⟩ | cases hwl
  rw [t_bool, t_bool, if_pos (show (!true) = false from rfl), ao_one, x_cmp, x_var]
  refine at_day hA ib5 rfl ?_
  rw [c_lt, t_bool]
  by_cases hd : i < B.day
  · rw [if_neg (fun h => h.2 hd)] at q
    rw [decide_eq_true hd]
    exact ⟨rfl, q o5 H5 ib5 fr5⟩
  rw [if_pos ⟨hwl, hd⟩] at q
  rw [decide_eq_false hd]
  refine nx _ _ ?_
  refine w_st fun K nx => ?_
  rw [w_asg, x_new]
  show ∀ a, H5 a = none → CallOK _ _ _ _ [.ref a, .str k, .ref za, .ref zb, .ref zn, .int i] _ _ _
  intro a ha
  refine pinit_ok G hU3 hA up_same fun w H6 hw hia hiw hrest => ⟨rfl, ?_⟩
  have haw : a ≠ w := ne_up hw
  have hw5 : H5 w = none := up_gr hw
  have hold : ∀ y v, H5 y = some v → H6 y = some v := fun y v h => by
    have h1 : y ≠ a := fun z => by rw [z, ha] at h; cases h
    have h2 : y ≠ w := fun z => by rw [z, hw5] at h; cases h
    rw [hrest y h1 h2, up_other h1]; exact h
  obtain ⟨ep, hpd⟩ := ib5.hp
  have hl5 := dP_vals ib5.ps
  rw [tsub]
  have ib6 : IsBook o5 H6 b f s p as B := ib5.ext hold
  refine at_pacts hA ib6 rfl ?_
  rw [x_var]
  show match H6 p with | some (.dict _ _) => _ | _ => False
  rw [hold _ _ hpd]
  refine ⟨by have h1 := congrArg List.length hl5.1; rw [List.length_map, List.length_map, hl5.2] at h1; rw [h1]; exact Nat.le_trans ok.len (by decide), fun ep' => nx _ _ ?_⟩
  have hnone : lookS (dP B.pacts as) k = none := by rw [pactsAt_look ib5.ps, e]; rfl
  have hput : putS (dP B.pacts as) k (.ref a) = dP B.pacts as ++ [(k, .ref a)] := by unfold putS; rw [hnone]; rfl
  rw [hput]
  obtain ⟨o', ib', fr'⟩ := tell_book ib5 fr5 hza (f1.gr _ hzb) (fr4.gr _ hzn) pa5 pb5 ha hw5 haw hia hiw hold hza5 hzao5 hzb5 hzbo5 (hnt ▸ hzn5) hzno ep'
  exact q o' _ (as ++ [a]) ib' fr'
end
end Mine

end
section
open PySem PySem.W PyProof.Rows PySem.Spec PySem.SeqAt PySem.Calls
namespace Mine
noncomputable def addKey (ks : List Str) (k : Str) : List Str := if k ∈ ks then ks else ks ++ [k]
set_option tactic.hygienic false in
theorem look_mem {es : List (Str × AV)} {k : Str} : (lookS es k).isSome = decide (k ∈ es.map (·.1)) := by
  unfold lookS
  rw [Option.isSome_map, Bool.eq_iff_iff, List.find?_isSome]
  simp
set_option tactic.hygienic false in
theorem put_keys {es : List (Str × AV)} {k : Str} {v : AV} : (putS es k v).map (·.1) = addKey (es.map (·.1)) k := by
  unfold putS addKey
  rw [look_mem]
  by_cases h : k ∈ es.map (·.1)
  · simp only [h, decide_true, if_true, List.map_map]
    apply List.map_congr_left
    intro e _
    simp only [Function.comp]
    split <;> simp_all
  · simp only [h, decide_false, if_false, Bool.false_eq_true, List.map_append, List.map_cons, List.map_nil]
set_option tactic.hygienic false in
theorem put_len {es : List (Str × AV)} {k : Str} {v : AV} : (putS es k v).length ≤ es.length + 1 := by
  unfold putS; split <;> simp
theorem mem_addKey {ks : List Str} {k x : Str} : x ∈ addKey ks k ↔ x ∈ ks ∨ x = k := by
  unfold addKey
  split
  · constructor
    · exact .inl
    · rintro (h | rfl) <;> assumption
  · simp
noncomputable def keysOf (l : List Str) : List Str := l.foldl addKey []
set_option tactic.hygienic false in
theorem keysOf_snoc {l : List Str} {x : Str} : keysOf (l ++ [x]) = addKey (keysOf l) x := by simp [keysOf]
set_option tactic.hygienic false in
theorem mem_foldl {l : List Str} : ∀ {ks : List Str} {x : Str}, x ∈ l.foldl addKey ks ↔ x ∈ ks ∨ x ∈ l := by
  induction l with
  | nil => simp
  | cons t r ih =>
    intro ks x
    rw [List.foldl_cons, ih, mem_addKey, List.mem_cons]
    constructor
    · rintro ((h | h) | h)
      · exact .inl h
      · exact .inr (.inl h)
      · exact .inr (.inr h)
    · rintro (h | h | h)
      · exact .inl (.inl h)
      · exact .inl (.inr h)
      · exact .inr h
set_option tactic.hygienic false in
theorem mem_keysOf {l : List Str} {x : Str} : x ∈ keysOf l ↔ x ∈ l := by unfold keysOf; rw [mem_foldl]; simp
section
variable {c : Cx} {P : Pg} (G : Gd c P) {n : Nat} {md : Bool} {Q : AV → AHeap → Prop} {E : String → AHeap → Prop} {H : AHeap}
noncomputable def TabIs (H : AHeap) (z : Addr) (l : List Str) : Prop := ∃ ep es, H z = some (.dict ep es) ∧ es.length ≤ l.length ∧ ∀ k, (lookS es k).isSome = decide (k ∈ l)
set_option tactic.hygienic false in
theorem TabIs.ext {H H' : AHeap} {z : Addr} {l : List Str} (h : TabIs H z l) (e : Ext H H') : TabIs H' z l := by
  obtain ⟨ep, es, h1, h2⟩ := h; exact ⟨ep, es, e _ _ h1, h2⟩
set_option tactic.hygienic false in
theorem win_tab {no : Bool} {x : Str} {a : Addr} {l : List Str} (h : TabIs H a l) (q : Q (.bool (decide (x ∈ l) != no)) H) : win no (.str x) (.ref a) Q H := by
  obtain ⟨ep, es, h1, h2, h3⟩ := h
  refine win_dict h1 ?_
  rw [h3]; exact q

set_option tactic.hygienic false in
include G in
theorem table_ok (hf : P.fns.lookup "table_of" = some BK.f_table_of) {a : Addr} {l : List Str} (ha : H a = some (.list (txs l))) (hl : l.length ≤ 1000)
    (q : ∀ z H', Ext H H' → H z = none → TabIs H' z l → Q (.ref z) H') : CallOK c (n + 1) true "table_of" [.ref a] Q E H := by
  refine G.call (F := BK.f_table_of) hf rfl ?_
  show wpSs _ _ _ _ _ [some (.ref a), none, none] _
  refine w_st fun K nx => ?_
  rw [w_asg, x_dict0]
  intro z hz
  refine ⟨show 1 < 3 by decide, nx _ _ ?_⟩
  refine w_st fun K nx => ?_
  rw [s_for', x_var]
  refine ⟨rfl, ?_⟩
  show WFor _ _ (.ref a) _ _
  refine wforI (xs := txs l) (by simp only [itemsOf]; rw [up_ne ha hz]) (fun k V' H' => ∃ ep es x, V' = [some (.ref a), some (.ref z), x] ∧ Ext H H' ∧ H' z = some (.dict ep es) ∧ es.length ≤ k ∧ es.map (·.1) = keysOf (l.take k))
    ⟨0, [], none, rfl, Ext.refl.own hz, up_same, Nat.le_refl _, rfl⟩ ?_
  rintro I hI k V' H' ⟨ep, es, x, rfl, hE, hz', hlen, hk⟩
  refine ⟨by show H' a = _; rw [hE a _ ha, up_ne ha hz], fun hkl => ?_, fun y hy => ?_⟩
  · rw [hkl, txs_length, List.take_length] at hk
    rw [hkl, txs_length] at hlen
    exact nx _ _ (q z H' hE hz ⟨ep, es, hz', hlen, fun key => by rw [look_mem, hk]; simp [mem_keysOf]⟩)
  · obtain ⟨s, rfl, hs⟩ := txs_get hy
    have hkl : k < l.length := (List.getElem?_eq_some_iff.mp hs).1
    refine ⟨show 2 < 3 by decide, ?_⟩
    refine w_st fun K2 nx2 => ?_
    show wpS _ _ _ _ _ [some (.ref a), some (.ref z), some (.str s)] _
    rw [w_asg, x_lit, tsub, x_var]
    show wpX _ (.var 2) _ _ _ _
    rw [x_var]
    show match H' z with | some (.dict _ _) => _ | _ => False
    rw [hz']
    refine ⟨Nat.le_trans (show es.length ≤ 1000 by omega) (by decide), fun ep' => nx2 _ _ (hI _ _ _ ⟨ep', putS es s (.bool true), _, rfl, hE.own hz, up_same, ?_, ?_⟩)⟩
    · have := put_len (es := es) (k := s) (v := .bool true); omega
    · rw [put_keys, hk, take_snoc hs, keysOf_snoc]

noncomputable def NeedsAt (H : AHeap) (d : Addr) (nd : Str → List Str) (l : List Str) : Prop := ∃ ep es, H d = some (.dict ep es) ∧ ∀ x ∈ l, ∃ r, lookS es x = some (.ref r) ∧ H r = some (.list (txs (nd x))) ∧ (nd x).length ≤ 1000
set_option tactic.hygienic false in
theorem NeedsAt.ext {H H' : AHeap} {z : Addr} {l : List Str} {nd : Str → List Str} (h : NeedsAt H z nd l) (e : Ext H H') : NeedsAt H' z nd l := by
  obtain ⟨ep, es, h1, h2⟩ := h
  refine ⟨ep, es, e _ _ h1, fun x hx => ?_⟩
  obtain ⟨r, h3, h4, h5⟩ := h2 x hx
  exact ⟨r, h3, e _ _ h4, h5⟩
set_option tactic.hygienic false in
theorem NeedsAt.sub {H : AHeap} {z : Addr} {l l' : List Str} {nd : Str → List Str} (h : NeedsAt H z nd l) (e : ∀ x ∈ l', x ∈ l) : NeedsAt H z nd l' := by
  obtain ⟨ep, es, h1, h2⟩ := h
  exact ⟨ep, es, h1, fun x hx => h2 x (e x hx)⟩

noncomputable def metB (nd : Str → List Str) (K D : List Str) (x : Str) : Bool := (nd x).all fun o => decide (o ∈ K) || decide (o ∈ D)

set_option tactic.hygienic false in
include G in
theorem met_ok (hf : P.fns.lookup "are_met" = some BK.f_are_met) {a d kt dt : Addr} {l K D : List Str} {nd : Str → List Str} (ha : H a = some (.list (txs l))) (hd : NeedsAt H d nd l) (hk : TabIs H kt K) (ht : TabIs H dt D) (hl : l.length ≤ 1000)
    (q : ∀ z H', Ext H H' → H z = none → H' z = some (.list (txs (l.filter (metB nd K D)))) → Q (.ref z) H') : CallOK c (n + 1) true "are_met" [.ref a, .ref d, .ref kt, .ref dt] Q E H := by
  refine G.call (F := BK.f_are_met) hf rfl ?_
  show wpSs _ _ _ _ _ [some (.ref a), some (.ref d), some (.ref kt), some (.ref dt), none, none] _
  refine w_st fun KK nx => ?_
  rw [w_asg, x_list, xs_nil]
  intro z hz
  refine ⟨show 4 < 6 by decide, nx _ _ ?_⟩
  refine w_st fun KK nx => ?_
  rw [s_for', x_var]
  refine ⟨rfl, ?_⟩
  show WFor _ _ (.ref a) _ _
  refine wforI (xs := txs l) (by simp only [itemsOf]; rw [up_ne ha hz]) (fun k V' H' => ∃ x, V' = [some (.ref a), some (.ref d), some (.ref kt), some (.ref dt), some (.ref z), x] ∧ Ext H H' ∧ H' z = some (.list (txs ((l.take k).filter (metB nd K D)))))
    ⟨none, rfl, Ext.refl.own hz, up_same⟩ ?_
  rintro I hI k V' H' ⟨x, rfl, hE, hz'⟩
  refine ⟨by show H' a = _; rw [hE a _ ha, up_ne ha hz], fun hkl => ?_, fun y hy => ?_⟩
  · rw [hkl, txs_length, List.take_length] at hz'
    exact nx _ _ (q z H' hE hz hz')
  · obtain ⟨s, rfl, hs⟩ := txs_get hy
    have hkl : k < l.length := (List.getElem?_eq_some_iff.mp hs).1
    obtain ⟨ep, es, hd1, hd2⟩ := hd.ext hE
    obtain ⟨r, hr1, hr2, hr3⟩ := hd2 s (List.mem_of_getElem? hs)
    refine ⟨show 5 < 6 by decide, ?_⟩
    refine w_st fun K2 nx2 => ?_
    show wpS _ _ _ _ _ [some (.ref a), some (.ref d), some (.ref kt), some (.ref dt), some (.ref z), some (.str s)] _
    rw [w_ite, x_cmp, x_comp]
    refine ⟨rfl, ?_⟩
    rw [x_sub, x_var]
    show wpX _ (.var 5) _ _ _ _
    rw [x_var]
    show wsub (.ref d) (.str s) _ _
    rw [sub_rs, hd1]
    refine ⟨_, hr1, ?_⟩
    refine wcomp_ext (xs := txs (nd s)) (by simp only [itemsOf]; rw [hr2]) (by rw [txs_length]; exact Nat.le_trans hr3 (by decide)) (fun v => match v with | .str o => if (decide (o ∈ K) || decide (o ∈ D)) then none else some (.str o) | _ => none) ?_ ?_
    · intro v hv H₁ hE₁ nx hnx
      obtain ⟨o, ho, rfl⟩ : ∃ o, o ∈ nd s ∧ v = .str o := by
        unfold txs at hv; rw [List.mem_map] at hv; obtain ⟨o, h1, h2⟩ := hv; exact ⟨o, h1, h2.symm⟩
      rw [if_neg (by decide), xc_some, x_ao, ao_cons, x_cmp, x_var]
      show wpX _ (.var 2) _ _ _ _
      rw [x_var]
      show wcmp .NotIn (.str o) (.ref kt) _ _
      rw [c_nin]
      refine win_tab ((hk.ext hE).ext hE₁) ?_
      have hn := hnx H₁ .refl
      by_cases h1 : o ∈ K
      · simp only [h1, decide_true, Bool.true_or, if_true] at hn ⊢; exact hn
      · simp only [h1, decide_false, Bool.false_or] at hn ⊢
        show wpAO _ true [_] _ _ _ _
        rw [ao_one, x_cmp, x_var]
        show wpX _ (.var 3) _ _ _ _
        rw [x_var]
        show wcmp .NotIn (.str o) (.ref dt) _ _
        rw [c_nin]
        refine win_tab ((ht.ext hE).ext hE₁) ?_
        by_cases h2 : o ∈ D
        · simp only [h2, decide_true, if_true] at hn ⊢; exact hn
        · simp only [h2, decide_false, Bool.false_eq_true, if_false] at hn ⊢; exact hn
    · intro b H₁ hE₁ hb
      have hfm : ∀ l : List Str, (txs l).filterMap (fun v => match v with | .str o => if (decide (o ∈ K) || decide (o ∈ D)) then none else some (AV.str o) | _ => none) = txs (l.filter fun o => !decide (o ∈ K) && !decide (o ∈ D)) := by
        intro l
        induction l with
        | nil => rfl
        | cons t r ih =>
          show List.filterMap _ (AV.str t :: txs r) = _
          rw [List.filterMap_cons, ih, List.filter_cons]
          by_cases h1 : t ∈ K <;> by_cases h2 : t ∈ D <;> simp [txs, h1, h2]
      rw [hfm]
      show wpX _ (.list []) _ _ _ _
      rw [x_list, xs_nil]
      intro b' hb'
      rw [c_eqr]
      refine weq_txs (l := (nd s).filter fun o => !decide (o ∈ K) && !decide (o ∈ D)) (l' := []) (up_ne up_same hb') up_same ?_
      have hz₁ : H₁ z = some (.list (txs ((l.take k).filter (metB nd K D)))) := hE₁ _ _ hz'
      have hbz : z ≠ b := ne_of hz₁ hb
      have hb1 : H₁ b' = none := by
        have : b' ≠ b := fun w => by rw [w, up_same] at hb'; cases hb'
        rwa [up_other this] at hb'
      have hbz' : z ≠ b' := ne_of hz₁ hb1
      have hz₂ : (up (up H₁ b (.list (txs ((nd s).filter fun o => !decide (o ∈ K) && !decide (o ∈ D))))) b' (.list [])) z = some (.list (txs ((l.take k).filter (metB nd K D)))) := by
        rw [up_other hbz', up_other hbz]; exact hz₁
      have hE₂ : Ext H (up (up H₁ b (.list (txs ((nd s).filter fun o => !decide (o ∈ K) && !decide (o ∈ D))))) b' (.list [])) := ((hE.trans hE₁).new hb).new hb'
      have hm : decide ((nd s).filter (fun o => !decide (o ∈ K) && !decide (o ∈ D)) = []) = metB nd K D s := by
        unfold metB
        rw [Bool.eq_iff_iff]
        simp only [decide_eq_true_eq, List.filter_eq_nil_iff, List.all_eq_true, Bool.or_eq_true, Bool.and_eq_true, Bool.not_eq_true', decide_eq_false_iff_not]
        constructor
        · intro h o ho
          by_cases h1 : o ∈ K
          · exact .inl h1
          · exact .inr (Classical.byContradiction fun h2 => h o ho ⟨h1, h2⟩)
        · rintro h o ho ⟨h1, h2⟩
          rcases h o ho with z | z
          · exact h1 z
          · exact h2 z
      rw [hm]
      cases h : metB nd K D s with
      | true =>
        show wpSs _ _ _ _ _ [some (.ref a), some (.ref d), some (.ref kt), some (.ref dt), some (.ref z), some (.str s)] _
        refine w_st fun K3 nx3 => ?_
        rw [s_expr', x_bm, x_var]
        refine ⟨?_, ?_⟩
        · show match (up (up H₁ b _) b' _) z with | some (.list _) => _ | some (.dict _ _) => _ | _ => False
          rw [hz₂]; exact .inl rfl
        rw [xs_cons, x_var]
        show wpXs _ [] _ _ _ _
        rw [xs_nil]
        refine m_append hz₂ (by have := List.length_filter_le (metB nd K D) (l.take k); rw [List.length_take] at this; rw [txs_length]; omega) (nx3 _ _ (nx2 _ _ ?_))
        refine hI _ _ _ ⟨_, rfl, hE₂.own hz, ?_⟩
        rw [up_same, take_snoc hs, List.filter_append, txs_snoc]
        simp [h]
      | false =>
        refine nx2 _ _ (hI _ _ _ ⟨_, rfl, hE₂, ?_⟩)
        rw [hz₂, take_snoc hs, List.filter_append]
        simp [h]
end

noncomputable def Closed (full : List Str) (nd : Str → List Str) (done : List Str) (S : Str → Prop) : Prop := ∀ x, S x → x ∈ full ∧ ∀ o ∈ nd x, S o ∨ o ∈ done
structure Grt (full : List Str) (nd : Str → List Str) (done g : List Str) : Prop where
  sub : g.Sublist full
  met : ∀ x ∈ g, ∀ o ∈ nd x, o ∈ g ∨ o ∈ done
  top : ∀ S, Closed full nd done S → ∀ x, S x → x ∈ g

set_option tactic.hygienic false in
theorem filter_full {α : Type} {p : α → Bool} {l : List α} (h : l.length ≤ (l.filter p).length) : l.filter p = l := by
  apply List.Sublist.eq_of_length List.filter_sublist
  have := List.length_filter_le p l
  omega

section
variable {c : Cx} {P : Pg} (G : Gd c P) {n : Nat} {Q : AV → AHeap → Prop} {E : String → AHeap → Prop} {H : AHeap}

noncomputable def GInv (H : AHeap) (full done : List Str) (nd : Str → List Str) (fu d dn rd : Addr) (k : Nat) (V' : VV) (H' : AHeap) : Prop :=
  ∃ na fo nl, V' = [some (.ref fu), some (.ref d), some (.ref dn), some (.ref rd), some (.ref na), some (.ref fo)] ∧ Ext H H' ∧ TabIs H' rd done ∧ H' na = some (.list (txs nl)) ∧ k = nl.length ∧ nl.Sublist full ∧
    (∀ S, Closed full nd done S → ∀ x, S x → x ∈ nl) ∧ H' fo = some (.list (txs (nl.filter (metB nd nl done)))) ∧ H fo = none

set_option tactic.hygienic false in
theorem met_keeps {full done nl : List Str} {nd : Str → List Str} (h : ∀ S, Closed full nd done S → ∀ x, S x → x ∈ nl) : ∀ S, Closed full nd done S → ∀ x, S x → x ∈ nl.filter (metB nd nl done) := by
  intro S hS x hx
  rw [List.mem_filter]
  refine ⟨h S hS x hx, ?_⟩
  unfold metB
  rw [List.all_eq_true]
  intro o ho
  rcases (hS x hx).2 o ho with z | z
  · simp [h S hS o z]
  · simp [z]

set_option tactic.hygienic false in
include G in
theorem greatest_ok (h1 : P.fns.lookup "greatest" = some BK.f_greatest) (h2 : P.fns.lookup "are_met" = some BK.f_are_met) (h3 : P.fns.lookup "table_of" = some BK.f_table_of) {fu d dn : Addr} {full done : List Str} {nd : Str → List Str}
    (hf : H fu = some (.list (txs full))) (hd : NeedsAt H d nd full) (hn : H dn = some (.list (txs done))) (lf : full.length ≤ 1000) (ld : done.length ≤ 1000)
    (q : ∀ z H' g, Ext H H' → H z = none → H' z = some (.list (txs g)) → Grt full nd done g → Q (.ref z) H') : CallOK c (n + 2) true "greatest" [.ref fu, .ref d, .ref dn] Q E H := by
  refine G.call (F := BK.f_greatest) h1 rfl ?_
  show wpSs _ _ _ _ _ [some (.ref fu), some (.ref d), some (.ref dn), none, none, none] _
  refine w_st fun KK nx => ?_
  dsimp [v_0, x_lit, x_var, x_bin, x_neg, x_not, x_ao, x_cmp, x_cmp2, x_sub, x_glob, x_call, x_prim, x_bm, x_isi, x_list, x_tup, x_dict0, xs_nil, xs_cons, ao_one, ao_cons, xc_none, xc_some, tv, wtg, b_add, b_sub, b_mul, b_div, b_mod, b_pow, b_adds, c_lt, c_le, c_gt, c_ge, c_eq, c_ne, c_eqs, c_nes, c_in, c_nin, t_bool, t_int, t_none, w_cons, w_nil, w_ite, w_ret, w_asg, s_expr', s_raise']
  refine table_ok G h3 hn ld fun rd H₁ hE₁ hrd ht₁ => ⟨by decide, nx _ _ ?_⟩
  refine w_st fun KK nx => ?_
  show wpS _ _ _ _ _ [some (.ref fu), some (.ref d), some (.ref dn), some (.ref rd), none, none] _
  dsimp [v_0, x_lit, x_var, x_bin, x_neg, x_not, x_ao, x_cmp, x_cmp2, x_sub, x_glob, x_call, x_prim, x_bm, x_isi, x_list, x_tup, x_dict0, xs_nil, xs_cons, ao_one, ao_cons, xc_none, xc_some, tv, wtg, b_add, b_sub, b_mul, b_div, b_mod, b_pow, b_adds, c_lt, c_le, c_gt, c_ge, c_eq, c_ne, c_eqs, c_nes, c_in, c_nin, t_bool, t_int, t_none, w_cons, w_nil, w_ite, w_ret, w_asg, s_expr', s_raise']
  refine p_listT (hE₁ _ _ hf) lf fun na hna => ⟨by decide, nx _ _ ?_⟩
  have hE₂ := hE₁.new (o := .list (txs full)) hna
  refine w_st fun KK nx => ?_
  show wpS _ _ _ _ _ [some (.ref fu), some (.ref d), some (.ref dn), some (.ref rd), some (.ref na), none] _
  dsimp [v_0, x_lit, x_var, x_bin, x_neg, x_not, x_ao, x_cmp, x_cmp2, x_sub, x_glob, x_call, x_prim, x_bm, x_isi, x_list, x_tup, x_dict0, xs_nil, xs_cons, ao_one, ao_cons, xc_none, xc_some, tv, wtg, b_add, b_sub, b_mul, b_div, b_mod, b_pow, b_adds, c_lt, c_le, c_gt, c_ge, c_eq, c_ne, c_eqs, c_nes, c_in, c_nin, t_bool, t_int, t_none, w_cons, w_nil, w_ite, w_ret, w_asg, s_expr', s_raise']
  refine table_ok G h3 (a := na) (l := full) up_same lf fun kt H₃ hE₃ hkt ht₃ => ?_
  have hE : Ext H H₃ := hE₂.trans hE₃
  have hE₁₃ : Ext H₁ H₃ := (Ext.refl.new hna).trans hE₃
  have hna₃ : H₃ na = some (.list (txs full)) := hE₃ _ _ up_same
  refine met_ok G h2 hna₃ (hd.ext hE) ht₃ (ht₁.ext hE₁₃) lf fun fo H₄ hE₄ hfo hfo' => ⟨by decide, nx _ _ ?_⟩
  refine w_st fun KK nx => ?_
  rw [s_while']
  refine ⟨rfl, GInv H full done nd fu d dn rd, ⟨full.length, na, fo, full, rfl, hE.trans hE₄, (ht₁.ext hE₁₃).ext hE₄, hE₄ _ _ hna₃, rfl, List.Sublist.refl _, fun S hS x hx => (hS x hx).1, hfo', hE.none hfo⟩, ?_⟩
  rintro k V' H' ⟨na', fo', nl, rfl, hX, hR, hN, rfl, hS, hT, hF, hFn⟩
  have hlen : nl.length ≤ full.length := hS.length_le
  have hlen' := List.length_filter_le (metB nd nl done) nl
  have hS' : (nl.filter (metB nd nl done)).Sublist full := List.filter_sublist.trans hS
  have hT' := met_keeps hT
  generalize hfl : nl.filter (metB nd nl done) = fl at hF hlen' hS' hT'
  dsimp [v_0, x_lit, x_var, x_bin, x_neg, x_not, x_ao, x_cmp, x_cmp2, x_sub, x_glob, x_call, x_prim, x_bm, x_isi, x_list, x_tup, x_dict0, xs_nil, xs_cons, ao_one, ao_cons, xc_none, xc_some, tv, wtg, b_add, b_sub, b_mul, b_div, b_mod, b_pow, b_adds, c_lt, c_le, c_gt, c_ge, c_eq, c_ne, c_eqs, c_nes, c_in, c_nin, t_bool, t_int, t_none]
  refine p_len hF (by rw [txs_length]; omega) ?_
  refine p_len hN (by rw [txs_length]; omega) ?_
  rw [c_lt, t_bool, txs_length, txs_length]
  by_cases hlt : fl.length < nl.length
  · rw [decide_eq_true (by omega)]
    show wpSs _ _ _ _ _ [some (.ref fu), some (.ref d), some (.ref dn), some (.ref rd), some (.ref na'), some (.ref fo')] _
    refine w_st fun K2 nx2 => ?_
    rw [w_asg, x_var]
    refine ⟨show 4 < 6 by decide, nx2 _ _ ?_⟩
    refine w_st fun K2 nx2 => ?_
    show wpS _ _ _ _ _ [some (.ref fu), some (.ref d), some (.ref dn), some (.ref rd), some (.ref fo'), some (.ref fo')] _
    dsimp [v_0, x_lit, x_var, x_bin, x_neg, x_not, x_ao, x_cmp, x_cmp2, x_sub, x_glob, x_call, x_prim, x_bm, x_isi, x_list, x_tup, x_dict0, xs_nil, xs_cons, ao_one, ao_cons, xc_none, xc_some, tv, wtg, b_add, b_sub, b_mul, b_div, b_mod, b_pow, b_adds, c_lt, c_le, c_gt, c_ge, c_eq, c_ne, c_eqs, c_nes, c_in, c_nin, t_bool, t_int, t_none, w_cons, w_nil, w_ite, w_ret, w_asg, s_expr', s_raise']
    refine table_ok G h3 hF (by omega) fun kt' H₅ hE₅ _ ht₅ => ?_
    refine met_ok G h2 (hE₅ _ _ hF) (((hd.ext hX).ext hE₅).sub fun x hx => hS'.subset hx) ht₅ (hR.ext hE₅) (by omega) fun fo₂ H₆ hE₆ hfo₂ hfo₂' => ⟨by decide, nx2 _ _ ?_⟩
    exact ⟨_, hlt, fo', fo₂, _, rfl, (hX.trans hE₅).trans hE₆, (hR.ext hE₅).ext hE₆, hE₆ _ _ (hE₅ _ _ hF), rfl, hS', hT', hfo₂', (hX.trans hE₅).none hfo₂⟩
  · rw [decide_eq_false (by omega)]
    refine nx _ _ ?_
    have he : fl = nl := by
      rw [← hfl] at hlt ⊢
      exact filter_full (by omega)
    rw [he] at hF
    refine q fo' H' nl hX hFn hF ⟨hS, fun x hx o ho => ?_, hT⟩
    rw [← he, ← hfl, List.mem_filter] at hx
    have := hx.2
    unfold metB at this
    rw [List.all_eq_true] at this
    simpa using this o ho
end

end Mine

end
section
open PySem PySem.W PyProof.Rows PySem.Spec PySem.SeqAt PySem.Calls
namespace Mine
noncomputable def fullL (ps : List Pc) : List Str := (ps.filter fullB).map (·.name)
noncomputable def doneL (ps : List Pc) : List Str := (ps.filter fun x => x.state == .dn).map (·.name)
noncomputable def ndB (B : Bk) (k : Str) : List Str := match pAt B.pacts k with
  | some e => e.2.needs
  | none => []
set_option tactic.hygienic false in
theorem fullL_snoc {ps : List Pc} {x : Pc} : fullL (ps ++ [x]) = fullL ps ++ (if fullB x then [x.name] else []) := by
  unfold fullL; rw [List.filter_append, List.map_append]
  cases h : fullB x <;> simp [h]
set_option tactic.hygienic false in
theorem doneL_snoc {ps : List Pc} {x : Pc} : doneL (ps ++ [x]) = doneL ps ++ (if x.state == .dn then [x.name] else []) := by
  unfold doneL; rw [List.filter_append, List.map_append]
  cases h : x.state == Sta.dn <;> simp [h]
set_option tactic.hygienic false in
theorem fullL_len {ps : List Pc} : (fullL ps).length ≤ ps.length := by unfold fullL; rw [List.length_map]; exact List.length_filter_le _ _
set_option tactic.hygienic false in
theorem doneL_len {ps : List Pc} : (doneL ps).length ≤ ps.length := by unfold doneL; rw [List.length_map]; exact List.length_filter_le _ _
set_option tactic.hygienic false in
theorem pAt_nodup : ∀ {ps : List Pc} {j : Nat} {x : Pc}, (ps.map (·.name)).Nodup → ps[j]? = some x → pAt ps x.name = some (j, x)
  | q :: r, 0, x, _, h => by cases h; unfold pAt; rw [if_pos rfl]
  | q :: r, j + 1, x, hn, h => by
    rw [List.map_cons, List.nodup_cons] at hn
    have hx : x ∈ r := List.mem_of_getElem? h
    unfold pAt
    rw [if_neg (fun e => hn.1 (by rw [e]; exact List.mem_map_of_mem hx)), pAt_nodup hn.2 h]; rfl
  | [], _, _, _, h => by cases h
noncomputable def NAt (o : Addr → Option Role) (H : AHeap) (r e : Addr) (nd : Str → List Str) (es : List (Str × AV)) (l : List Str) : Prop := ∀ x ∈ l, ∃ ρ, lookS es x = some (.ref ρ) ∧ ρ ≠ r ∧ ρ ≠ e ∧ o ρ = none ∧ H ρ = some (.list (txs (nd x))) ∧ (nd x).length ≤ 1000
set_option tactic.hygienic false in
theorem NAt.keep {o o' : Addr → Option Role} {H H' : AHeap} {r e : Addr} {nd : Str → List Str} {es : List (Str × AV)} {l : List Str} (h : NAt o H r e nd es l) (k : ∀ ρ v, ρ ≠ r → ρ ≠ e → o ρ = none → H ρ = some (.list v) → o' ρ = none ∧ H' ρ = some (.list v)) : NAt o' H' r e nd es l := fun x hx => by
  obtain ⟨ρ, h1, h2, h3, h4, h5, h6⟩ := h x hx
  have := k ρ _ h2 h3 h4 h5
  exact ⟨ρ, h1, h2, h3, this.1, this.2, h6⟩
set_option tactic.hygienic false in
theorem look_put {es : List (Str × AV)} {k x : Str} {v : AV} : lookS (putS es k v) x = if x = k then some v else lookS es x := by
  unfold putS
  by_cases h : (lookS es k).isSome = true
  · rw [if_pos h]
    unfold lookS at h ⊢
    induction es with
    | nil => cases h
    | cons e r ih =>
      rw [List.map_cons, List.find?_cons, List.find?_cons]
      rw [List.find?_cons] at h
      by_cases e1 : e.1 = k
      · rw [if_pos e1]
        by_cases e2 : x = k
        · rw [show decide ((e.1, v).1 = x) = true from decide_eq_true (e1.trans e2.symm), if_pos e2]; rfl
        · have e3 : e.1 ≠ x := fun z => e2 (z.symm.trans e1)
          rw [show decide ((e.1, v).1 = x) = false from decide_eq_false e3, if_neg e2]
          clear ih h
          show Option.map _ (List.find? _ _) = Option.map _ (List.find? _ _)
          congr 1
          induction r with
          | nil => rfl
          | cons a r ih =>
            rw [List.map_cons, List.find?_cons, List.find?_cons]
            by_cases a1 : a.1 = k
            · rw [if_pos a1]
              have : a.1 ≠ x := fun z => e2 (z.symm.trans a1)
              rw [show decide ((a.1, v).1 = x) = false from decide_eq_false this]; exact ih
            · rw [if_neg a1]
              cases decide (a.1 = x)
              · exact ih
              · rfl
      · rw [if_neg e1]
        rw [show decide (e.1 = k) = false from decide_eq_false e1] at h
        by_cases e2 : e.1 = x
        · rw [show decide (e.1 = x) = true from decide_eq_true e2, if_neg (fun z => e1 (e2.trans z))]
        · rw [show decide (e.1 = x) = false from decide_eq_false e2]; exact ih h
  · rw [if_neg h]
    have hn : lookS es k = none := by cases q : lookS es k with | none => rfl | some => rw [q] at h; exact absurd rfl h
    clear h
    unfold lookS at hn ⊢
    rw [List.find?_append, Option.map_eq_none_iff] at *
    by_cases e2 : x = k
    · rw [if_pos e2, e2, hn]; simp
    · rw [if_neg e2]
      cases List.find? (fun e => decide (e.1 = x)) es with
      | none => simp [show ¬ k = x from fun z => e2 z.symm]
      | some w => rfl
inductive StandI (B : Bk) (o : Addr → Option Role) (H : AHeap) (b f s p : Addr) (as : List Addr) (zv r d e : Addr) (m1 m2 : Nat) (V' : VV) (H' : AHeap) : Prop
  | mk (o' : Addr → Option Role) (ep : Nat) (es : List (Str × AV)) (pr : Option AV) (hV : V' = [some (.ref b), some (.ref r), some (.ref d), some (.ref e), pr]) (ib : IsBook o' H' b f s p as B) (fr : Fr1 o H o' H') (hz : H' zv = some (.list (as.map .ref))) (hr : H' r = some (.list (txs (fullL (B.pacts.take m1))))) (hd : H' d = some (.dict ep es)) (he : H' e = some (.list (txs (doneL (B.pacts.take m2)))))
      (zo : o' zv = none) (ro : o' r = none) (dO : o' d = none) (eo : o' e = none) (hl : es.length ≤ m1) (hn : NAt o' H' r e (ndB B) es (fullL (B.pacts.take m1))) : StandI B o H b f s p as zv r d e m1 m2 V' H'
theorem IsBook.some {o : Addr → Option Role} {H : AHeap} {b f s p : Addr} {as : List Addr} {B : Bk} (ib : IsBook o H b f s p as B) : ∃ y, H b = Option.some y := ⟨_, ib.hb⟩
section
variable {c : Cx} {P : Pg} (G : Gd c P) (U : HasP P) {n : Nat} {md : Bool} {Q : AV → AHeap → Prop} {E : String → AHeap → Prop} {H : AHeap} {o : Addr → Option Role} {b f s p a : Addr} {as : List Addr} {B : Bk} {j : Nat} {x : Pc}
include G U
set_option tactic.hygienic false in
theorem standing_ok (hU : P.fns.lookup "Book.standing" = some BK.f_Book_standing) (hU1 : P.fns.lookup "Pact.is_full" = some BK.f_Pact_is_full) (ib : IsBook o H b f s p as B) (ok : BkOK B) (nd : (B.pacts.map (·.name)).Nodup)
    (q : ∀ z r d e o' H', H z = none → o' z = none → o' r = none → o' d = none → o' e = none → H' z = some (.tuple [.ref r, .ref d, .ref e]) → H' r = some (.list (txs (fullL B.pacts))) → NeedsAt H' d (ndB B) (fullL B.pacts) → H' e = some (.list (txs (doneL B.pacts))) → IsBook o' H' b f s p as B → Fr1 o H o' H' → Q (.ref z) H') : CallOK c (n + 2) true "Book.standing" [.ref b] Q E H := by
  refine G.call (F := BK.f_Book_standing) hU rfl ?_
  have hA : c.P.attrs = BK.attrs := by rw [G.hP, U.a.attrs]
  have hM : c.P.meths = BK.meths := by rw [G.hP, U.a.meths]
  show wpSs _ _ _ _ _ [some (.ref b), none, none, none, none] _
  refine w_st fun K nx => ?_
  rw [w_asg, x_list, xs_nil]
  intro r hr0
  refine ⟨show 1 < 5 by decide, nx _ _ ?_⟩
  obtain ⟨ib1, f1⟩ := ib.fresh hr0 (.list [])
  refine w_st fun K nx => ?_
  rw [w_asg, x_dict0]
  intro d hd0
  refine ⟨show 2 < 5 by decide, nx _ _ ?_⟩
  obtain ⟨ib2, f2⟩ := ib1.fresh hd0 (.dict 0 [])
  refine w_st fun K nx => ?_
  rw [w_asg, x_list, xs_nil]
  intro e he0
  refine ⟨show 3 < 5 by decide, nx _ _ ?_⟩
  obtain ⟨ib3, f3⟩ := ib2.fresh he0 (.list [])
  have hrd : r ≠ d := ne_up hd0
  have hde : d ≠ e := ne_up he0
  have hre : r ≠ e := ne_up (by rw [up_other hde.symm] at he0; exact he0)
  have hd' : H d = none := up_gr hd0
  have he' : H e = none := up_gr (up_gr he0)
  obtain ⟨r2, ro2⟩ := f2.old r _ up_same (if_pos rfl)
  obtain ⟨r3, ro3⟩ := f3.old r _ r2 ro2
  obtain ⟨d3, do3⟩ := f3.old d _ up_same (if_pos rfl)
  have fr3 := (f1.trans f2).trans f3
  obtain ⟨o3, H3, ib3, fr3, r3, d3, e3, ro3, do3, eo3⟩ : ∃ o3 H3, IsBook o3 H3 b f s p as B ∧ Fr1 o H o3 H3 ∧ H3 r = some (.list []) ∧ H3 d = some (.dict 0 []) ∧ H3 e = some (.list []) ∧ o3 r = none ∧ o3 d = none ∧ o3 e = none ∧ H3 = up (up (up H r (.list [])) d (.dict 0 [])) e (.list []) := ⟨_, _, ib3, fr3, r3, d3, up_same, ro3, do3, if_pos rfl, rfl⟩
  obtain ⟨eo3, hH3⟩ := eo3
  rw [← hH3]
  refine w_st fun K nx => ?_
  rw [s_for']
  refine ⟨rfl, ?_⟩
  refine vals_list hA rfl ib3 ok.len rfl fun zv o4 H4 hzv0 hzvo hzv ib4 f4 => ?_
  obtain ⟨r4, ro4⟩ := f4.old _ _ r3 ro3
  obtain ⟨d4, do4⟩ := f4.old _ _ d3 do3
  obtain ⟨e4, eo4⟩ := f4.old _ _ e3 eo3
  obtain ⟨_, hlen⟩ := dP_vals ib4.ps
  have fr4 := fr3.trans f4
  have hzr : zv ≠ r := fun h => by rw [h, r3] at hzv0; cases hzv0
  have hzd : zv ≠ d := fun h => by rw [h, d3] at hzv0; cases hzv0
  have hze : zv ≠ e := fun h => by rw [h, e3] at hzv0; cases hzv0
  clear hH3 f1 f2 f3 r2 ro2 ib1 ib2
  refine wforI (xs := as.map .ref) (by simp only [itemsOf]; rw [hzv]) (fun m V' H' => StandI B o H b f s p as zv r d e m m V' H') ⟨o4, 0, [], none, rfl, ib4, fr4, hzv, r4, d4, e4, hzvo, ro4, do4, eo4, Nat.le_refl _, fun x hx => by cases hx⟩ ?_
  rintro I hI m V' H' ⟨o', ep, es, pr, rfl, ib', fr', hz', hr', hdd', hee', zo', ro', do', eo', hl', hn'⟩
  refine ⟨by show H' zv = _; rw [hz', hzv], fun hm => ?_, fun y hy => ?_⟩
  · rw [List.length_map, hlen] at hm
    rw [hm, List.take_length] at hr' hee' hn'
    refine nx _ _ ?_
    refine w_st fun K nx => ?_
    rw [w_ret, x_tup]
    show ∀ z, H' z = none → _
    intro z hz0
    obtain ⟨ib5, f5⟩ := ib'.fresh hz0 (.tuple [.ref r, .ref d, .ref e])
    obtain ⟨r5, ro5⟩ := f5.old _ _ hr' ro'
    obtain ⟨d5, do5⟩ := f5.old _ _ hdd' do'
    obtain ⟨e5, eo5⟩ := f5.old _ _ hee' eo'
    refine q z r d e _ _ (fr'.gr z hz0) (if_pos rfl) ro5 do5 eo5 up_same r5 ⟨ep, es, d5, fun x hx => ?_⟩ e5 ib5 (fr'.trans f5)
    obtain ⟨ρ, h1, _, _, h4, h5, h6⟩ := hn' x hx
    exact ⟨ρ, h1, (f5.old _ _ h5 h4).1, h6⟩
  rw [List.getElem?_map, Option.map_eq_some_iff] at hy
  obtain ⟨a, ha, rfl⟩ := hy
  obtain ⟨x, hx⟩ : ∃ x, B.pacts[m]? = some x := ⟨B.pacts[m]'(by rw [← hlen]; exact (List.getElem?_eq_some_iff.mp ha).1), List.getElem?_eq_getElem _⟩
  have hin := ok.inl m x hx
  have hml : m < B.pacts.length := (List.getElem?_eq_some_iff.mp hx).1
  have hpl := ok.len
  have htk : B.pacts.take (m + 1) = B.pacts.take m ++ [x] := by rw [List.take_add_one, hx]; rfl
  have hndx : ndB B x.name = x.needs := by unfold ndB; rw [pAt_nodup nd hx]
  refine ⟨show 4 < 5 by decide, ?_⟩
  refine w_st fun K2 nx2 => ?_
  show wpS _ _ _ _ _ [some (.ref b), some (.ref r), some (.ref d), some (.ref e), some (.ref a)] _
  -- the second question
  have second : ∀ H1, StandI B o H b f s p as zv r d e (m + 1) m [some (.ref b), some (.ref r), some (.ref d), some (.ref e), some (.ref a)] H1 → K2 [some (.ref b), some (.ref r), some (.ref d), some (.ref e), some (.ref a)] H1 := by
    rintro H1 ⟨o1, ep1, es1, pr1, hV1, ib1, fr1, hz1, hr1, hd1, he1, zo1, ro1, do1, eo1, hl1, hn1⟩
    refine nx2 _ _ ?_
    refine w_st fun K3 nx3 => ?_
    rw [w_ite, x_cmp]
    refine pa_state hA (ib1.pact hx ha) rfl ?_
    rw [x_lit, c_eqs, t_bool, sta_dn]
    have hdn := doneL_snoc (ps := B.pacts.take m) (x := x)
    cases hs : x.state == Sta.dn with
    | false =>
      rw [hs] at hdn
      refine nx3 _ _ (hI _ _ _ ⟨o1, ep1, es1, _, rfl, ib1, fr1, hz1, hr1, hd1, ?_, zo1, ro1, do1, eo1, hl1, hn1⟩)
      rw [htk, hdn, he1]; simp
    | true =>
      rw [hs] at hdn
      show wpSs _ _ _ _ _ [some (.ref b), some (.ref r), some (.ref d), some (.ref e), some (.ref a)] _
      refine w_st fun K4 nx4 => ?_
      rw [s_expr', x_bm, x_var]
      refine ⟨?_, ?_⟩
      · show match H1 e with | some (.list _) => _ | some (.dict _ _) => _ | _ => False
        rw [he1]; exact .inl rfl
      rw [xs_cons]
      refine pa_name hA (ib1.pact hx ha) rfl ?_
      rw [xs_nil]
      refine m_append he1 (by rw [txs_length]; have := doneL_len (ps := B.pacts.take m); rw [List.length_take] at this; omega) (nx4 _ _ (nx3 _ _ (hI _ _ _ ⟨o1, ep1, es1, _, rfl, ib1.upN eo1 _, fr1.upF he', ?_, ?_, ?_, ?_, zo1, ro1, do1, eo1, hl1, hn1.keep fun ρ v h1 h2 h3 h4 => ⟨h3, by rw [up_other h2]; exact h4⟩⟩)))
      · rw [up_other hze]; exact hz1
      · rw [up_other hre]; exact hr1
      · rw [up_other hde]; exact hd1
      · rw [up_same, htk, hdn, txs_snoc]; rfl
  have hfu := fullL_snoc (ps := B.pacts.take m) (x := x)
  rw [w_ite]
  refine pa_meth hA (ib'.pact hx ha) rfl hM (by decide) (by decide) ?_
  rw [xs_nil]
  refine is_full_ok G hU1 hA (ib'.pact hx ha) hin.1 hin.2.1 ?_
  rw [t_bool]
  cases hs : fullB x with
  | false =>
    rw [hs] at hfu
    refine second H' ⟨o', ep, es, _, rfl, ib', fr', hz', ?_, hdd', hee', zo', ro', do', eo', Nat.le_succ_of_le hl', ?_⟩
    · rw [htk, hfu, hr']; simp
    · rw [htk, hfu]; simpa using hn'
  | true =>
  rw [hs] at hfu
  show wpSs _ _ _ _ _ [some (.ref b), some (.ref r), some (.ref d), some (.ref e), some (.ref a)] _
  refine w_st fun K3 nx3 => ?_
  rw [s_expr', x_bm, x_var]
  refine ⟨?_, ?_⟩
  · show match H' r with | some (.list _) => _ | some (.dict _ _) => _ | _ => False
    rw [hr']; exact .inl rfl
  rw [xs_cons]
  refine pa_name hA (ib'.pact hx ha) rfl ?_
  rw [xs_nil]
  refine m_append hr' (by rw [txs_length]; have := fullL_len (ps := B.pacts.take m); rw [List.length_take] at this; omega) (nx3 _ _ ?_)
  have ib5 := ib'.upN ro' (.list (txs (fullL (B.pacts.take m)) ++ [.str x.name]))
  have fr5 : Fr1 o H o' (up H' r (.list (txs (fullL (B.pacts.take m)) ++ [.str x.name]))) := fr'.upF hr0
  have n5 := hn'.keep (H' := up H' r (.list (txs (fullL (B.pacts.take m)) ++ [.str x.name]))) fun ρ v h1 h2 h3 h4 => ⟨h3, by rw [up_other h1]; exact h4⟩
  have z5 : up H' r (.list (txs (fullL (B.pacts.take m)) ++ [.str x.name])) zv = some (.list (as.map .ref)) := by rw [up_other hzr]; exact hz'
  have d5 : up H' r (.list (txs (fullL (B.pacts.take m)) ++ [.str x.name])) d = some (.dict ep es) := by rw [up_other hrd.symm]; exact hdd'
  have e5 : up H' r (.list (txs (fullL (B.pacts.take m)) ++ [.str x.name])) e = some (.list (txs (doneL (B.pacts.take m)))) := by rw [up_other hre.symm]; exact hee'
  have r5 : up H' r (.list (txs (fullL (B.pacts.take m)) ++ [.str x.name])) r = some (.list (txs (fullL (B.pacts.take m)) ++ [.str x.name])) := up_same
  generalize up H' r (.list (txs (fullL (B.pacts.take m)) ++ [.str x.name])) = H5 at ib5 fr5 n5 z5 d5 e5 r5
  refine w_st fun K4 nx4 => ?_
  rw [w_asg, x_prim, xs_cons]
  refine pa_needs hA (ib5.pact hx ha) rfl fun zn _ hzn => ?_
  rw [xs_nil]
  refine p_listT hzn (Nat.le_trans hin.2.2.2 (by decide)) fun ρ hρ => ?_
  obtain ⟨ib6, f6⟩ := ib5.fresh hρ (.list (txs x.needs))
  have fr6 := fr5.trans f6
  obtain ⟨z6, zo6⟩ := f6.old _ _ z5 zo'
  obtain ⟨d6, do6⟩ := f6.old _ _ d5 do'
  obtain ⟨e6, eo6⟩ := f6.old _ _ e5 eo'
  obtain ⟨r6, ro6⟩ := f6.old _ _ r5 ro'
  rw [tsub, x_var]
  show wpX _ (.attr (.var 4) "name") _ _ _ _
  refine pa_name hA (ib6.pact hx ha) rfl ?_
  show match up H5 ρ (.list (txs x.needs)) d with | some (.dict _ _) => _ | _ => False
  rw [d6]
  have hρr : ρ ≠ r := fun h => by rw [h, r5] at hρ; cases hρ
  have hρe : ρ ≠ e := fun h => by rw [h, e5] at hρ; cases hρ
  have hρd : ρ ≠ d := fun h => by rw [h, d5] at hρ; cases hρ
  refine ⟨Nat.le_trans (show es.length ≤ 1000 by omega) (by decide), fun ep' => nx4 _ _ (second _ ⟨_, ep', putS es x.name (.ref ρ), _, rfl, ib6.upN do6 _, fr6.upF hd', ?_, ?_, up_same, ?_, zo6, ro6, do6, eo6, ?_, ?_⟩)⟩
  · rw [up_other hzd]; exact z6
  · rw [up_other hrd, r6, htk, hfu, txs_snoc]; rfl
  · rw [up_other hde.symm]; exact e6
  · have := put_len (es := es) (k := x.name) (v := .ref ρ); omega
  · intro y hy
    rw [look_put]
    by_cases hyx : y = x.name
    · rw [if_pos hyx]
      refine ⟨ρ, rfl, hρr, hρe, if_pos rfl, ?_, ?_⟩
      · rw [up_other hρd, up_same, hyx, hndx]
      · rw [hyx, hndx]; exact Nat.le_trans hin.2.2.2 (by decide)
    · rw [if_neg hyx]
      rw [htk, hfu] at hy
      have hy' : y ∈ fullL (B.pacts.take m) := by
        rcases List.mem_append.mp hy with h | h
        · exact h
        · exact absurd (List.mem_singleton.mp h) hyx
      obtain ⟨ρ', h1, h2, h3, h4, h5, h6⟩ := n5 y hy'
      obtain ⟨h7, h8⟩ := f6.old _ _ h5 h4
      refine ⟨ρ', h1, h2, h3, h8, ?_, h6⟩
      rw [up_other (fun z => by rw [z, d6] at h7; cases h7)]; exact h7
end
end Mine

end
section
open PySem PySem.W PyProof.Rows PySem.Spec PySem.SeqAt PySem.Calls
namespace Mine
section
variable {o : Addr → Option Role} {H : AHeap} {b f s p a : Addr} {as : List Addr} {B : Bk} {j : Nat} {x : Pc} {Q : AV → AHeap → Prop} {E : String → AHeap → Prop}

noncomputable def payAll : List (Str × Int) → Bk → Bk
  | [], B => B
  | e :: l, B => payAll l { B with aside := pt B.aside e.1 ((lk B.aside e.1).getD 0 - e.2) }
theorem payAll_snoc {e : Str × Int} : ∀ {l : List (Str × Int)} {B : Bk}, payAll (l ++ [e]) B = { payAll l B with aside := pt (payAll l B).aside e.1 ((lk (payAll l B).aside e.1).getD 0 - e.2) }
  | [], B => rfl
  | _ :: l, B => payAll_snoc (l := l)
set_option tactic.hygienic false in
theorem SameB.payAll : ∀ {l : List (Str × Int)} {B : Bk}, (∀ e ∈ l, hs B.aside e.1 = true) → SameB B (Mine.payAll l B) ∧ (Mine.payAll l B).pacts = B.pacts
  | [], B, _ => ⟨.refl, rfl⟩
  | e :: l, B, h => by
    have h0 := h e List.mem_cons_self
    have s1 : SameB B { B with aside := pt B.aside e.1 ((lk B.aside e.1).getD 0 - e.2) } := ⟨rfl, rfl, (pt_same h0).1, fun _ => rfl, (pt_same h0).2⟩
    obtain ⟨s2, p2⟩ := SameB.payAll (l := l) (B := { B with aside := pt B.aside e.1 ((lk B.aside e.1).getD 0 - e.2) }) fun e' he => by rw [s1.ah]; exact h e' (List.mem_cons_of_mem _ he)
    exact ⟨s1.trans s2, p2⟩
set_option tactic.hygienic false in
theorem payAll_loop {g : Gx} {V : VV} {QN : VV → AHeap → Prop} {QR : AV → AHeap → Prop} {EE : String → VV → AHeap → Prop} {v1 v2 v3 v5 : Option AV} (hA : g.c.P.attrs = BK.attrs) (hmd : g.md = true) (ib : IsBook o H b f s p as B) (hj : B.pacts[j]? = some x) (ha : as[j]? = some a) (hV : V = [some (.ref b), v1, v2, v3, some (.ref a), v5]) (hz : B.aside.length ≤ sizeLine) (able : ∀ e ∈ x.parts, hs B.aside e.1 = true)
    (q : ∀ H' v5', IsBook o H' b f s p as (payAll x.parts B) → Fr1 o H o H' → KD o H H' → QN [some (.ref b), v1, v2, v3, some (.ref a), v5'] H') :
    wpS g (.for (.var 5) (.attr (.var 4) "parts") [.assign (.sub (.attr (.var 0) "aside") (.sub (.var 5) (.lit (.int 0)))) (.bin .Sub (.sub (.attr (.var 0) "aside") (.sub (.var 5) (.lit (.int 0)))) (.sub (.var 5) (.lit (.int 1))))]) QN QR EE V H := by
  subst hV
  rw [s_for']
  refine ⟨hmd, ?_⟩
  refine pa_parts hA (ib.pact hj ha) rfl fun z ⟨hzd, ts, hts, hl⟩ => ?_
  refine wforI (xs := ts.map .ref) (by simp only [itemsOf]; rw [hts]) (fun m V' H' => (∃ pr, V' = [some (.ref b), v1, v2, v3, some (.ref a), pr]) ∧ IsBook o H' b f s p as (payAll (x.parts.take m) B) ∧ Fr1 o H o H' ∧ KD o H H') ⟨⟨_, rfl⟩, by rw [List.take_zero]; exact ib, .refl, fun _ _ => rfl⟩ ?_
  rintro I hI m V' H' ⟨⟨pr, rfl⟩, ib', fr', kd'⟩
  obtain ⟨sm, hp⟩ := SameB.payAll (l := x.parts.take m) (B := B) fun e he => able e (List.mem_of_mem_take he)
  refine ⟨kd' z hzd, fun hlen => ?_, fun y hy => ?_⟩
  · rw [hlen, List.length_map, pairs_len hl, List.take_length] at ib'
    exact q H' pr ib' fr' kd'
  rw [List.getElem?_map, Option.map_eq_some_iff] at hy
  obtain ⟨t, ht, rfl⟩ := hy
  obtain ⟨e, he, htd, htt⟩ := pairs_get hl ht
  have htt' : H' t = some (.tuple [.str e.1, .int e.2]) := by rw [kd' t htd]; exact htt
  have hsplit : x.parts.take (m + 1) = x.parts.take m ++ [e] := by rw [List.take_add_one, he]; rfl
  refine ⟨show 5 < 6 by decide, ?_⟩
  refine w_st fun K nx => ?_
  show wpS _ _ _ _ _ [some (.ref b), v1, v2, v3, some (.ref a), some (.ref t)] _
  rw [w_asg, x_bin, x_sub]
  refine at_aside hA ib' rfl ?_
  rw [x_sub, x_var]
  show wpX _ (.lit (.int 0)) _ _ _ _
  rw [x_lit]
  refine pair0 htt' ?_
  have hab : hs (payAll (x.parts.take m) B).aside e.1 = true := by rw [sm.ah]; exact able e (List.mem_of_getElem? he)
  refine sub_aside ib' (lk_get hab) ?_
  rw [x_sub, x_var]
  show wpX _ (.lit (.int 1)) _ _ _ _
  rw [x_lit]
  refine pair1 htt' ?_
  rw [b_sub, tsub]
  refine at_aside hA ib' rfl ?_
  rw [x_sub, x_var]
  show wpX _ (.lit (.int 0)) _ _ _ _
  rw [x_lit]
  refine pair0 htt' ?_
  obtain ⟨ep, hd⟩ := ib'.hs
  show match H' s with | some (.dict _ _) => _ | _ => False
  rw [hd]
  refine ⟨by rw [dI_len, sm.al]; exact hz, fun ep' => nx _ _ (hI _ _ _ ⟨⟨_, rfl⟩, ?_, fr'.trans (up_fr (by rw [ib'.os]; simp)), kd'.trans (KD.up ib'.os (by intro h; cases h))⟩)⟩
  rw [put_dI, hsplit, payAll_snoc]
  exact ib'.setAside ep' _

noncomputable def gainAll : List (Str × Int) → Bk → Bk
  | [], B => B
  | e :: l, B => gainAll l { B with free := pt B.free e.1 ((lk B.free e.1).getD 0 + e.2) }
theorem gainAll_snoc {e : Str × Int} : ∀ {l : List (Str × Int)} {B : Bk}, gainAll (l ++ [e]) B = { gainAll l B with free := pt (gainAll l B).free e.1 ((lk (gainAll l B).free e.1).getD 0 + e.2) }
  | [], B => rfl
  | _ :: l, B => gainAll_snoc (l := l)
set_option tactic.hygienic false in
theorem SameB.gainAll : ∀ {l : List (Str × Int)} {B : Bk}, (∀ e ∈ l, hs B.free e.1 = true) → SameB B (Mine.gainAll l B) ∧ (Mine.gainAll l B).pacts = B.pacts
  | [], B, _ => ⟨.refl, rfl⟩
  | e :: l, B, h => by
    have h0 := h e List.mem_cons_self
    have s1 : SameB B { B with free := pt B.free e.1 ((lk B.free e.1).getD 0 + e.2) } := ⟨rfl, (pt_same h0).1, rfl, (pt_same h0).2, fun _ => rfl⟩
    obtain ⟨s2, p2⟩ := SameB.gainAll (l := l) (B := { B with free := pt B.free e.1 ((lk B.free e.1).getD 0 + e.2) }) fun e' he => by rw [s1.fh]; exact h e' (List.mem_cons_of_mem _ he)
    exact ⟨s1.trans s2, p2⟩
set_option tactic.hygienic false in
theorem gainAll_loop {g : Gx} {V : VV} {QN : VV → AHeap → Prop} {QR : AV → AHeap → Prop} {EE : String → VV → AHeap → Prop} {v1 v2 v3 v5 : Option AV} (hA : g.c.P.attrs = BK.attrs) (hmd : g.md = true) (ib : IsBook o H b f s p as B) (hj : B.pacts[j]? = some x) (ha : as[j]? = some a) (hV : V = [some (.ref b), v1, v2, v3, some (.ref a), v5]) (hz : B.free.length ≤ sizeLine) (able : ∀ e ∈ x.gains, hs B.free e.1 = true)
    (q : ∀ H' v5', IsBook o H' b f s p as (gainAll x.gains B) → Fr1 o H o H' → KD o H H' → QN [some (.ref b), v1, v2, v3, some (.ref a), v5'] H') :
    wpS g (.for (.var 5) (.attr (.var 4) "gains") [.assign (.sub (.attr (.var 0) "free") (.sub (.var 5) (.lit (.int 0)))) (.bin .Add (.sub (.attr (.var 0) "free") (.sub (.var 5) (.lit (.int 0)))) (.sub (.var 5) (.lit (.int 1))))]) QN QR EE V H := by
  subst hV
  rw [s_for']
  refine ⟨hmd, ?_⟩
  refine pa_gains hA (ib.pact hj ha) rfl fun z ⟨hzd, ts, hts, hl⟩ => ?_
  refine wforI (xs := ts.map .ref) (by simp only [itemsOf]; rw [hts]) (fun m V' H' => (∃ pr, V' = [some (.ref b), v1, v2, v3, some (.ref a), pr]) ∧ IsBook o H' b f s p as (gainAll (x.gains.take m) B) ∧ Fr1 o H o H' ∧ KD o H H') ⟨⟨_, rfl⟩, by rw [List.take_zero]; exact ib, .refl, fun _ _ => rfl⟩ ?_
  rintro I hI m V' H' ⟨⟨pr, rfl⟩, ib', fr', kd'⟩
  obtain ⟨sm, hp⟩ := SameB.gainAll (l := x.gains.take m) (B := B) fun e he => able e (List.mem_of_mem_take he)
  refine ⟨kd' z hzd, fun hlen => ?_, fun y hy => ?_⟩
  · rw [hlen, List.length_map, pairs_len hl, List.take_length] at ib'
    exact q H' pr ib' fr' kd'
  rw [List.getElem?_map, Option.map_eq_some_iff] at hy
  obtain ⟨t, ht, rfl⟩ := hy
  obtain ⟨e, he, htd, htt⟩ := pairs_get hl ht
  have htt' : H' t = some (.tuple [.str e.1, .int e.2]) := by rw [kd' t htd]; exact htt
  have hsplit : x.gains.take (m + 1) = x.gains.take m ++ [e] := by rw [List.take_add_one, he]; rfl
  refine ⟨show 5 < 6 by decide, ?_⟩
  refine w_st fun K nx => ?_
  show wpS _ _ _ _ _ [some (.ref b), v1, v2, v3, some (.ref a), some (.ref t)] _
  rw [w_asg, x_bin, x_sub]
  refine at_free hA ib' rfl ?_
  rw [x_sub, x_var]
  show wpX _ (.lit (.int 0)) _ _ _ _
  rw [x_lit]
  refine pair0 htt' ?_
  have hab : hs (gainAll (x.gains.take m) B).free e.1 = true := by rw [sm.fh]; exact able e (List.mem_of_getElem? he)
  refine sub_free ib' (lk_get hab) ?_
  rw [x_sub, x_var]
  show wpX _ (.lit (.int 1)) _ _ _ _
  rw [x_lit]
  refine pair1 htt' ?_
  rw [b_add, tsub]
  refine at_free hA ib' rfl ?_
  rw [x_sub, x_var]
  show wpX _ (.lit (.int 0)) _ _ _ _
  rw [x_lit]
  refine pair0 htt' ?_
  obtain ⟨ep, hd⟩ := ib'.hf
  show match H' f with | some (.dict _ _) => _ | _ => False
  rw [hd]
  refine ⟨by rw [dI_len, sm.fl]; exact hz, fun ep' => nx _ _ (hI _ _ _ ⟨⟨_, rfl⟩, ?_, fr'.trans (up_fr (by rw [ib'.of]; simp)), kd'.trans (KD.up ib'.of (by intro h; cases h))⟩)⟩
  rw [put_dI, hsplit, gainAll_snoc]
  exact ib'.setFree ep' _
set_option tactic.hygienic false in
theorem end_pact {g : Gx} {V : VV} {QN : VV → AHeap → Prop} {QR : AV → AHeap → Prop} {EE : String → VV → AHeap → Prop} {i : Nat} {st : Sta} {rest : List S} (hA : g.c.P.attrs = BK.attrs) (ib : IsBook o H b f s p as B) (hj : B.pacts[j]? = some x) (ha : as[j]? = some a) (hV : V[i]? = some (some (.ref a)))
    (q : ∀ o' H', IsBook o' H' b f s p as { B with pacts := B.pacts.set j { x with inside := [], state := st } } → Fr1 o H o' H' → wpSs g rest QN QR EE V H') : wpSs g (.assign (.attr (.var i) "inside") (.dict [] []) :: .assign (.attr (.var i) "state") (.lit (.str st.str)) :: rest) QN QR EE V H := by
  have hC : ∀ n, BK.attrs.contains ("Pact", n) = true → g.c.P.attrs.contains ("Pact", n) = true := fun n h => by rw [hA]; exact h
  obtain ⟨h0, pa, ga, ne, ins, ep, h, h1, h2, h3, h4, h5, h6⟩ := ib.pact hj ha
  refine w_st fun K nx => ?_
  rw [w_asg, x_dict0]
  intro w hw
  have haw : a ≠ w := fun e => by rw [e, hw] at h; cases h
  refine st_a hV (hC _ rfl) (by rw [up_other haw]; exact h) (by exact (show 7 ≤ 100 by decide)) (nx _ _ ?_)
  refine w_st fun K nx => ?_
  rw [w_asg, x_lit]
  refine st_a hV (hC _ rfl) up_same (by exact (show 7 ≤ 100 by decide)) (nx _ _ ?_)
  have kb0 : KB (fun _ => True) o (fun y => if y = w then some (.inside j) else o y) H (up H w (.dict 0 [])) := fun y r v _ hr hv _ => by
    have : y ≠ w := fun e => by rw [e, hw] at hv; cases hv
    exact ⟨(if_neg this).trans hr, by rw [up_other this]; exact hv⟩
  have ib1 := ib.congr kb0
  generalize ho : (fun y => if y = w then some (Role.inside j) else o y) = o' at kb0 ib1
  have hoa : o' a = some (.pact j) := by rw [← ho]; exact (if_neg haw).trans h0
  have how : o' w = some (.inside j) := by rw [← ho]; exact if_pos rfl
  have kb1 : ∀ {X : AHeap} {y : AObj}, KB (fun r => r ≠ .pact j ∧ r ≠ .inside j) o' o' X (up X a y) := kb_up fun r hr => by rw [hoa] at hr; cases hr; exact fun z => z.1 rfl
  have kbd : ∀ {X : AHeap} {y : AObj}, KB (fun r => r = .data) o' o' X (up X a y) := kb_up fun r hr => by rw [hoa] at hr; cases hr; exact fun z => by cases z
  have kb0' : KB (fun r => r = .data) o o' H (up H w (.dict 0 [])) := fun y r v _ hr hv hb => kb0 y r v trivial hr hv hb
  refine q o' _ (ib1.setPact hj ha (fun y r v hr ho hv hb => kb1 y r v hr ho (kb1 y r v hr ho hv hb).2 hb) (⟨hoa, pa, ga, ne, w, 0, up_same, ((h1.congr kb0' rfl).congr kbd rfl).congr kbd rfl, ((h2.congr kb0' rfl).congr kbd rfl).congr kbd rfl, (kb0' ne _ _ rfl h3 h4 rfl).1, ?_, how, ?_⟩ : IsPact o' _ j a { x with inside := [], state := st }) rfl) ⟨fun y v hy ho' => ?_, fun y h => up_gr (up_gr (up_gr h))⟩
  · have := kb0' ne _ _ rfl h3 h4 rfl
    have hna : ne ≠ a := ne_role this.1 hoa (by intro z; cases z)
    rw [up_other hna, up_other hna]; exact this.2
  · rw [up_other haw.symm, up_other haw.symm, up_same]; rfl
  · have hyw : y ≠ w := fun e => by rw [e, hw] at hy; cases hy
    have hya : y ≠ a := fun e => by rw [e, h0] at ho'; cases ho'
    exact ⟨by rw [up_other hya, up_other hya, up_other hyw]; exact hy, by rw [← ho]; exact (if_neg hyw).trans ho'⟩
end
noncomputable def doneB (B : Bk) (j : Nat) (x : Pc) : Bk := { gainAll x.gains (payAll x.parts B) with pacts := B.pacts.set j { x with inside := [], state := .dn } }
noncomputable def settleB : List Str → Bk → Bk
  | [], B => B
  | k :: r, B => settleB r (match pAt B.pacts k with | some e => doneB B e.1 e.2 | none => B)
set_option tactic.hygienic false in
theorem names_set : ∀ {ps : List Pc} {j : Nat} {x x' : Pc}, ps[j]? = some x → x'.name = x.name → (ps.set j x').map (·.name) = ps.map (·.name)
  | q :: r, 0, x, x', h, e => by cases h; simp [e]
  | q :: r, j + 1, x, x', h, e => by rw [List.set_cons_succ, List.map_cons, List.map_cons, names_set (ps := r) (j := j) h e]
  | [], _, _, _, h, _ => by cases h
set_option tactic.hygienic false in
theorem pAt_mem : ∀ {ps : List Pc} {k : Str}, k ∈ ps.map (·.name) → ∃ e, pAt ps k = some e
  | q :: r, k, h => by
    unfold pAt
    by_cases e : q.name = k
    · exact ⟨_, if_pos e⟩
    · rw [if_neg e]
      rw [List.map_cons] at h
      obtain ⟨w, hw⟩ := pAt_mem (ps := r) ((List.mem_cons.mp h).resolve_left fun z => e z.symm)
      rw [hw]; exact ⟨_, rfl⟩
set_option tactic.hygienic false in
theorem BkOK.ends {B : Bk} {j : Nat} {x : Pc} (ok : BkOK B) (hj : B.pacts[j]? = some x) : SameB B (gainAll x.gains (payAll x.parts B)) ∧ (gainAll x.gains (payAll x.parts B)).pacts = B.pacts ∧ SameB B (payAll x.parts B) ∧ (payAll x.parts B).pacts = B.pacts := by
  obtain ⟨s1, p1⟩ := SameB.payAll (l := x.parts) (B := B) fun e he => ok.both _ (ok.purse j x hj e (.inl he))
  obtain ⟨s2, p2⟩ := SameB.gainAll (l := x.gains) (B := payAll x.parts B) fun e he => by rw [s1.fh]; exact ok.purse j x hj e (.inr he)
  exact ⟨s1.trans s2, p2.trans p1, s1, p1⟩
set_option tactic.hygienic false in
theorem BkOK.done {B : Bk} {j : Nat} {x : Pc} (ok : BkOK B) (hj : B.pacts[j]? = some x) : BkOK (doneB B j x) := by
  obtain ⟨sm, _⟩ := ok.ends hj
  refine ok.keep ⟨sm.day, sm.fl, sm.al, sm.fh, sm.ah⟩ List.length_set (fun m y hy => ?_) fun m y hy => ?_
  · rcases set_get hy with ⟨rfl, rfl, _⟩ | ⟨_, h⟩
    · exact ⟨x, hj, rfl, rfl, rfl, fun k hk => by cases hk⟩
    · exact ⟨y, h, rfl, rfl, rfl, ok.part m y h⟩
  · rcases set_get hy with ⟨rfl, rfl, _⟩ | ⟨_, h⟩
    · exact Nat.zero_le _
    · exact (ok.inl m y h).1
inductive SetI (B : Bk) (o : Addr → Option Role) (H : AHeap) (b f s p : Addr) (as : List Addr) (g : List Str) (v1 : Option AV) (z : Addr) (m : Nat) (V' : VV) (H' : AHeap) : Prop
  | mk (o' : Addr → Option Role) (B' : Bk) (p3 p4 p5 : Option AV) (hV : V' = [some (.ref b), v1, some (.ref z), p3, p4, p5]) (ib : IsBook o' H' b f s p as B') (ok : BkOK B') (fr : Fr1 o H o' H') (hz : H' z = some (.list (txs g))) (zo : o' z = none) (hn : B'.pacts.map (·.name) = B.pacts.map (·.name)) (hR : settleB (g.drop m) B' = settleB g B) : SetI B o H b f s p as g v1 z m V' H'
section
variable {c : Cx} {P : Pg} (G : Gd c P) (U : HasP P) {n : Nat} {md : Bool} {Q : AV → AHeap → Prop} {E : String → AHeap → Prop} {H : AHeap} {o : Addr → Option Role} {b f s p a : Addr} {as : List Addr} {B : Bk} {j : Nat} {x : Pc}
set_option tactic.hygienic false in
theorem IsBook.extZ {H' : AHeap} {z : Addr} (ib : IsBook o H b f s p as B) (hE : Ext H H') (hz : H z = none) : ∃ o', IsBook o' H' b f s p as B ∧ Fr1 o H o' H' ∧ o' z = none :=
  ⟨fun a => if a = z then none else o a, ib.congr fun a r v _ hr hv _ => ⟨(if_neg (fun e => by rw [e, hz] at hv; cases hv)).trans hr, hE a v hv⟩, ⟨fun a v h k => ⟨hE a v h, (if_neg (fun e => by rw [e, hz] at h; cases h)).trans k⟩, fun a h => hE.none h⟩, if_pos rfl⟩
include G U
set_option tactic.hygienic false in
theorem settle_ok (hU : P.fns.lookup "Book.settle" = some BK.f_Book_settle) (hU0 : P.fns.lookup "Book.standing" = some BK.f_Book_standing) (hU1 : P.fns.lookup "Pact.is_full" = some BK.f_Pact_is_full) (g1 : P.fns.lookup "greatest" = some BK.f_greatest) (g2 : P.fns.lookup "are_met" = some BK.f_are_met) (g3 : P.fns.lookup "table_of" = some BK.f_table_of)
    (ib : IsBook o H b f s p as B) (ok : BkOK B) (nd : (B.pacts.map (·.name)).Nodup)
    (q : ∀ z g o' H', H z = none → o' z = none → H' z = some (.list (txs g)) → Grt (fullL B.pacts) (ndB B) (doneL B.pacts) g → IsBook o' H' b f s p as (settleB g B) → Fr1 o H o' H' → Q (.ref z) H') : CallOK c (n + 3) true "Book.settle" [.ref b] Q E H := by
  refine G.call (F := BK.f_Book_settle) hU rfl ?_
  have hA : c.P.attrs = BK.attrs := by rw [G.hP, U.a.attrs]
  have hM : c.P.meths = BK.meths := by rw [G.hP, U.a.meths]
  show wpSs _ _ _ _ _ [some (.ref b), none, none, none, none, none] _
  refine w_st fun K nx => ?_
  rw [w_asg]
  refine at_meth hM (by decide) (by decide) ib rfl ?_
  rw [xs_nil]
  refine standing_ok G U hU0 hU1 ib ok nd fun zt r d e o1 H1 hzt zto ro dO eo ht hr hd he ib1 f1 => ?_
  refine ⟨show 1 < 6 by decide, nx _ _ ?_⟩
  refine w_st fun K nx => ?_
  show wpS _ _ _ _ _ [some (.ref b), some (.ref zt), none, none, none, none] _
  dsimp [v_0, x_lit, x_var, x_bin, x_neg, x_not, x_ao, x_cmp, x_cmp2, x_sub, x_glob, x_call, x_prim, x_bm, x_isi, x_list, x_tup, x_dict0, xs_nil, xs_cons, ao_one, ao_cons, xc_none, xc_some, tv, wtg, b_add, b_sub, b_mul, b_div, b_mod, b_pow, b_adds, c_lt, c_le, c_gt, c_ge, c_eq, c_ne, c_eqs, c_nes, c_in, c_nin, t_bool, t_int, t_none, w_cons, w_nil, w_ite, w_ret, w_asg, s_expr', s_raise']
  refine sub_tup (v := .ref r) ht (by decide) rfl (by simp) ?_
  refine sub_tup (v := .ref d) ht (by decide) rfl (by simp) ?_
  refine sub_tup (v := .ref e) ht (by decide) rfl (by simp) ?_
  have lp := ok.len
  refine greatest_ok G g1 g2 g3 hr hd he (Nat.le_trans fullL_len (by omega)) (Nat.le_trans doneL_len (by omega)) fun z H2 g hE hz0 hz2 hg => ?_
  obtain ⟨o2, ib2, f2, zo2⟩ := ib1.extZ hE hz0
  have fr2 := f1.trans f2
  have hgn : ∀ k ∈ g, k ∈ B.pacts.map (·.name) := fun k hk => by
    have := hg.sub.subset hk
    unfold fullL at this
    obtain ⟨y, h1, h2⟩ := List.mem_map.mp this
    rw [← h2]; exact List.mem_map_of_mem (List.mem_filter.mp h1).1
  refine ⟨by decide, nx _ _ ?_⟩
  refine w_st fun K nx => ?_
  rw [s_for', x_var]
  refine ⟨rfl, ?_⟩
  show WFor _ _ (.ref z) _ _
  refine wforI (xs := txs g) (by simp only [itemsOf]; rw [hz2]) (SetI B o H b f s p as g (some (.ref zt)) z) ⟨o2, B, none, none, none, rfl, ib2, ok, fr2, hz2, zo2, rfl, rfl⟩ ?_
  rintro I hI m V' H' ⟨o', B', p3, p4, p5, rfl, ib', ok', fr', hz', zo', hn', hR'⟩
  refine ⟨by show H' z = _; rw [hz', hz2], fun hm => ?_, fun y hy => ?_⟩
  · rw [txs_length] at hm
    rw [hm, List.drop_length] at hR'
    exact nx _ _ (q z g o' H' (f1.gr z hz0) zo' hz' hg (hR' ▸ ib') fr')
  obtain ⟨k, rfl, hk⟩ := txs_get hy
  have hdrop : g.drop m = k :: g.drop (m + 1) := by
    obtain ⟨hlt, hee⟩ := List.getElem?_eq_some_iff.mp hk
    rw [← hee]; exact List.drop_eq_getElem_cons hlt
  obtain ⟨w, hw⟩ := pAt_mem (ps := B'.pacts) (k := k) (by rw [hn']; exact hgn k (List.mem_of_getElem? hk))
  obtain ⟨j, x⟩ := w
  have hj := (pAt_get hw).1
  rw [hdrop, settleB, hw] at hR'
  obtain ⟨a, ha, _⟩ := pactsAt_get ib'.ps hj
  obtain ⟨s2, q2, s1, q1⟩ := ok'.ends hj
  refine ⟨show 3 < 6 by decide, ?_⟩
  refine w_st fun K2 nx2 => ?_
  show wpS _ _ _ _ _ [some (.ref b), some (.ref zt), some (.ref z), some (.str k), p4, p5] _
  rw [w_asg, x_sub]
  refine at_pacts hA ib' rfl ?_
  rw [x_var]
  refine sub_pacts ib' hw fun a' ha' _ => ?_
  rw [ha] at ha'; cases ha'
  refine ⟨show 4 < 6 by decide, nx2 _ _ ?_⟩
  refine w_st fun K2 nx2 => ?_
  refine payAll_loop hA rfl ib' hj ha rfl ok'.sz.2 (fun e he => ok'.both _ (ok'.purse j x hj e (.inl he))) fun H3 v5 ib3 f3 _ => nx2 _ _ ?_
  refine w_st fun K2 nx2 => ?_
  refine gainAll_loop hA rfl ib3 (by rw [q1]; exact hj) ha rfl (by rw [s1.fl]; exact ok'.sz.1) (fun e he => by rw [s1.fh]; exact ok'.purse j x hj e (.inr he)) fun H4 v5' ib4 f4 _ => nx2 _ _ ?_
  refine end_pact (i := 4) (st := .dn) hA ib4 (by rw [q2]; exact hj) ha rfl fun o5 H5 ib5 f5 => ?_
  rw [q2] at ib5
  have f35 := (f3.trans f4).trans f5
  obtain ⟨hz5, zo5⟩ := f35.old _ _ hz' zo'
  exact hI _ _ _ ⟨o5, doneB B' j x, _, _, _, rfl, ib5, ok'.done hj, fr'.trans f35, hz5, zo5, (names_set (x' := { x with inside := [], state := .dn }) hj rfl).trans hn', hR'⟩
end
end Mine

end
section
open PySem PySem.W PyProof.Rows PySem.Spec PySem.SeqAt PySem.Calls
namespace Mine
abbrev pairsH (H : AHeap) (ts : List Addr) (l : List (AV × AV)) : Prop := pairsG (fun _ => none) H ts l
set_option tactic.hygienic false in
theorem pairsH.in {o : Addr → Option Role} {H H₂ : AHeap} {b : Addr} {B : Bk} (hb : H b = some (.book B)) (hold : ∀ a x, H a = some x → a ≠ b → H₂ a = some x ∧ o a = none) : ∀ {ts : List Addr} {l : List (AV × AV)}, pairsH H ts l → pairsG o H₂ ts l
  | [], [], _ => trivial
  | t :: ts, e :: l, h => by
    have hne : t ≠ b := fun z => by have := h.1.2.1; rw [z, hb] at this; cases this
    exact ⟨⟨(hold t _ h.1.2.1 hne).2, (hold t _ h.1.2.1 hne).1, h.1.2.2⟩, pairsH.in hb hold h.2⟩
  | [], _ :: _, h => h.elim
  | _ :: _, [], h => h.elim
section
variable {c : Cx} {P : Pg} (G : Gd c P) (U : HasP P) {n : Nat} {md : Bool} {Q : AV → AHeap → Prop} {E : String → AHeap → Prop} {H : AHeap} {b : Addr} {B : Bk}
set_option tactic.hygienic false in
theorem ne_book {a : Addr} {xs : List AV} (hb : H b = some (.book B)) (h : H a = some (.list xs)) : a ≠ b := fun z => by rw [z, hb] at h; cases h
include G U
set_option tactic.hygienic false in
theorem aside_B {v w : AV} (hU : P.fns.lookup "Book.set_aside" = some BK.f_Book_set_aside) (hU2 : P.fns.lookup "Pact.part_of" = some BK.f_Pact_part_of) (hb : H b = some (.book B)) (kv : Kv v) (kw : Kv w) (ok : BkOK B) (q : Ends (asideQ B v w) (fun B' => Q .none (up H b (.book B'))) (fun cl => E cl H)) : CallOK c (n + 4) true "Book.set_aside" [.ref b, v, w] Q E H := by
  refine book_call hb fun H₂ o f s p as ib hold => aside_raw G U hU hU2 ib kv.kn kw.kn ok ?_
  revert q
  cases asideQ B v w with
  | ok B' => exact fun q H' ib' fr => ⟨o, f, s, p, as, B', ib', fr, .inl ⟨(fun _ h => by cases h), q⟩⟩
  | error cl => exact fun q => ⟨o, f, s, p, as, B, ib, .refl, by rw [up_id hb]; exact q⟩
set_option tactic.hygienic false in
theorem draw_B {v w : AV} (hU : P.fns.lookup "Book.draw_back" = some BK.f_Book_draw_back) (hU2 : P.fns.lookup "Pact.part_of" = some BK.f_Pact_part_of) (hU3 : P.fns.lookup "Book.given_back" = some BK.f_Book_given_back) (hb : H b = some (.book B)) (kv : Kv v) (kw : Kv w) (ok : BkOK B) (q : Ends (drawQ B v w) (fun B' => Q .none (up H b (.book B'))) (fun cl => E cl H)) : CallOK c (n + 4) true "Book.draw_back" [.ref b, v, w] Q E H := by
  refine book_call hb fun H₂ o f s p as ib hold => draw_raw G U hU hU2 hU3 ib kv.kn kw.kn ok ?_
  revert q
  cases drawQ B v w with
  | ok B' => exact fun q H' ib' fr => ⟨o, f, s, p, as, B', ib', fr, .inl ⟨(fun _ h => by cases h), q⟩⟩
  | error cl => exact fun q => ⟨o, f, s, p, as, B, ib, .refl, by rw [up_id hb]; exact q⟩
set_option tactic.hygienic false in
theorem tell_B {v last : AV} {pl gl nl : Addr} {ts us : List Addr} {pL gL : List (AV × AV)} {nL : List AV} (hU : P.fns.lookup "Book.tell" = some BK.f_Book_tell) (hU1 : P.fns.lookup "Book.pairs_of" = some BK.f_Book_pairs_of) (hU2 : P.fns.lookup "Book.needs_of" = some BK.f_Book_needs_of) (hU3 : P.fns.lookup "Pact.__init__" = some BK.f_Pact___init__) (hcl : c.P.classes.contains "Pact" = true)
    (hb : H b = some (.book B)) (ok : BkOK B) (kv : Kv v) (kl : Kv last) (hp : H pl = some (.list (ts.map .ref))) (hpg : pairsH H ts pL) (hg : H gl = some (.list (us.map .ref))) (hgg : pairsH H us gL) (hn : H nl = some (.list nL)) (hng : ∀ v ∈ nL, Kv v) (l1 : pL.length ≤ 1000) (l2 : gL.length ≤ 1000) (l3 : nL.length ≤ 1000)
    (q : Ends (tellQ B v pL gL nL last) (fun B' => Q .none (up H b (.book B'))) (fun cl => E cl H)) : CallOK c (n + 4) true "Book.tell" [.ref b, v, .ref pl, .ref gl, .ref nl, last] Q E H := by
  refine book_call hb fun H₂ o f s p as ib hold => ?_
  obtain ⟨hp', hpo⟩ := hold _ _ hp (ne_book hb hp)
  obtain ⟨hg', hgo⟩ := hold _ _ hg (ne_book hb hg)
  obtain ⟨hn', hno⟩ := hold _ _ hn (ne_book hb hn)
  refine tell_raw G U hU hU1 hU2 hU3 hcl ib ok kv kl hp' hpo (hpg.in hb hold) hg' hgo (hgg.in hb hold) hn' hno hng l1 l2 l3 ?_
  revert q
  cases tellQ B v pL gL nL last with
  | ok B' => exact fun q o' H' as' ib' fr => ⟨o', f, s, p, as', B', ib', fr, .inl ⟨(fun _ h => by cases h), q⟩⟩
  | error cl => exact fun q o' H' ib' fr => ⟨o', f, s, p, as, B, ib', fr, by rw [up_id hb]; exact q⟩
set_option tactic.hygienic false in
theorem off_B {w : AV} (hU0 : P.fns.lookup "Book.call_off" = some BK.f_Book_call_off) (hU : P.fns.lookup "Book.dragged" = some BK.f_Book_dragged) (hU1 : P.fns.lookup "Book.first_dragged" = some BK.f_Book_first_dragged) (hU2 : P.fns.lookup "Book.fell" = some BK.f_Book_fell) (hU3 : P.fns.lookup "Book.given_back" = some BK.f_Book_given_back)
    (hb : H b = some (.book B)) (ok : BkOK B) (kw : Kv w) (q : match offQ B w with | .ok r => ∀ z, H z = none → Q (.ref z) (up (up H b (.book r.1)) z (.list (txs r.2))) | .error cl => E cl H) : CallOK c (n + 4) true "Book.call_off" [.ref b, w] Q E H := by
  refine book_call hb fun H₂ o f s p as ib hold => off_raw G U hU0 hU hU1 hU2 hU3 ib ok kw.kn ?_
  revert q
  cases offQ B w with
  | ok r => exact fun q z o' H' hz ho hz' ib' fr => ⟨o', f, s, p, as, r.1, ib', fr, .inr ⟨z, _, rfl, none_of G U.a hb ib hold hz, hz', ho, q z (none_of G U.a hb ib hold hz)⟩⟩
  | error cl => exact fun q => ⟨o, f, s, p, as, B, ib, .refl, by rw [up_id hb]; exact q⟩
set_option tactic.hygienic false in
theorem settle_B (hU : P.fns.lookup "Book.settle" = some BK.f_Book_settle) (hU0 : P.fns.lookup "Book.standing" = some BK.f_Book_standing) (hU1 : P.fns.lookup "Pact.is_full" = some BK.f_Pact_is_full) (g1 : P.fns.lookup "greatest" = some BK.f_greatest) (g2 : P.fns.lookup "are_met" = some BK.f_are_met) (g3 : P.fns.lookup "table_of" = some BK.f_table_of)
    (hb : H b = some (.book B)) (ok : BkOK B) (nd : (B.pacts.map (·.name)).Nodup) (q : ∀ z g, H z = none → Grt (fullL B.pacts) (ndB B) (doneL B.pacts) g → Q (.ref z) (up (up H b (.book (settleB g B))) z (.list (txs g)))) : CallOK c (n + 3) true "Book.settle" [.ref b] Q E H := by
  refine book_call hb fun H₂ o f s p as ib hold => settle_ok G U hU hU0 hU1 g1 g2 g3 ib ok nd fun z g o' H' hz ho hz' hg ib' fr => ?_
  exact ⟨o', f, s, p, as, _, ib', fr, .inr ⟨z, _, rfl, none_of G U.a hb ib hold hz, hz', ho, q z g (none_of G U.a hb ib hold hz) hg⟩⟩
set_option tactic.hygienic false in
theorem state_B {v : AV} (hU : P.fns.lookup "Book.state_of" = some BK.f_Book_state_of) (hb : H b = some (.book B)) (kv : Kv v) (q : match pactV B v with | some (j, x) => Q (.str x.state.str) H | none => E "NoPact" H) : CallOK c (n + 3) true "Book.state_of" [.ref b, v] Q E H := by
  refine book_call hb fun H₂ o f s p as ib hold => state_of_raw G U hU ib kv.kn ?_
  revert q
  cases pactV B v with
  | some e => exact fun q => ⟨o, f, s, p, as, B, ib, .refl, .inl ⟨(fun _ h => by cases h), by rw [up_id hb]; exact q⟩⟩
  | none => exact fun q => ⟨o, f, s, p, as, B, ib, .refl, by rw [up_id hb]; exact q⟩
set_option tactic.hygienic false in
theorem why_none {v : AV} (hU : P.fns.lookup "Book.why_not" = some BK.f_Book_why_not) (hb : H b = some (.book B)) (kv : Kv v) (hn : pactV B v = none) (q : E "NoPact" H) : CallOK c (n + 3) true "Book.why_not" [.ref b, v] Q E H := by
  refine book_call hb fun H₂ o f s p as ib hold => ?_
  refine G.call (F := BK.f_Book_why_not) hU rfl ?_
  have hM : c.P.meths = BK.meths := by rw [G.hP, U.a.meths]
  show wpSs _ _ _ _ _ [some (.ref b), some v, none] _
  refine w_st fun K nx => ?_
  rw [s_expr']
  refine at_meth hM (by decide) (by decide) ib rfl ?_
  dsimp [v_0, x_lit, x_var, x_bin, x_neg, x_not, x_ao, x_cmp, x_cmp2, x_sub, x_glob, x_call, x_prim, x_bm, x_isi, x_list, x_tup, x_dict0, xs_nil, xs_cons, ao_one, ao_cons, xc_none, xc_some, tv, wtg, b_add, b_sub, b_mul, b_div, b_mod, b_pow, b_adds, c_lt, c_le, c_gt, c_ge, c_eq, c_ne, c_eqs, c_nes, c_in, c_nin, t_bool, t_int, t_none]
  refine need_pact_ok G U ib kv.kn ?_
  rw [hn]
  exact ⟨o, f, s, p, as, B, ib, .refl, by rw [up_id hb]; exact q⟩
set_option tactic.hygienic false in
theorem pass_none {i : Int} (hU : P.fns.lookup "Book.pass_days" = some BK.f_Book_pass_days) (hb : H b = some (.book B)) (hi : i < 1) (q : E "NoDay" H) : CallOK c (n + 2) true "Book.pass_days" [.ref b, .int i] Q E H := by
  refine G.call (F := BK.f_Book_pass_days) hU rfl ?_
  show wpSs _ _ _ _ _ [some (.ref b), some (.int i), none, none] _
  refine w_st fun K nx => ?_
  rw [w_ite, x_ao, ao_cons, x_not, x_call, xs_cons, x_var]
  show CallOK _ _ _ _ [.int i] _ _ _
  refine is_whole_ok G U.a (v := .int i) ⟨⟨_, rfl⟩, fun s h => by cases h⟩ ?_
  show wpAO _ false [_] _ _ _ _
  rw [ao_one, x_cmp, x_var]
  show wpX _ (.lit (.int 1)) _ _ _ _
  rw [x_lit, c_lt, t_bool, decide_eq_true hi]
  exact ⟨rfl, q⟩
end
end Mine

end
section
open PySem PySem.W PyProof.Rows PySem.Spec PySem.SeqAt PySem.Calls
namespace Mine.L14
noncomputable def f__law_strange : Fn := ⟨1, ["_law_cell", "_law_letters", "_law_word", "_law_rest", "_law_j"], [
  .assign (.var 1) (.lit (.str (Str.ofString "abcdefghijklmnopqrstuvwxyz"))),
  .assign (.var 2) (.lit (.str (Str.ofString "z"))),
  .assign (.var 3) (.bin .FloorDiv (.var 0) (.lit (.int 12))),
  .for (.var 4) (.prim .range [(.bin .Mod (.var 0) (.lit (.int 12)))]) [.assign (.var 2) (.bin .Add (.var 2) (.sub (.var 1) (.bin .Mod (.var 3) (.lit (.int 26))))),
    .assign (.var 3) (.bin .FloorDiv (.var 3) (.lit (.int 26)))],
  .ret (.var 2)]⟩
noncomputable def f__law_told : Fn := ⟨5, ["_law_book_here", "_law_kind", "_law_way", "_law_n", "_law_word", "_law_pair"], [
  .assign (.var 5) (.list [(.tuple [(.lit (.str (Str.ofString "till"))), (.var 3)])]),
  .ite (.ao true [(.cmp .Eq (.var 1) (.lit (.int 0))), (.cmp .Eq (.var 2) (.lit (.int 0)))]) [.ret (.meth (.var 0) "open_purse" [(.bm (.var 4) .upper [])])] [],
  .ite (.cmp .Eq (.var 1) (.lit (.int 0))) [.ret (.meth (.var 0) "tell" [(.bin .Add (.var 4) (.lit (.str (Str.ofString "-")))), (.var 5), (.var 5), (.list []), (.lit (.int 9))])] [],
  .ite (.cmp .Eq (.var 1) (.lit (.int 5))) [.ret (.meth (.var 0) "tell" [(.lit (.str (Str.ofString "new"))), (.sub (.list [(.var 5), (.list [])]) (.var 2)), (.sub (.list [(.list []), (.var 5)]) (.var 2)), (.list []), (.lit (.int 9))])] [],
  .ite (.cmp .Eq (.var 1) (.lit (.int 6))) [.ret (.meth (.var 0) "tell" [(.lit (.str (Str.ofString "new"))), (.var 5), (.var 5), (.sub (.list [(.list [(.lit (.str (Str.ofString "new")))]), (.list [(.var 4), (.var 4)])]) (.var 2)), (.lit (.int 9))])] [],
  .ite (.cmp .Eq (.var 1) (.lit (.int 7))) [.ret (.meth (.var 0) "tell" [(.lit (.str (Str.ofString "new"))), (.var 5), (.list [(.tuple [(.lit (.str (Str.ofString "quay"))), (.bin .Add (.bin .Add (.var 3) (.lit (.int 1))) (.var 2))])]), (.list []), (.lit (.int 9))])] [],
  .ite (.cmp .Eq (.var 1) (.lit (.int 8))) [.ret (.meth (.var 0) "tell" [(.lit (.str (Str.ofString "new"))), (.var 5), (.var 5), (.bin .Add (.sub (.list [(.list []), (.list [(.var 4)])]) (.var 2)) (.list [(.lit (.str (Str.ofString "gone")))])), (.lit (.int 9))])] [],
  .ite (.cmp .Eq (.var 2) (.lit (.int 0))) [.ret (.meth (.var 0) "tell" [(.lit (.str (Str.ofString "new"))), (.var 5), (.var 5), (.list []), (.bin .Sub (.neg (.lit (.int 1))) (.var 3))])] [],
  .ret (.meth (.var 0) "pass_days" [(.bin .Sub (.lit (.int 1)) (.var 3))])]⟩
noncomputable def f__law_done : Fn := ⟨5, ["_law_book_here", "_law_kind", "_law_way", "_law_n", "_law_word"], [
  .ite (.cmp .Eq (.var 1) (.lit (.int 1))) [.ret (.meth (.var 0) "put" [(.lit (.str (Str.ofString "till"))), (.sub (.list [(.bin .Sub (.lit (.int 1)) (.var 3)), (.bin .Add (.bin .Pow (.lit (.int 10)) (.lit (.int 30))) (.var 3))]) (.var 2))])] [],
  .ite (.ao true [(.cmp .Eq (.var 1) (.lit (.int 2))), (.cmp .Eq (.var 2) (.lit (.int 0)))]) [.ret (.meth (.var 0) "open_purse" [(.lit (.str (Str.ofString "quay")))])] [],
  .ite (.cmp .Eq (.var 1) (.lit (.int 2))) [.ret (.meth (.var 0) "tell" [(.lit (.str (Str.ofString "paid"))), (.list [(.tuple [(.lit (.str (Str.ofString "till"))), (.var 3)])]), (.list [(.tuple [(.lit (.str (Str.ofString "till"))), (.var 3)])]), (.list []), (.lit (.int 9))])] [],
  .ite (.ao true [(.cmp .Eq (.var 1) (.lit (.int 3))), (.cmp .Eq (.var 2) (.lit (.int 0)))]) [.ret (.meth (.var 0) "put" [(.var 4), (.var 3)])] [],
  .ite (.cmp .Eq (.var 1) (.lit (.int 3))) [.ret (.meth (.var 0) "aside_of" [(.var 4)])] [],
  .ite (.ao true [(.cmp .Eq (.var 1) (.lit (.int 4))), (.cmp .Eq (.var 2) (.lit (.int 0)))]) [.ret (.meth (.var 0) "take" [(.lit (.str (Str.ofString "till"))), (.bin .Add (.lit (.int 50)) (.var 3))])] [],
  .ite (.cmp .Eq (.var 1) (.lit (.int 4))) [.ret (.meth (.var 0) "set_aside" [(.lit (.str (Str.ofString "quay"))), (.lit (.str (Str.ofString "two")))])] [],
  .ite (.ao true [(.cmp .Eq (.var 1) (.lit (.int 10))), (.cmp .Eq (.var 2) (.lit (.int 0)))]) [.ret (.meth (.var 0) "call_off" [(.var 4)])] [],
  .ite (.cmp .Eq (.var 1) (.lit (.int 10))) [.ret (.meth (.var 0) "why_not" [(.var 4)])] [],
  .ite (.cmp .Eq (.var 1) (.lit (.int 11))) [.ret (.meth (.var 0) "set_aside" [(.lit (.str (Str.ofString "till"))), (.sub (.list [(.lit (.str (Str.ofString "gone"))), (.lit (.str (Str.ofString "paid")))]) (.var 2))])] [],
  .ite (.cmp .Eq (.var 1) (.lit (.int 12))) [.ret (.meth (.var 0) "set_aside" [(.lit (.str (Str.ofString "till"))), (.lit (.str (Str.ofString "two")))])] [],
  .ite (.cmp .Eq (.var 1) (.lit (.int 13))) [.ret (.meth (.var 0) "set_aside" [(.lit (.str (Str.ofString "till"))), (.lit (.str (Str.ofString "one")))])] [],
  .ite (.cmp .Eq (.var 1) (.lit (.int 14))) [.ret (.meth (.var 0) "draw_back" [(.lit (.str (Str.ofString "quay"))), (.sub (.list [(.lit (.str (Str.ofString "one"))), (.lit (.str (Str.ofString "two")))]) (.var 2))])] [],
  .ret (.call "_law_told" [(.var 0), (.var 1), (.var 2), (.var 3), (.var 4)])]⟩
noncomputable def f__law_class : Fn := ⟨1, ["_law_e", "_law_mine"], [
  .assign (.var 1) (.list [(.isinst (.var 0) "NoName"), (.isinst (.var 0) "NoAmount"), (.isinst (.var 0) "Taken"), (.isinst (.var 0) "NoPurse")]),
  .assign (.var 1) (.bin .Add (.var 1) (.list [(.isinst (.var 0) "TooLittle"), (.isinst (.var 0) "NoRow"), (.isinst (.var 0) "Twice"), (.isinst (.var 0) "Uneven")])),
  .assign (.var 1) (.bin .Add (.var 1) (.list [(.isinst (.var 0) "Fallen"), (.isinst (.var 0) "NoDay"), (.isinst (.var 0) "NoPact"), (.isinst (.var 0) "NotOpen")])),
  .assign (.var 1) (.bin .Add (.var 1) (.list [(.isinst (.var 0) "NoPart"), (.isinst (.var 0) "Already"), (.isinst (.var 0) "NotAside")])),
  .ite (.ao false [(.cmp .NotEq (.bm (.var 1) .count [(.lit (.bool true))]) (.lit (.int 1))), (.not (.isinst (.var 0) "ValueError"))]) [.ret (.neg (.lit (.int 1)))] [],
  .ret (.bm (.var 1) .index [(.lit (.bool true))])]⟩
noncomputable def f__law_book : Fn := ⟨0, ["_law_book_here", "_law_purse"], [
  .assign (.var 0) (.new "Book" []),
  .for (.var 1) (.list [(.lit (.str (Str.ofString "till"))), (.lit (.str (Str.ofString "quay")))]) [.expr (.meth (.var 0) "open_purse" [(.var 1)]),
    .expr (.meth (.var 0) "put" [(.var 1), (.lit (.int 60))])],
  .expr (.meth (.var 0) "tell" [(.lit (.str (Str.ofString "one"))), (.list [(.tuple [(.lit (.str (Str.ofString "till"))), (.lit (.int 7))]), (.tuple [(.lit (.str (Str.ofString "quay"))), (.lit (.int 3))])]), (.list [(.tuple [(.lit (.str (Str.ofString "quay"))), (.lit (.int 10))])]), (.list [(.lit (.str (Str.ofString "two")))]), (.lit (.int 5))]),
  .expr (.meth (.var 0) "tell" [(.lit (.str (Str.ofString "two"))), (.list [(.tuple [(.lit (.str (Str.ofString "quay"))), (.lit (.int 70))])]), (.list [(.tuple [(.lit (.str (Str.ofString "till"))), (.lit (.int 70))])]), (.list []), (.lit (.int 5))]),
  .expr (.meth (.var 0) "tell" [(.lit (.str (Str.ofString "paid"))), (.list [(.tuple [(.lit (.str (Str.ofString "till"))), (.lit (.int 3))])]), (.list [(.tuple [(.lit (.str (Str.ofString "till"))), (.lit (.int 3))])]), (.list []), (.lit (.int 5))]),
  .expr (.meth (.var 0) "tell" [(.lit (.str (Str.ofString "gone"))), (.list [(.tuple [(.lit (.str (Str.ofString "till"))), (.lit (.int 2))])]), (.list [(.tuple [(.lit (.str (Str.ofString "quay"))), (.lit (.int 2))])]), (.list []), (.lit (.int 5))]),
  .expr (.meth (.var 0) "set_aside" [(.lit (.str (Str.ofString "till"))), (.lit (.str (Str.ofString "paid")))]),
  .expr (.meth (.var 0) "settle" []),
  .expr (.meth (.var 0) "call_off" [(.lit (.str (Str.ofString "gone")))]),
  .expr (.meth (.var 0) "set_aside" [(.lit (.str (Str.ofString "till"))), (.lit (.str (Str.ofString "one")))]),
  .ret (.var 0)]⟩
noncomputable def f_law : Fn := ⟨1, ["_law_script", "_law_book_here", "_law_kind", "_law_way", "_law_n", "_law_word", "_law_found", "_law_e", "_law_states", "_law_due", "_law_told_here"], [
  .assign (.var 1) (.call "_law_book" []),
  .assign (.var 2) (.bin .Mod (.call "_law_cell_at" [(.var 0), (.lit (.int 0))]) (.lit (.int 15))),
  .assign (.var 3) (.bin .Mod (.bin .FloorDiv (.call "_law_cell_at" [(.var 0), (.lit (.int 0))]) (.lit (.int 15))) (.lit (.int 2))),
  .assign (.var 4) (.bin .Add (.lit (.int 1)) (.bin .Mod (.call "_law_cell_at" [(.var 0), (.lit (.int 1))]) (.lit (.int 50)))),
  .assign (.var 5) (.call "_law_strange" [(.call "_law_cell_at" [(.var 0), (.lit (.int 2))])]),
  .assign (.var 6) (.neg (.lit (.int 1))),
  .try [.expr (.call "_law_done" [(.var 1), (.var 2), (.var 3), (.bin .Add (.var 4) (.bin .Mult (.lit (.int 3)) (.prim .int [(.cmp .Eq (.var 2) (.lit (.int 4)))]))), (.var 5)])] [.mk "BookError" (some 7) [.assign (.var 6) (.call "_law_class" [(.var 7)])]],
  .assign (.var 8) (.comp (.meth (.var 1) "state_of" [(.var 11)]) 1 false (.meth (.var 1) "told" []) none),
  .ite (.ao false [(.cmp .NotEq (.var 8) (.list [(.lit (.str (Str.ofString "open"))), (.lit (.str (Str.ofString "open"))), (.lit (.str (Str.ofString "done"))), (.lit (.str (Str.ofString "fallen")))])), (.cmp .NotEq (.meth (.var 1) "told" []) (.list [(.lit (.str (Str.ofString "one"))), (.lit (.str (Str.ofString "two"))), (.lit (.str (Str.ofString "paid"))), (.lit (.str (Str.ofString "gone")))]))]) [.ret (.lit (.bool false))] [],
  .assign (.var 9) (.list [(.lit (.int 53)), (.lit (.int 60)), (.lit (.int 7)), (.lit (.int 0))]),
  .assign (.var 10) (.list [(.meth (.var 1) "free_of" [(.lit (.str (Str.ofString "till")))]), (.meth (.var 1) "free_of" [(.lit (.str (Str.ofString "quay")))]), (.meth (.var 1) "aside_of" [(.lit (.str (Str.ofString "till")))]), (.meth (.var 1) "aside_of" [(.lit (.str (Str.ofString "quay")))])]),
  .ret (.ao true [(.cmp .Eq (.var 6) (.var 2)), (.cmp .Eq (.var 10) (.var 9)), (.cmp .Eq (.attr (.var 1) "day") (.lit (.int 0))), (.cmp .Eq (.meth (.var 1) "purses" []) (.list [(.lit (.str (Str.ofString "till"))), (.lit (.str (Str.ofString "quay")))]))])]⟩
noncomputable def P : Pg where
  fns := [("are_met", BK.f_are_met), ("table_of", BK.f_table_of), ("greatest", BK.f_greatest), ("chain", BK.f_chain), ("is_whole", BK.f_is_whole), ("is_name", BK.f_is_name), ("name_of", BK.f_name_of), ("amount_of", BK.f_amount_of), ("_law_cell_at", BK.f__law_cell_at), ("_law_strange", f__law_strange), ("_law_told", f__law_told), ("_law_done", f__law_done), ("_law_class", f__law_class), ("_law_book", f__law_book), ("law", f_law), ("Pact.__init__", BK.f_Pact___init__), ("Pact.part_of", BK.f_Pact_part_of), ("Pact.is_full", BK.f_Pact_is_full), ("Book.__init__", BK.f_Book___init__), ("Book.need_purse", BK.f_Book_need_purse), ("Book.need_pact", BK.f_Book_need_pact), ("Book.need_open", BK.f_Book_need_open), ("Book.open_purse", BK.f_Book_open_purse), ("Book.put", BK.f_Book_put), ("Book.take", BK.f_Book_take), ("Book.pairs_of", BK.f_Book_pairs_of), ("Book.needs_of", BK.f_Book_needs_of), ("Book.tell", BK.f_Book_tell), ("Book.set_aside", BK.f_Book_set_aside), ("Book.given_back", BK.f_Book_given_back), ("Book.draw_back", BK.f_Book_draw_back), ("Book.fell", BK.f_Book_fell), ("Book.first_dragged", BK.f_Book_first_dragged), ("Book.dragged", BK.f_Book_dragged), ("Book.call_off", BK.f_Book_call_off), ("Book.pass_days", BK.f_Book_pass_days), ("Book.standing", BK.f_Book_standing), ("Book.settle", BK.f_Book_settle), ("Book.why_not", BK.f_Book_why_not), ("Book.purses", BK.f_Book_purses), ("Book.told", BK.f_Book_told), ("Book.free_of", BK.f_Book_free_of), ("Book.aside_of", BK.f_Book_aside_of), ("Book.state_of", BK.f_Book_state_of), ("Book.full", BK.f_Book_full)]
  gfns := ["_wall", "are_met", "table_of", "greatest", "chain", "is_whole", "is_name", "name_of", "amount_of", "_law_cell_at", "_law_strange", "_law_told", "_law_done", "_law_class", "_law_book", "law"]
  consts := [("LETTERS", (.str (Str.ofString "abcdefghijklmnopqrstuvwxyz"))), ("MOST_SIGNS", (.int 12)), ("MOST_AMOUNT", (.int 1000000000000000000000000000000)), ("MOST", (.int 8))]
  excs := [("BookError", ["BookError", "ValueError"]), ("NoName", ["NoName", "BookError", "ValueError"]), ("NoAmount", ["NoAmount", "BookError", "ValueError"]), ("Taken", ["Taken", "BookError", "ValueError"]), ("NoPurse", ["NoPurse", "BookError", "ValueError"]), ("TooLittle", ["TooLittle", "BookError", "ValueError"]), ("NoRow", ["NoRow", "BookError", "ValueError"]), ("Twice", ["Twice", "BookError", "ValueError"]), ("Uneven", ["Uneven", "BookError", "ValueError"]), ("Fallen", ["Fallen", "BookError", "ValueError"]), ("NoDay", ["NoDay", "BookError", "ValueError"]), ("NoPact", ["NoPact", "BookError", "ValueError"]), ("NotOpen", ["NotOpen", "BookError", "ValueError"]), ("NoPart", ["NoPart", "BookError", "ValueError"]), ("Already", ["Already", "BookError", "ValueError"]), ("NotAside", ["NotAside", "BookError", "ValueError"])]
  classes := ["Pact", "Book"]
  meths := [("Pact", "__init__"), ("Pact", "part_of"), ("Pact", "is_full"), ("Book", "__init__"), ("Book", "need_purse"), ("Book", "need_pact"), ("Book", "need_open"), ("Book", "open_purse"), ("Book", "put"), ("Book", "take"), ("Book", "pairs_of"), ("Book", "needs_of"), ("Book", "tell"), ("Book", "set_aside"), ("Book", "given_back"), ("Book", "draw_back"), ("Book", "fell"), ("Book", "first_dragged"), ("Book", "dragged"), ("Book", "call_off"), ("Book", "pass_days"), ("Book", "standing"), ("Book", "settle"), ("Book", "why_not"), ("Book", "purses"), ("Book", "told"), ("Book", "free_of"), ("Book", "aside_of"), ("Book", "state_of"), ("Book", "inside_of"), ("Book", "full")]
  attrs := [("Book", "aside"), ("Book", "day"), ("Book", "free"), ("Book", "pacts"), ("Pact", "gains"), ("Pact", "inside"), ("Pact", "last"), ("Pact", "name"), ("Pact", "needs"), ("Pact", "parts"), ("Pact", "state")]
  prims := ["ValueError", "bool", "int", "isinstance", "len", "list", "range", "str", "sum"]


end Mine.L14

end
section
open PySem PySem.W PyProof.Rows PySem.Spec PySem.SeqAt PySem.Calls
namespace Mine
noncomputable def okB (B : Bk) : Bool := decide (B.free.length ≤ 1000) && decide (B.aside.length ≤ 1000) && (B.free.map (·.1) == B.aside.map (·.1)) && decide (B.pacts.length ≤ 100) &&
  B.pacts.all fun x => x.inside.all (fun k => (lk x.parts k).isSome) && decide (x.inside.length ≤ 100) && decide (x.parts.length ≤ 100) && decide (x.gains.length ≤ 100) && decide (x.needs.length ≤ 100) && x.parts.all (fun e => hs B.free e.1) && x.gains.all (fun e => hs B.free e.1)
set_option tactic.hygienic false in
theorem hs_mem {l : List (Str × Int)} {k : Str} : hs l k = decide (k ∈ l.map (·.1)) := by
  unfold hs lk
  rw [Option.isSome_map, Bool.eq_iff_iff, List.find?_isSome]
  simp
set_option tactic.hygienic false in
theorem okB_ok {B : Bk} (h : okB B = true) : BkOK B := by
  unfold okB at h
  simp only [Bool.and_eq_true, decide_eq_true_eq, List.all_eq_true, beq_iff_eq] at h
  obtain ⟨⟨⟨⟨h1, h2⟩, h3⟩, h4⟩, h5⟩ := h
  refine ⟨⟨Nat.le_trans h1 (by decide), Nat.le_trans h2 (by decide)⟩, fun k hk => ?_, h4, fun j x hx k hk => ?_, fun j x hx => ?_, fun j x hx e he => ?_⟩
  · rw [hs_mem] at hk ⊢; rw [← h3]; exact hk
  · exact (h5 x (List.mem_of_getElem? hx)).1.1.1.1.1.1 k hk
  · have := h5 x (List.mem_of_getElem? hx)
    exact ⟨this.1.1.1.1.1.2, this.1.1.1.1.2, this.1.1.1.2, this.1.1.2⟩
  · have := h5 x (List.mem_of_getElem? hx)
    rcases he with he | he
    · exact this.1.2 e he
    · exact this.2 e he
noncomputable def Kb (b : Addr) (H H' : AHeap) : Prop := ∀ a x, a ≠ b → H a = some x → H' a = some x
theorem Kb.refl {b : Addr} {H : AHeap} : Kb b H H := fun _ _ _ h => h
theorem Kb.trans {b : Addr} {H H' H'' : AHeap} (x : Kb b H H') (y : Kb b H' H'') : Kb b H H'' := fun a o n h => y a o n (x a o n h)
theorem Kb.ext {b : Addr} {H H' : AHeap} (x : Ext H H') : Kb b H H' := fun a o _ h => x a o h
set_option tactic.hygienic false in
theorem Kb.up {b : Addr} {H : AHeap} {y : AObj} : Kb b H (Mine.up H b y) := fun a o n h => by rw [up_other n]; exact h
section
variable {g : Gx} {V : VV} {Q : AV → AHeap → Prop} {E : String → AHeap → Prop} {H : AHeap} {b : Addr} {B : Bk}
set_option tactic.hygienic false in
theorem bk_meth {i : Nat} {m : String} {xs : List X} (hP : g.c.P.meths = BK.meths) (hm : BK.meths.contains ("Book", m) = true) (hn : bookAttrs.contains m = false) (hb : H b = some (.book B)) (hV : V[i]? = some (some (.ref b)))
    (q : wpXs g xs V (fun vs H => CallOK g.c g.n g.md ("Book." ++ m) (.ref b :: vs) Q E H) E H) : wpX g (.meth (.var i) m xs) V Q E H := by
  simp only [x_attr, x_meth, x_var, hV, hb]
  exact ⟨by rw [hP]; exact hm, hn, q⟩
abbrev Pure (g : Gx) (V : VV) (e : X) (v : AV) : Prop := ∀ (Q : AV → AHeap → Prop) (E : String → AHeap → Prop) (H : AHeap), Q v H → wpX g e V Q E H
abbrev Lays (g : Gx) (V : VV) (e : X) (l : List (AV × AV)) (H : AHeap) : Prop := ∀ (Q : AV → AHeap → Prop) (E : String → AHeap → Prop) (H1 : AHeap), Ext H H1 → (∀ H' z ts, Ext H1 H' → H' z = some (.list (ts.map .ref)) → pairsH H' ts l → Q (.ref z) H') → wpX g e V Q E H1
abbrev LaysL (g : Gx) (V : VV) (e : X) (l : List AV) (H : AHeap) : Prop := ∀ (Q : AV → AHeap → Prop) (E : String → AHeap → Prop) (H1 : AHeap), Ext H H1 → (∀ H' z, Ext H1 H' → H' z = some (.list l) → Q (.ref z) H') → wpX g e V Q E H1
theorem pairsH.ext {H' : AHeap} (hE : Ext H H') : ∀ {ts : List Addr} {l : List (AV × AV)}, pairsH H ts l → pairsH H' ts l
  | [], [], _ => trivial
  | _ :: _, _ :: _, h => ⟨⟨rfl, hE _ _ h.1.2.1, h.1.2.2⟩, pairsH.ext hE h.2⟩
  | [], _ :: _, h => h.elim
  | _ :: _, [], h => h.elim
set_option tactic.hygienic false in
theorem lay0 : Lays g V (.list []) [] H := fun Q E H1 _ q => by
  rw [x_list, xs_nil]
  intro z hz
  exact q _ z [] (Ext.refl.new hz) up_same trivial
set_option tactic.hygienic false in
theorem layL0 : LaysL g V (.list []) [] H := fun Q E H1 _ q => by
  rw [x_list, xs_nil]
  intro z hz
  exact q _ z (Ext.refl.new hz) up_same
set_option tactic.hygienic false in
theorem layL1 {e : X} {v : AV} (h : Pure g V e v) : LaysL g V (.list [e]) [v] H := fun Q E H1 _ q => by
  rw [x_list, xs_cons]
  refine h _ _ _ ?_
  rw [xs_nil]
  intro z hz
  exact q _ z (Ext.refl.new hz) up_same
set_option tactic.hygienic false in
theorem lay1 {e1 e2 : X} {v w : AV} (h1 : Pure g V e1 v) (h2 : Pure g V e2 w) (k1 : Kv v) (k2 : Kv w) : Lays g V (.list [.tuple [e1, e2]]) [(v, w)] H := fun Q E H1 _ q => by
  rw [x_list, xs_cons, x_tup, xs_cons]
  refine h1 _ _ _ ?_
  rw [xs_cons]
  refine h2 _ _ _ ?_
  rw [xs_nil]
  intro t ht
  rw [xs_nil]
  intro z hz
  have hE := (Ext.refl.new (o := .tuple [v, w]) ht).new (o := .list [.ref t]) hz
  exact q _ z [t] hE up_same ⟨⟨rfl, up_ne up_same hz, k1, k2⟩, trivial⟩
set_option tactic.hygienic false in
theorem lay2 {e1 e2 e3 e4 : X} {v w v' w' : AV} (h1 : Pure g V e1 v) (h2 : Pure g V e2 w) (h3 : Pure g V e3 v') (h4 : Pure g V e4 w') (k1 : Kv v) (k2 : Kv w) (k3 : Kv v') (k4 : Kv w') : Lays g V (.list [.tuple [e1, e2], .tuple [e3, e4]]) [(v, w), (v', w')] H := fun Q E H1 _ q => by
  rw [x_list, xs_cons, x_tup, xs_cons]
  refine h1 _ _ _ ?_
  rw [xs_cons]
  refine h2 _ _ _ ?_
  rw [xs_nil]
  intro t ht
  rw [xs_cons, x_tup, xs_cons]
  refine h3 _ _ _ ?_
  rw [xs_cons]
  refine h4 _ _ _ ?_
  rw [xs_nil]
  intro t' ht'
  rw [xs_nil]
  intro z hz
  have hE := ((Ext.refl.new (o := .tuple [v, w]) ht).new (o := .tuple [v', w']) ht').new (o := .list [.ref t, .ref t']) hz
  exact q _ z [t, t'] hE up_same ⟨⟨rfl, up_ne (up_ne up_same ht') hz, k1, k2⟩, ⟨rfl, up_ne up_same hz, k3, k4⟩, trivial⟩
set_option tactic.hygienic false in
theorem Kv.str {s : Str} (h : s.length < 2 ^ 62) : Kv (.str s) := ⟨(fun a h => by cases h), fun t e => by cases e; exact h⟩
set_option tactic.hygienic false in
theorem Kv.int {i : Int} : Kv (.int i) := ⟨(fun a h => by cases h), fun t e => by cases e⟩
end
theorem U14 : HasP L14.P := ⟨⟨rfl, rfl, rfl, rfl, rfl, rfl, rfl, rfl, rfl, rfl, rfl, rfl, rfl, rfl, rfl⟩, rfl, rfl⟩
section
variable {c : Cx} (G : Gd c L14.P) {n : Nat} {V : VV} {Q : AV → AHeap → Prop} {E : String → AHeap → Prop} {H : AHeap} {b : Addr} {B : Bk}
include G
set_option tactic.hygienic false in
theorem tell14 {i : Nat} {en ep eg ee el : X} {v last : AV} {pL gL : List (AV × AV)} {nL : List AV} (hb : H b = some (.book B)) (ok : BkOK B) (hV : V[i]? = some (some (.ref b))) (hn : Pure ⟨c, n + 4, true⟩ V en v) (hp : Lays ⟨c, n + 4, true⟩ V ep pL H) (hg : Lays ⟨c, n + 4, true⟩ V eg gL H) (he : LaysL ⟨c, n + 4, true⟩ V ee nL H) (hl : Pure ⟨c, n + 4, true⟩ V el last)
    (kv : Kv v) (kl : Kv last) (kn : ∀ v ∈ nL, Kv v) (l1 : pL.length ≤ 1000) (l2 : gL.length ≤ 1000) (l3 : nL.length ≤ 1000) (q : ∀ H', Ext H H' → Ends (tellQ B v pL gL nL last) (fun B' => Q .none (up H' b (.book B'))) (fun cl => E cl H')) : wpX ⟨c, n + 4, true⟩ (.meth (.var i) "tell" [en, ep, eg, ee, el]) V Q E H := by
  have hM : c.P.meths = BK.meths := by rw [G.hP]; rfl
  refine bk_meth hM (by decide) (by decide) hb hV ?_
  rw [xs_cons]
  refine hn _ _ _ ?_
  rw [xs_cons]
  refine hp _ _ _ .refl fun H1 z1 ts hE1 hz1 hp1 => ?_
  rw [xs_cons]
  refine hg _ _ _ hE1 fun H2 z2 us hE2 hz2 hp2 => ?_
  rw [xs_cons]
  refine he _ _ _ (hE1.trans hE2) fun H3 z3 hE3 hz3 => ?_
  rw [xs_cons]
  refine hl _ _ _ ?_
  rw [xs_nil]
  have hE := (hE1.trans hE2).trans hE3
  exact tell_B G U14 rfl rfl rfl rfl (by rw [G.hP]; rfl) (hE _ _ hb) ok kv kl (hE3 _ _ (hE2 _ _ hz1)) ((hp1.ext hE2).ext hE3) (hE3 _ _ hz2) (hp2.ext hE3) hz3 kn l1 l2 l3 (q H3 hE)
end
end Mine

end
section
open PySem PySem.W PyProof.Rows PySem.Spec PySem.SeqAt PySem.Calls
namespace Mine.L14
abbrev S' (x : String) : Str := Str.ofString x
noncomputable def pOne (s : Sta) (ins : List Str) : Pc := ⟨S' "one", [(S' "till", 7), (S' "quay", 3)], [(S' "quay", 10)], [S' "two"], 5, s, ins⟩
noncomputable def pTwo : Pc := ⟨S' "two", [(S' "quay", 70)], [(S' "till", 70)], [], 5, .opn, []⟩
noncomputable def pPaid (s : Sta) (ins : List Str) : Pc := ⟨S' "paid", [(S' "till", 3)], [(S' "till", 3)], [], 5, s, ins⟩
noncomputable def pGone (s : Sta) : Pc := ⟨S' "gone", [(S' "till", 2)], [(S' "quay", 2)], [], 5, s, []⟩
noncomputable def bk (f1 a1 : Int) (ps : List Pc) : Bk := ⟨0, [(S' "till", f1), (S' "quay", 60)], [(S' "till", a1), (S' "quay", 0)], ps⟩
noncomputable def Bf : Bk := bk 53 7 [pOne .opn [S' "till"], pTwo, pPaid .dn [], pGone .fln]
set_option tactic.hygienic false in
theorem e0 : openQ ⟨0, [], [], []⟩ (.str (S' "till")) = .ok ⟨0, [(S' "till", 0)], [(S' "till", 0)], []⟩ := by kernel_rfl
set_option tactic.hygienic false in
theorem e1 : putQ ⟨0, [(S' "till", 0)], [(S' "till", 0)], []⟩ (.str (S' "till")) (.int 60) = .ok ⟨0, [(S' "till", 60)], [(S' "till", 0)], []⟩ := by kernel_rfl
set_option tactic.hygienic false in
theorem e2 : openQ ⟨0, [(S' "till", 60)], [(S' "till", 0)], []⟩ (.str (S' "quay")) = .ok ⟨0, [(S' "till", 60), (S' "quay", 0)], [(S' "till", 0), (S' "quay", 0)], []⟩ := by kernel_rfl
set_option tactic.hygienic false in
theorem e3 : putQ ⟨0, [(S' "till", 60), (S' "quay", 0)], [(S' "till", 0), (S' "quay", 0)], []⟩ (.str (S' "quay")) (.int 60) = .ok (bk 60 0 []) := by kernel_rfl
set_option tactic.hygienic false in
theorem e4 : tellQ (bk 60 0 []) (.str (S' "one")) [(.str (S' "till"), .int 7), (.str (S' "quay"), .int 3)] [(.str (S' "quay"), .int 10)] [.str (S' "two")] (.int 5) = .ok (bk 60 0 [pOne .opn []]) := by kernel_rfl
set_option tactic.hygienic false in
theorem e5 : tellQ (bk 60 0 [pOne .opn []]) (.str (S' "two")) [(.str (S' "quay"), .int 70)] [(.str (S' "till"), .int 70)] [] (.int 5) = .ok (bk 60 0 [pOne .opn [], pTwo]) := by kernel_rfl
set_option tactic.hygienic false in
theorem e6 : tellQ (bk 60 0 [pOne .opn [], pTwo]) (.str (S' "paid")) [(.str (S' "till"), .int 3)] [(.str (S' "till"), .int 3)] [] (.int 5) = .ok (bk 60 0 [pOne .opn [], pTwo, pPaid .opn []]) := by kernel_rfl
set_option tactic.hygienic false in
theorem e7 : tellQ (bk 60 0 [pOne .opn [], pTwo, pPaid .opn []]) (.str (S' "gone")) [(.str (S' "till"), .int 2)] [(.str (S' "quay"), .int 2)] [] (.int 5) = .ok (bk 60 0 [pOne .opn [], pTwo, pPaid .opn [], pGone .opn]) := by kernel_rfl
set_option tactic.hygienic false in
theorem e8 : asideQ (bk 60 0 [pOne .opn [], pTwo, pPaid .opn [], pGone .opn]) (.str (S' "till")) (.str (S' "paid")) = .ok (bk 57 3 [pOne .opn [], pTwo, pPaid .opn [S' "till"], pGone .opn]) := by kernel_rfl
set_option tactic.hygienic false in
theorem e9 : settleB [S' "paid"] (bk 57 3 [pOne .opn [], pTwo, pPaid .opn [S' "till"], pGone .opn]) = bk 60 0 [pOne .opn [], pTwo, pPaid .dn [], pGone .opn] := by kernel_rfl
set_option tactic.hygienic false in
theorem e10 : offQ (bk 60 0 [pOne .opn [], pTwo, pPaid .dn [], pGone .opn]) (.str (S' "gone")) = .ok (bk 60 0 [pOne .opn [], pTwo, pPaid .dn [], pGone .fln], [S' "gone"]) := by kernel_rfl
set_option tactic.hygienic false in
theorem e11 : asideQ (bk 60 0 [pOne .opn [], pTwo, pPaid .dn [], pGone .fln]) (.str (S' "till")) (.str (S' "one")) = .ok Bf := by kernel_rfl
set_option tactic.hygienic false in
theorem o4 : okB (bk 60 0 []) = true := by kernel_rfl
set_option tactic.hygienic false in
theorem o5 : okB (bk 60 0 [pOne .opn []]) = true := by kernel_rfl
set_option tactic.hygienic false in
theorem o6 : okB (bk 60 0 [pOne .opn [], pTwo]) = true := by kernel_rfl
set_option tactic.hygienic false in
theorem o7 : okB (bk 60 0 [pOne .opn [], pTwo, pPaid .opn []]) = true := by kernel_rfl
set_option tactic.hygienic false in
theorem o8 : okB (bk 60 0 [pOne .opn [], pTwo, pPaid .opn [], pGone .opn]) = true := by kernel_rfl
set_option tactic.hygienic false in
theorem o9 : okB (bk 57 3 [pOne .opn [], pTwo, pPaid .opn [S' "till"], pGone .opn]) = true := by kernel_rfl
set_option tactic.hygienic false in
theorem o10 : okB (bk 60 0 [pOne .opn [], pTwo, pPaid .dn [], pGone .opn]) = true := by kernel_rfl
set_option tactic.hygienic false in
theorem o11 : okB (bk 60 0 [pOne .opn [], pTwo, pPaid .dn [], pGone .fln]) = true := by kernel_rfl
set_option tactic.hygienic false in
theorem oF : okB Bf = true := by kernel_rfl
set_option tactic.hygienic false in
theorem grt9 {g : List Str} (h : Grt (fullL (bk 57 3 [pOne .opn [], pTwo, pPaid .opn [S' "till"], pGone .opn]).pacts) (ndB (bk 57 3 [pOne .opn [], pTwo, pPaid .opn [S' "till"], pGone .opn])) (doneL (bk 57 3 [pOne .opn [], pTwo, pPaid .opn [S' "till"], pGone .opn]).pacts) g) : g = [S' "paid"] := by
  have h1 : fullL (bk 57 3 [pOne .opn [], pTwo, pPaid .opn [S' "till"], pGone .opn]).pacts = [S' "paid"] := by kernel_rfl
  have h2 : ndB (bk 57 3 [pOne .opn [], pTwo, pPaid .opn [S' "till"], pGone .opn]) (S' "paid") = [] := by kernel_rfl
  obtain ⟨s, _, t⟩ := h
  rw [h1] at s t
  have hm : S' "paid" ∈ g := t (fun x => x = S' "paid") (fun x hx => by subst hx; exact ⟨List.mem_singleton.mpr rfl, fun o ho => by rw [h2] at ho; cases ho⟩) _ rfl
  match g, s, hm with
  | [], _, hm => cases hm
  | [y], _, hm => rw [List.mem_singleton.mp hm]
  | _ :: _ :: _, s, _ => have := s.length_le; simp at this
set_option tactic.hygienic false in
theorem nd9 : ((bk 57 3 [pOne .opn [], pTwo, pPaid .opn [S' "till"], pGone .opn]).pacts.map (·.name)).Nodup := by decide +kernel
end Mine.L14

end
section
open PySem PySem.W PyProof.Rows PySem.Spec PySem.SeqAt PySem.Calls
namespace Mine
open L14
section
variable {c : Cx} (G : Gd c L14.P) {n : Nat} {V : VV} {Q : AV → AHeap → Prop} {E : String → AHeap → Prop} {H : AHeap} {b : Addr} {B : Bk}
theorem lit_pure {g : Gx} {v : AV} : Pure g V (.lit v) v := fun _ _ _ h => h
include G
set_option tactic.hygienic false in
theorem aside14 {i : Nat} {e1 e2 : X} {v w : AV} (hb : H b = some (.book B)) (ok : BkOK B) (hV : V[i]? = some (some (.ref b))) (h1 : Pure ⟨c, n + 4, true⟩ V e1 v) (h2 : Pure ⟨c, n + 4, true⟩ V e2 w) (kv : Kv v) (kw : Kv w) (q : Ends (asideQ B v w) (fun B' => Q .none (up H b (.book B'))) (fun cl => E cl H)) : wpX ⟨c, n + 4, true⟩ (.meth (.var i) "set_aside" [e1, e2]) V Q E H := by
  have hM : c.P.meths = BK.meths := by rw [G.hP]; rfl
  refine bk_meth hM (by decide) (by decide) hb hV ?_
  rw [xs_cons]
  refine h1 _ _ _ ?_
  rw [xs_cons]
  refine h2 _ _ _ ?_
  rw [xs_nil]
  exact aside_B G U14 rfl rfl hb kv kw ok q
set_option tactic.hygienic false in
theorem book14 (q : ∀ b H', H b = none → H' b = some (.book Bf) → Kb b H H' → Q (.ref b) H') : CallOK c (n + 5) true "_law_book" [] Q E H := by
  refine G.call (F := L14.f__law_book) rfl rfl ?_
  have hM : c.P.meths = BK.meths := by rw [G.hP]; rfl
  have kt : ∀ {x : Str}, x.length < 2 ^ 62 → Kv (.str x) := fun h => Kv.str h
  show wpSs _ _ _ _ _ [none, none] _
  refine w_st fun K nx => ?_
  rw [w_asg]
  refine new_book (c := c) rfl G U14.a ⟨_, rfl⟩ fun b hb0 => ⟨show 0 < 2 by decide, nx _ _ ?_⟩
  -- the purses
  refine w_st fun K nx => ?_
  show wpS _ _ _ _ _ [some (.ref b), none] _
  rw [s_for']
  refine ⟨rfl, ?_⟩
  dsimp [v_0, x_lit, x_var, x_bin, x_neg, x_not, x_ao, x_cmp, x_cmp2, x_sub, x_glob, x_call, x_prim, x_bm, x_isi, x_list, x_tup, x_dict0, xs_nil, xs_cons, ao_one, ao_cons, xc_none, xc_some, tv, wtg, b_add, b_sub, b_mul, b_div, b_mod, b_pow, b_adds, c_lt, c_le, c_gt, c_ge, c_eq, c_ne, c_eqs, c_nes, c_in, c_nin, t_bool, t_int, t_none]
  intro z hz
  have hbz : b ≠ z := ne_of up_same hz
  refine wforI (xs := [.str (S' "till"), .str (S' "quay")]) (by simp only [itemsOf]; rw [up_same]) (fun k V' H' => (∃ p, V' = [some (.ref b), p]) ∧ H' z = some (.list [.str (S' "till"), .str (S' "quay")]) ∧ Kb b H H' ∧ H' b = some (.book (if k = 0 then ⟨0, [], [], []⟩ else if k = 1 then ⟨0, [(S' "till", 60)], [(S' "till", 0)], []⟩ else bk 60 0 []))) ⟨⟨_, rfl⟩, up_same, fun a x hne h => by rw [up_other (ne_of (up_ne h hb0) hz), up_other hne]; exact h, by rw [up_other hbz, up_same]; rfl⟩ ?_
  rintro I hI k V' H' ⟨⟨p, rfl⟩, hz', hk', hb'⟩
  refine ⟨by show H' z = _; rw [hz', up_same], fun hk => ?_, fun y hy => ?_⟩
  · -- the pacts
    subst hk
    have hb' : H' b = some (.book (bk 60 0 [])) := hb'
    refine nx _ _ ?_
    refine w_st fun K nx => ?_
    rw [s_expr']
    refine tell14 G hb' (okB_ok o4) rfl lit_pure (lay2 lit_pure lit_pure lit_pure lit_pure (kt (by decide)) .int (kt (by decide)) .int) (lay1 lit_pure lit_pure (kt (by decide)) .int) (layL1 lit_pure) lit_pure (kt (by decide)) .int (fun v hv => by rw [List.mem_singleton.mp hv]; exact kt (by decide)) (by decide) (by decide) (by decide) fun H1 hE1 => ?_
    rw [e4]
    refine nx _ _ ?_
    have k1 : Kb b H (up H1 b (.book (bk 60 0 [pOne .opn []]))) := (hk'.trans (.ext hE1)).trans .up
    refine w_st fun K nx => ?_
    rw [s_expr']
    refine tell14 G up_same (okB_ok o5) rfl lit_pure (lay1 lit_pure lit_pure (kt (by decide)) .int) (lay1 lit_pure lit_pure (kt (by decide)) .int) layL0 lit_pure (kt (by decide)) .int (fun v hv => by cases hv) (by decide) (by decide) (by decide) fun H2 hE2 => ?_
    rw [e5]
    refine nx _ _ ?_
    have k2 : Kb b H (up H2 b (.book (bk 60 0 [pOne .opn [], pTwo]))) := (k1.trans (.ext hE2)).trans .up
    refine w_st fun K nx => ?_
    rw [s_expr']
    refine tell14 G up_same (okB_ok o6) rfl lit_pure (lay1 lit_pure lit_pure (kt (by decide)) .int) (lay1 lit_pure lit_pure (kt (by decide)) .int) layL0 lit_pure (kt (by decide)) .int (fun v hv => by cases hv) (by decide) (by decide) (by decide) fun H3 hE3 => ?_
    rw [e6]
    refine nx _ _ ?_
    have k3 : Kb b H (up H3 b (.book (bk 60 0 [pOne .opn [], pTwo, pPaid .opn []]))) := (k2.trans (.ext hE3)).trans .up
    refine w_st fun K nx => ?_
    rw [s_expr']
    refine tell14 G up_same (okB_ok o7) rfl lit_pure (lay1 lit_pure lit_pure (kt (by decide)) .int) (lay1 lit_pure lit_pure (kt (by decide)) .int) layL0 lit_pure (kt (by decide)) .int (fun v hv => by cases hv) (by decide) (by decide) (by decide) fun H4 hE4 => ?_
    rw [e7]
    refine nx _ _ ?_
    have k4 : Kb b H (up H4 b (.book (bk 60 0 [pOne .opn [], pTwo, pPaid .opn [], pGone .opn]))) := (k3.trans (.ext hE4)).trans .up
    refine w_st fun K nx => ?_
    rw [s_expr']
    refine aside14 G up_same (okB_ok o8) rfl lit_pure lit_pure (kt (by decide)) (kt (by decide)) ?_
    rw [e8]
    refine nx _ _ ?_
    refine w_st fun K nx => ?_
    rw [s_expr']
    refine bk_meth hM (by decide) (by decide) up_same rfl ?_
    rw [xs_nil]
    refine settle_B G U14 rfl rfl rfl rfl rfl rfl up_same (okB_ok o9) nd9 fun z5 g hz5 hg => nx _ _ ?_
    rw [grt9 hg, e9]
    have hb5 : b ≠ z5 := fun e => by rw [← e, up_same] at hz5; cases hz5
    have k5 : Kb b H (up (up (up (up H4 b (.book (bk 60 0 [pOne .opn [], pTwo, pPaid .opn [], pGone .opn]))) b (.book (bk 57 3 [pOne .opn [], pTwo, pPaid .opn [S' "till"], pGone .opn]))) b (.book (bk 60 0 [pOne .opn [], pTwo, pPaid .dn [], pGone .opn]))) z5 (.list (txs [S' "paid"]))) := ((k4.trans .up).trans .up).trans (.ext (Ext.refl.new (by rw [up_other hb5.symm]; exact hz5)))
    have b5 : (up (up (up (up H4 b (.book (bk 60 0 [pOne .opn [], pTwo, pPaid .opn [], pGone .opn]))) b (.book (bk 57 3 [pOne .opn [], pTwo, pPaid .opn [S' "till"], pGone .opn]))) b (.book (bk 60 0 [pOne .opn [], pTwo, pPaid .dn [], pGone .opn]))) z5 (.list (txs [S' "paid"]))) b = some (.book (bk 60 0 [pOne .opn [], pTwo, pPaid .dn [], pGone .opn])) := by rw [up_other hb5, up_same]
    generalize up (up (up (up H4 b _) b _) b _) z5 _ = H5 at k5 b5
    refine w_st fun K nx => ?_
    rw [s_expr']
    refine bk_meth hM (by decide) (by decide) b5 rfl ?_
    rw [xs_cons, x_lit, xs_nil]
    refine off_B G U14 rfl rfl rfl rfl rfl b5 (okB_ok o10) (kt (by decide)) ?_
    rw [e10]
    intro z6 hz6
    refine nx _ _ ?_
    have hb6 : b ≠ z6 := fun e => by rw [← e, b5] at hz6; cases hz6
    have k6 : Kb b H (up (up H5 b (.book (bk 60 0 [pOne .opn [], pTwo, pPaid .dn [], pGone .fln]))) z6 (.list (txs [S' "gone"]))) := (k5.trans .up).trans (.ext (Ext.refl.new (by rw [up_other hb6.symm]; exact hz6)))
    have b6 : (up (up H5 b (.book (bk 60 0 [pOne .opn [], pTwo, pPaid .dn [], pGone .fln]))) z6 (.list (txs [S' "gone"]))) b = some (.book (bk 60 0 [pOne .opn [], pTwo, pPaid .dn [], pGone .fln])) := by rw [up_other hb6, up_same]
    generalize up (up H5 b _) z6 _ = H6 at k6 b6
    refine w_st fun K nx => ?_
    rw [s_expr']
    refine aside14 G b6 (okB_ok o11) rfl lit_pure lit_pure (kt (by decide)) (kt (by decide)) ?_
    rw [e11]
    refine nx _ _ ?_
    exact q b _ hb0 up_same (k6.trans .up)
  · have stp : ∀ {s : Str} {B0 B1 B2 : Bk}, s.length < 2 ^ 62 → H' b = some (.book B0) → B0.Sz → B1.Sz → openQ B0 (.str s) = .ok B1 → putQ B1 (.str s) (.int 60) = .ok B2 → I (k + 1) [some (.ref b), some (.str s)] (up (up H' b (.book B1)) b (.book B2)) → 1 < 2 ∧ wpSs ⟨c, n + 4, true⟩ [.expr (.meth (.var 0) "open_purse" [.var 1]), .expr (.meth (.var 0) "put" [.var 1, .lit (.int 60)])] (I (k + 1)) Q (fun cl _ H => E cl H) [some (.ref b), some (.str s)] H' := fun {s B0 B1 B2} hl hb s0 s1 o1 o2 hi => by
      refine ⟨by decide, ?_⟩
      refine w_st fun K nx => ?_
      rw [s_expr']
      refine bk_meth hM (by decide) (by decide) hb rfl ?_
      dsimp [v_0, x_lit, x_var, x_bin, x_neg, x_not, x_ao, x_cmp, x_cmp2, x_sub, x_glob, x_call, x_prim, x_bm, x_isi, x_list, x_tup, x_dict0, xs_nil, xs_cons, ao_one, ao_cons, xc_none, xc_some, tv, wtg, b_add, b_sub, b_mul, b_div, b_mod, b_pow, b_adds, c_lt, c_le, c_gt, c_ge, c_eq, c_ne, c_eqs, c_nes, c_in, c_nin, t_bool, t_int, t_none]
      refine open_B G U14.a hb (Kv.str hl).kn s0 ?_
      rw [o1]
      refine nx _ _ ?_
      refine w_st fun K nx => ?_
      rw [s_expr']
      refine bk_meth hM (by decide) (by decide) up_same rfl ?_
      dsimp [v_0, x_lit, x_var, x_bin, x_neg, x_not, x_ao, x_cmp, x_cmp2, x_sub, x_glob, x_call, x_prim, x_bm, x_isi, x_list, x_tup, x_dict0, xs_nil, xs_cons, ao_one, ao_cons, xc_none, xc_some, tv, wtg, b_add, b_sub, b_mul, b_div, b_mod, b_pow, b_adds, c_lt, c_le, c_gt, c_ge, c_eq, c_ne, c_eqs, c_nes, c_in, c_nin, t_bool, t_int, t_none]
      refine put_B G U14.a rfl up_same (Kv.str hl).kn Kv.int.kn s1 ?_
      rw [o2]
      exact nx _ _ hi
    have hI' : ∀ {s : Str} {B1 B2 : Bk}, B2 = (if k + 1 = 0 then ⟨0, [], [], []⟩ else if k + 1 = 1 then ⟨0, [(S' "till", 60)], [(S' "till", 0)], []⟩ else bk 60 0 []) → I (k + 1) [some (.ref b), some (.str s)] (up (up H' b (.book B1)) b (.book B2)) := fun {s B1 B2} e => hI _ _ _ ⟨⟨_, rfl⟩, by rw [up_other hbz.symm, up_other hbz.symm]; exact hz', (hk'.trans .up).trans .up, by rw [up_same, e]⟩
    rcases k with _ | _ | k
    · cases hy; exact stp (by decide) hb' ⟨by decide, by decide⟩ ⟨by decide, by decide⟩ e0 e1 (hI' rfl)
    · cases hy; exact stp (by decide) hb' ⟨by decide, by decide⟩ ⟨by decide, by decide⟩ e2 e3 (hI' rfl)
    · cases hy
end
end Mine

end
section
open PySem PySem.W PyProof.Rows PySem.Spec PySem.SeqAt PySem.Calls
namespace Mine
open L14
set_option tactic.hygienic false in
theorem chI_let {i : Int} (h0 : 0 ≤ i) (h1 : i < 26) : letters.cps.toList.contains (chI i) = true := by
  have : ∀ j : Fin 26, letters.cps.toList.contains (chI ((j.val : Nat) : Int)) = true := by decide +kernel
  have := this ⟨i.toNat, by omega⟩
  simpa only [Int.toNat_of_nonneg h0] using this
structure Zw (w : Str) : Prop where
  ex : ∃ L : List Nat, w = ⟨(122 :: L).toArray⟩ ∧ L.length ≤ 11 ∧ ∀ ch ∈ L, letters.cps.toList.contains ch = true
set_option tactic.hygienic false in
theorem Zw.len {w : Str} (h : Zw w) : w.length < 2 ^ 62 := by
  obtain ⟨L, rfl, hl, _⟩ := h
  rw [str_len, List.length_cons]; omega
set_option tactic.hygienic false in
theorem Zw.nm {w : Str} (h : Zw w) : isNm w = true := by
  obtain ⟨L, rfl, hl, ha⟩ := h
  unfold isNm
  rw [Bool.and_eq_true, decide_eq_true_eq, str_len, List.length_cons]
  refine ⟨⟨by omega, by omega⟩, ?_⟩
  show List.all (122 :: L) _ = true
  rw [List.all_cons, Bool.and_eq_true, List.all_eq_true]
  exact ⟨by decide, ha⟩
set_option tactic.hygienic false in
theorem Zw.ne {w : Str} (h : Zw w) {x : Str} (hx : x.cps[0]? ≠ some 122) : w ≠ x := by
  obtain ⟨L, rfl, hl, ha⟩ := h
  rintro rfl
  exact hx rfl
theorem Zw.kv {w : Str} (h : Zw w) : Kv (.str w) := Kv.str h.len
section
variable {c : Cx} (G : Gd c L14.P) {n : Nat} {V : VV} {Q : AV → AHeap → Prop} {E : String → AHeap → Prop} {H : AHeap}
include G
set_option tactic.hygienic false in
theorem strange_ok {cl : Int} (q : ∀ H' w, Ext H H' → Zw w → Q (.str w) H') : CallOK c (n + 1) true "_law_strange" [.int cl] Q E H := by
  refine G.call (F := L14.f__law_strange) rfl rfl ?_
  show wpSs _ _ _ _ _ [some (.int cl), none, none, none, none] _
  refine w_st fun K nx => ?_
  dsimp [v_0, x_lit, x_var, x_bin, x_neg, x_not, x_ao, x_cmp, x_cmp2, x_sub, x_glob, x_call, x_prim, x_bm, x_isi, x_list, x_tup, x_dict0, xs_nil, xs_cons, ao_one, ao_cons, xc_none, xc_some, tv, wtg, b_add, b_sub, b_mul, b_div, b_mod, b_pow, b_adds, c_lt, c_le, c_gt, c_ge, c_eq, c_ne, c_eqs, c_nes, c_in, c_nin, t_bool, t_int, t_none, w_cons, w_nil, w_ite, w_ret, w_asg, s_expr', s_raise']
  refine ⟨by decide, nx _ _ ?_⟩
  refine w_st fun K nx => ?_
  dsimp [v_0, x_lit, x_var, x_bin, x_neg, x_not, x_ao, x_cmp, x_cmp2, x_sub, x_glob, x_call, x_prim, x_bm, x_isi, x_list, x_tup, x_dict0, xs_nil, xs_cons, ao_one, ao_cons, xc_none, xc_some, tv, wtg, b_add, b_sub, b_mul, b_div, b_mod, b_pow, b_adds, c_lt, c_le, c_gt, c_ge, c_eq, c_ne, c_eqs, c_nes, c_in, c_nin, t_bool, t_int, t_none, w_cons, w_nil, w_ite, w_ret, w_asg, s_expr', s_raise']
  refine ⟨by decide, nx _ _ ?_⟩
  refine w_st fun K nx => ?_
  dsimp [v_0, x_lit, x_var, x_bin, x_neg, x_not, x_ao, x_cmp, x_cmp2, x_sub, x_glob, x_call, x_prim, x_bm, x_isi, x_list, x_tup, x_dict0, xs_nil, xs_cons, ao_one, ao_cons, xc_none, xc_some, tv, wtg, b_add, b_sub, b_mul, b_div, b_mod, b_pow, b_adds, c_lt, c_le, c_gt, c_ge, c_eq, c_ne, c_eqs, c_nes, c_in, c_nin, t_bool, t_int, t_none, w_cons, w_nil, w_ite, w_ret, w_asg, s_expr', s_raise']
  refine ⟨by decide, by decide, nx _ _ ?_⟩
  refine w_st fun K nx => ?_
  show wpS _ _ _ _ _ [some (.int cl), some (.str letters), some (.str ⟨[122].toArray⟩), some (.int (cl.fdiv 12)), none] _
  rw [s_for']
  refine ⟨rfl, ?_⟩
  dsimp [v_0, x_lit, x_var, x_bin, x_neg, x_not, x_ao, x_cmp, x_cmp2, x_sub, x_glob, x_call, x_prim, x_bm, x_isi, x_list, x_tup, x_dict0, xs_nil, xs_cons, ao_one, ao_cons, xc_none, xc_some, tv, wtg, b_add, b_sub, b_mul, b_div, b_mod, b_pow, b_adds, c_lt, c_le, c_gt, c_ge, c_eq, c_ne, c_eqs, c_nes, c_in, c_nin, t_bool, t_int, t_none]
  refine ⟨by decide, ?_⟩
  have h0 : 0 ≤ cl.fmod 12 := fmod_lo (by omega)
  have h1 : cl.fmod 12 < 12 := fmod_hi (by omega)
  rw [p_range]
  refine ⟨⟨by omega, by omega⟩, fun z hz => ?_⟩
  refine wforI (xs := (List.range (cl.fmod 12 - 0).toNat).map fun (k : Nat) => AV.int (0 + k)) (by simp only [itemsOf]; rw [up_same]) (fun k V' H' => H' = up H z (.range 0 (cl.fmod 12)) ∧ ∃ L r p, V' = [some (.int cl), some (.str letters), some (.str ⟨(122 :: L).toArray⟩), some (.int r), p] ∧ L.length = k ∧ ∀ ch ∈ L, letters.cps.toList.contains ch = true) ⟨rfl, [], _, _, rfl, rfl, fun _ h => by cases h⟩ ?_
  rintro I hI k V' H' ⟨rfl, L, r, p, rfl, hl, ha⟩
  refine ⟨rfl, fun hk => ?_, fun y hy => ?_⟩
  · rw [List.length_map, List.length_range] at hk
    exact nx _ _ (q _ _ (Ext.refl.new hz) ⟨L, rfl, by omega, ha⟩)
  · have hk : k < (cl.fmod 12 - 0).toNat := by have := (List.getElem?_eq_some_iff.mp hy).1; rw [List.length_map, List.length_range] at this; exact this
    refine ⟨show 4 < 5 by decide, ?_⟩
    refine w_st fun K2 nx2 => ?_
    show wpS _ _ _ _ _ [some (.int cl), some (.str letters), some (.str ⟨(122 :: L).toArray⟩), some (.int r), some y] _
    dsimp [v_0, x_lit, x_var, x_bin, x_neg, x_not, x_ao, x_cmp, x_cmp2, x_sub, x_glob, x_call, x_prim, x_bm, x_isi, x_list, x_tup, x_dict0, xs_nil, xs_cons, ao_one, ao_cons, xc_none, xc_some, tv, wtg, b_add, b_sub, b_mul, b_div, b_mod, b_pow, b_adds, c_lt, c_le, c_gt, c_ge, c_eq, c_ne, c_eqs, c_nes, c_in, c_nin, t_bool, t_int, t_none, w_cons, w_nil, w_ite, w_ret, w_asg, s_expr', s_raise']
    refine ⟨by decide, ?_⟩
    refine sub_let (fmod_lo (by omega)) (fmod_hi (by omega)) ?_
    rw [b_adds]
    refine ⟨by rw [str_len, str_len]; simp [sizeLine, txs_length]; omega, by decide, nx2 _ _ ?_⟩
    refine w_st fun K2 nx2 => ?_
    show wpS _ _ _ _ _ [some (.int cl), some (.str letters), some (.str (⟨(122 :: L).toArray⟩ ++ ⟨#[chI (r.fmod 26)]⟩)), some (.int r), some y] _
    dsimp [v_0, x_lit, x_var, x_bin, x_neg, x_not, x_ao, x_cmp, x_cmp2, x_sub, x_glob, x_call, x_prim, x_bm, x_isi, x_list, x_tup, x_dict0, xs_nil, xs_cons, ao_one, ao_cons, xc_none, xc_some, tv, wtg, b_add, b_sub, b_mul, b_div, b_mod, b_pow, b_adds, c_lt, c_le, c_gt, c_ge, c_eq, c_ne, c_eqs, c_nes, c_in, c_nin, t_bool, t_int, t_none, w_cons, w_nil, w_ite, w_ret, w_asg, s_expr', s_raise']
    refine ⟨by decide, by decide, nx2 _ _ ?_⟩
    refine hI _ _ _ ⟨rfl, L ++ [chI (r.fmod 26)], r.fdiv 26, some y, ?_, by rw [List.length_append, hl]; rfl, fun ch hch => ?_⟩
    · rw [show (⟨#[chI (r.fmod 26)]⟩ : Str) = ⟨[chI (r.fmod 26)].toArray⟩ from rfl, str_app]; rfl
    · rcases List.mem_append.mp hch with h | h
      · exact ha ch h
      · rw [List.mem_singleton.mp h]; exact chI_let (fmod_lo (by omega)) (fmod_hi (by omega))
end
end Mine

end
section
open PySem PySem.W PyProof.Rows PySem.Spec PySem.SeqAt PySem.Calls
namespace Mine
open L14
noncomputable def cls14 : List String := ["NoName", "NoAmount", "Taken", "NoPurse", "TooLittle", "NoRow", "Twice", "Uneven", "Fallen", "NoDay", "NoPact", "NotOpen", "NoPart", "Already", "NotAside"]
noncomputable def has14 (cl : String) (tys : List String) : List Bool := tys.map fun ty => excSub L14.P cl ty
theorem rds_bool {H : AHeap} : ∀ {bs : List Bool}, RDs H (bs.map .bool) (bs.map .bool)
  | [] => .nil
  | _ :: _ => .cons (.bool _) rds_bool
set_option tactic.hygienic false in
theorem flat_bool : ∀ {bs : List Bool}, flatDs (bs.map .bool) = true
  | [] => rfl
  | _ :: l => by simp [flatDs, flatD, flat_bool (bs := l)]
noncomputable def chk14 (k : Nat) : Bool := match cls14[k]? with
  | some cl => ((has14 cl cls14).map PyData.bool).countP (fun y => PyData.eqv y (.bool true)) == 1 && ((has14 cl cls14).map PyData.bool).findIdx? (fun y => PyData.eqv y (.bool true)) == some k && (P.excs.lookup cl).isSome && excSub L14.P cl "ValueError" && excSub L14.P cl "BookError"
  | none => true
set_option tactic.hygienic false in
theorem chk14_all : (List.range 15).all chk14 = true := by kernel_rfl
set_option tactic.hygienic false in
theorem chk14_at {k : Nat} {cl : String} (h : cls14[k]? = some cl) : ((has14 cl cls14).map PyData.bool).countP (fun y => PyData.eqv y (.bool true)) = 1 ∧ ((has14 cl cls14).map PyData.bool).findIdx? (fun y => PyData.eqv y (.bool true)) = some k ∧ (P.excs.lookup cl).isSome = true ∧ excSub L14.P cl "ValueError" = true ∧ excSub L14.P cl "BookError" = true := by
  have hk : k < 15 := (List.getElem?_eq_some_iff.mp h).1
  have := List.all_eq_true.mp chk14_all k (List.mem_range.mpr hk)
  unfold chk14 at this
  rw [h] at this
  simp only [Bool.and_eq_true, beq_iff_eq] at this
  exact ⟨this.1.1.1.1, this.1.1.1.2, this.1.1.2, this.1.2, this.2⟩
section
variable {c : Cx} (G : Gd c L14.P) {n : Nat} {V : VV} {Q : AV → AHeap → Prop} {E : String → AHeap → Prop} {H : AHeap} {e : Addr} {cl : String}
include G
set_option tactic.hygienic false in
theorem isi14 {ty : String} (he : H e = some (.exc cl)) (hc : (P.excs.lookup cl).isSome = true) (ht : (P.excs.lookup ty).isSome = true) (hs : (ty = "int" ∨ ty = "bool" ∨ ty = "str" ∨ ty = "list") = False) : isinstV c.P H (.ref e) ty = some (excSub L14.P cl ty) := by
  rw [G.hP]
  unfold isinstV excSub
  rw [if_neg (by rw [hs]; exact fun h => h)]
  simp only [he, hc, ht]
  cases ((List.lookup cl L14.P.excs).map fun x => x.contains ty).getD false <;> rfl
set_option tactic.hygienic false in
theorem isL14 {md : Bool} (he : H e = some (.exc cl)) (hc : (P.excs.lookup cl).isSome = true) (hV : V[0]? = some (some (.ref e))) : ∀ {tys : List String} {QL : List AV → AHeap → Prop}, tys.all (fun ty => (P.excs.lookup ty).isSome && !(["int", "bool", "str", "list"].contains ty)) = true → QL ((has14 cl tys).map .bool) H → wpXs ⟨c, n, md⟩ (tys.map fun ty => .isinst (.var 0) ty) V QL E H
  | [], _, _, q => q
  | ty :: tys, QL, h, q => by
    rw [List.all_cons, Bool.and_eq_true] at h
    show wpXs _ (.isinst (.var 0) ty :: tys.map fun ty => .isinst (.var 0) ty) _ _ _ _
    rw [xs_cons, x_isi, x_var, hV]
    have h1 := h.1
    rw [Bool.and_eq_true] at h1
    have hs : (ty = "int" ∨ ty = "bool" ∨ ty = "str" ∨ ty = "list") = False := by
      have := h1.2
      simp at this
      simp [this]
    show (match isinstV c.P H (.ref e) ty with | some b => _ | none => False)
    rw [isi14 G he hc h1.1 hs]
    exact isL14 he hc hV h.2 q
set_option tactic.hygienic false in
theorem lay14 {md : Bool} {tys : List String} (he : H e = some (.exc cl)) (hc : (P.excs.lookup cl).isSome = true) (hV : V[0]? = some (some (.ref e))) (h : tys.all (fun ty => (P.excs.lookup ty).isSome && !(["int", "bool", "str", "list"].contains ty)) = true) (q : ∀ a, H a = none → Q (.ref a) (up H a (.list ((has14 cl tys).map .bool)))) : wpX ⟨c, n, md⟩ (.list (tys.map fun ty => .isinst (.var 0) ty)) V Q E H := by
  rw [x_list]
  exact isL14 G he hc hV h q
set_option tactic.hygienic false in
theorem more14 {md : Bool} {tys : List String} {m : Addr} {bs : List Bool} (he : H e = some (.exc cl)) (hm : H m = some (.list (bs.map .bool))) (hc : (P.excs.lookup cl).isSome = true) (hV : V = [some (.ref e), some (.ref m)]) (h : tys.all (fun ty => (P.excs.lookup ty).isSome && !(["int", "bool", "str", "list"].contains ty)) = true) (hl : (bs.length + tys.length).ble 1000 = true) (q : ∀ H' z, Ext H H' → H' z = some (.list ((bs ++ has14 cl tys).map .bool)) → Q (.ref z) H') : wpX ⟨c, n, md⟩ (.bin .Add (.var 1) (.list (tys.map fun ty => .isinst (.var 0) ty))) V Q E H := by
  subst hV
  rw [x_bin, x_var]
  show wpX _ (.list _) _ _ _ _
  refine lay14 G he hc rfl h fun a ha => ?_
  show (match up H a _ m, up H a _ a with | some (.list xs), some (.list ys) => xs.length + ys.length ≤ sizeLine ∧ ∀ z, up H a _ z = none → Q (.ref z) (up (up H a _) z (.list (xs ++ ys))) | _, _ => False)
  rw [up_ne hm ha, up_same]
  refine ⟨by simp only [List.length_map, has14]; exact Nat.le_trans (Nat.le_of_ble_eq_true hl) (by decide), fun z hz => ?_⟩
  refine q _ z ((Ext.refl.new ha).new hz) ?_
  rw [up_same, List.map_append]
set_option tactic.hygienic false in
theorem class_ok {k : Nat} (hk : cls14[k]? = some cl) (he : H e = some (.exc cl)) (q : ∀ H', Ext H H' → Q (.int k) H') : CallOK c (n + 1) false "_law_class" [.ref e] Q E H := by
  obtain ⟨h1, h2, hc, hv, -⟩ := chk14_at hk
  refine G.call (F := L14.f__law_class) rfl rfl ?_
  show wpSs _ _ _ _ _ [some (.ref e), none] _
  refine w_st fun K nx => ?_
  rw [w_asg]
  refine lay14 G (tys := ["NoName", "NoAmount", "Taken", "NoPurse"]) he hc rfl (by kernel_rfl) fun m hm => ?_
  refine ⟨show 1 < 2 by decide, nx _ _ ?_⟩
  have E1 := Ext.refl.new (o := .list ((has14 cl ["NoName", "NoAmount", "Taken", "NoPurse"]).map .bool)) hm
  refine w_st fun K nx => ?_
  rw [w_asg]
  refine more14 G (tys := ["TooLittle", "NoRow", "Twice", "Uneven"]) (E1 _ _ he) up_same hc rfl (by kernel_rfl) rfl fun H2 m2 E2 hm2 => ?_
  refine ⟨show 1 < 2 by decide, nx _ _ ?_⟩
  refine w_st fun K nx => ?_
  rw [w_asg]
  refine more14 G (tys := ["Fallen", "NoDay", "NoPact", "NotOpen"]) (E2 _ _ (E1 _ _ he)) hm2 hc rfl (by kernel_rfl) rfl fun H3 m3 E3 hm3 => ?_
  refine ⟨show 1 < 2 by decide, nx _ _ ?_⟩
  refine w_st fun K nx => ?_
  rw [w_asg]
  refine more14 G (tys := ["NoPart", "Already", "NotAside"]) (E3 _ _ (E2 _ _ (E1 _ _ he))) hm3 hc rfl (by kernel_rfl) rfl fun H4 m4 E4 hm4 => ?_
  refine ⟨show 1 < 2 by decide, nx _ _ ?_⟩
  have hm4 : H4 m4 = some (.list ((has14 cl cls14).map .bool)) := hm4
  have hE := ((E1.trans E2).trans E3).trans E4
  refine w_st fun K nx => ?_
  show wpS _ _ _ _ _ [some (.ref e), some (.ref m4)] _
  rw [w_ite, x_ao, ao_cons, x_cmp, x_bm, x_var]
  refine ⟨by unfold bmOn; dsimp only; rw [hm4]; exact .inr (.inr (.inr rfl)), ?_⟩
  rw [xs_cons, x_lit, xs_nil, m_cnt, hm4]
  refine ⟨_, _, .bool _, rds_bool, ⟨rfl, by decide⟩, flat_bool, ?_⟩
  rw [h1, x_lit, c_ne, t_bool, if_pos (by decide), ao_one, x_not, x_isi, x_var]
  have : isinstV c.P H4 (.ref e) "ValueError" = some true := by
    rw [G.hP]; unfold isinstV; rw [if_neg (by decide)]; simp only [hE _ _ he]
    unfold excSub at hv; rw [if_pos hv]
  show (match isinstV c.P H4 (.ref e) "ValueError" with | some b => _ | none => False)
  rw [this]
  refine nx _ _ ?_
  rw [w_cons, w_ret, x_bm, x_var]
  refine ⟨by unfold bmOn; dsimp only; rw [hm4]; exact .inr (.inr (.inl rfl)), ?_⟩
  rw [xs_cons, x_lit, xs_nil, m_idx, hm4]
  exact ⟨by simp only [List.length_map, has14, cls14]; decide, _, _, .bool _, rds_bool, ⟨rfl, by decide⟩, flat_bool, _, h2, q _ hE⟩
end
end Mine

end
section
open PySem PySem.W PyProof.Rows PySem.Spec PySem.SeqAt PySem.Calls
namespace Mine
open L14
set_option tactic.hygienic false in
theorem up_let : letters.cps.toList.all (fun ch => Unicode.upperOf ch == [ch - 32] && decide (ch < 0x110000)) = true := by kernel_rfl
set_option tactic.hygienic false in
theorem up_lets : ∀ {l : List Nat}, (∀ ch ∈ l, letters.cps.toList.contains ch = true) → (l.map fun c => (Unicode.upperOf c)).flatten = l.map (· - 32)
  | [], _ => rfl
  | ch :: l, h => by
    have := List.all_eq_true.mp up_let ch (List.contains_iff_mem.mp (h ch (List.mem_cons_self)))
    rw [Bool.and_eq_true, beq_iff_eq] at this
    rw [List.map_cons, List.flatten_cons, this.1, up_lets fun x hx => h x (List.mem_cons_of_mem _ hx)]
    rfl
set_option tactic.hygienic false in
theorem upperS_list {l : List Nat} (h : ∀ ch ∈ l, letters.cps.toList.contains ch = true) : upperS ⟨l.toArray⟩ = ⟨(l.map (· - 32)).toArray⟩ := by
  show (⟨(l.toArray.mapIdx fun _ c => (Unicode.upperOf c).toArray).flatten⟩ : Str) = _
  rw [← up_lets h]
  have mi : ∀ (l : List Nat), (l.mapIdx fun _ c => (Unicode.upperOf c).toArray) = l.map fun c => (Unicode.upperOf c).toArray := fun l => by
    apply List.ext_getElem?
    intro i
    simp
  simp [Function.comp_def, mi]
set_option tactic.hygienic false in
theorem Zw.up {w : Str} (h : Zw w) : (upperS w).length ≤ sizeLine ∧ PyData.strOk (upperS w) = true ∧ isNm (upperS w) = false ∧ (upperS w).length < 2 ^ 62 := by
  obtain ⟨L, rfl, hl, ha⟩ := h
  have h1 : ∀ ch ∈ (122 :: L), letters.cps.toList.contains ch = true := fun ch hc => by
    rcases List.mem_cons.mp hc with rfl | hc
    · decide
    · exact ha ch hc
  rw [upperS_list h1, str_len, List.length_map, List.length_cons]
  refine ⟨by unfold sizeLine; omega, ?_, ?_, by omega⟩
  · unfold PyData.strOk
    rw [← Array.all_toList, List.all_eq_true]
    intro x hx
    obtain ⟨ch, hc, rfl⟩ := List.mem_map.mp hx
    have := List.all_eq_true.mp up_let ch (List.contains_iff_mem.mp (h1 ch hc))
    rw [Bool.and_eq_true, decide_eq_true_eq] at this
    rw [decide_eq_true_eq]
    omega
  · unfold isNm
    show (_ && List.all (90 :: L.map (· - 32)) _) = false
    rw [List.all_cons, show letters.cps.toList.contains 90 = false by decide, Bool.false_and, Bool.and_false]
set_option tactic.hygienic false in
theorem Zw.dash {w : Str} (h : Zw w) : isNm (w ++ S' "-") = false ∧ (w ++ S' "-").length < 2 ^ 62 ∧ w.length + (S' "-").length ≤ sizeLine := by
  obtain ⟨L, rfl, hl, ha⟩ := h
  have e : (S' "-") = ⟨[45].toArray⟩ := by decide
  rw [e, str_app, str_len, str_len, str_len]
  refine ⟨?_, by simp only [List.length_append, List.length_cons, List.length_nil]; omega, by simp only [List.length_cons, List.length_nil]; unfold sizeLine; omega⟩
  unfold isNm
  show (_ && List.all ((122 :: L) ++ [45]) _) = false
  rw [List.all_append, List.all_cons (l := []), show letters.cps.toList.contains 45 = false by decide, Bool.false_and, Bool.and_false, Bool.and_false]
end Mine

end
section
open PySem PySem.W PyProof.Rows PySem.Spec PySem.SeqAt PySem.Calls
namespace Mine
open L14
section
variable {w : Str} (hw : Zw w) {m : Int}
include hw
set_option tactic.hygienic false in
theorem z_hs : hs Bf.free w = false := by
  rw [hs_mem, decide_eq_false_iff_not]
  intro h
  rcases List.mem_cons.mp h with h | h
  · exact hw.ne (by decide) h
  · exact hw.ne (by decide) (List.mem_singleton.mp h)
set_option tactic.hygienic false in
theorem z_at : pAt Bf.pacts w = none := by
  show pAt [_, _, _, _] w = none
  unfold pAt
  rw [if_neg fun h => hw.ne (x := S' "one") (by decide) h.symm]
  unfold pAt
  rw [if_neg fun h => hw.ne (x := S' "two") (by decide) h.symm]
  unfold pAt
  rw [if_neg fun h => hw.ne (x := S' "paid") (by decide) h.symm]
  unfold pAt
  rw [if_neg fun h => hw.ne (x := S' "gone") (by decide) h.symm]
  rfl
set_option tactic.hygienic false in
theorem z_pact : pactV Bf (.str w) = none := by
  show (if isNm w = true then pAt Bf.pacts w else none) = none
  rw [z_at hw]; split <;> rfl
set_option tactic.hygienic false in
theorem z_purse : purseB Bf (.str w) = false := by
  show (isNm w && hs Bf.free w) = false
  rw [z_hs hw, Bool.and_false]
set_option tactic.hygienic false in
theorem z_fallen : fallenB Bf w = false := by
  unfold fallenB
  rw [z_at hw]
set_option tactic.hygienic false in
theorem a3 {a : AV} : putQ Bf (.str w) a = .error "NoPurse" := by
  unfold putQ; rw [z_purse hw]; rfl
set_option tactic.hygienic false in
theorem a10 : offQ Bf (.str w) = .error "NoPact" := by
  unfold offQ; rw [z_pact hw]
set_option tactic.hygienic false in
theorem a00 : openQ Bf (.str (upperS w)) = .error "NoName" := by
  unfold openQ; rw [show nameB (.str (upperS w)) = false from hw.up.2.2.1]; rfl
set_option tactic.hygienic false in
theorem a01 {pl gl : List (AV × AV)} {nl : List AV} {l : AV} : tellQ Bf (.str (w ++ S' "-")) pl gl nl l = .error "NoName" := by
  unfold tellQ; rw [show nameB (.str (w ++ S' "-")) = false from hw.dash.1]; rfl
omit hw
theorem tell_new {pl gl : List (AV × AV)} {nl : List AV} {l : AV} : tellQ Bf (.str (S' "new")) pl gl nl l = match pairsQ Bf pl with
    | .error e => .error e
    | .ok ps => match pairsQ Bf gl with
      | .error e => .error e
      | .ok gs => if sumL ps ≠ sumL gs then .error "Uneven" else
        match needsQ Bf (S' "new") nl with
        | .error e => .error e
        | .ok _ => if wholeB l = true ∧ ¬ intOf l < Bf.day then .ok { Bf with pacts := Bf.pacts ++ [⟨S' "new", ps, gs, nl.map keyOf, intOf l, .opn, []⟩] } else .error "NoDay" := rfl
theorem pairs_none : pairsQ Bf [] = .error "NoRow" := rfl
set_option tactic.hygienic false in
theorem am (h1 : 1 ≤ m) (h2 : m ≤ 55) : amountB (.int m) = true := by
  show decide _ = true
  rw [decide_eq_true_eq]; omega
set_option tactic.hygienic false in
theorem pairs_till (h1 : 1 ≤ m) (h2 : m ≤ 55) : pairsQ Bf [(.str (S' "till"), .int m)] = .ok [(S' "till", m)] := by
  unfold pairsQ
  rw [if_pos (by rw [List.length_singleton]; decide)]
  unfold pairsF
  rw [if_pos (by kernel_rfl), if_neg (fun h => by cases h), if_pos (am h1 h2)]
  rfl
set_option tactic.hygienic false in
theorem pairs_quay (h1 : 1 ≤ m) (h2 : m ≤ 55) : pairsQ Bf [(.str (S' "quay"), .int m)] = .ok [(S' "quay", m)] := by
  unfold pairsQ
  rw [if_pos (by rw [List.length_singleton]; decide)]
  unfold pairsF
  rw [if_pos (by kernel_rfl), if_neg (fun h => by cases h), if_pos (am h1 h2)]
  rfl
set_option tactic.hygienic false in
theorem sum1 {k : Str} : sumL [(k, m)] = m := by simp [sumL]
variable (h1 : 1 ≤ m) (h2 : m ≤ 53)
include h1 h2
set_option tactic.hygienic false in
theorem a50 {nl : List AV} {l : AV} : tellQ Bf (.str (S' "new")) [(.str (S' "till"), .int m)] [] nl l = .error "NoRow" := by
  rw [tell_new, pairs_till h1 (by omega), pairs_none]
set_option tactic.hygienic false in
theorem a7 {k : Int} (hk : m < k) (hk2 : k ≤ 55) {nl : List AV} {l : AV} : tellQ Bf (.str (S' "new")) [(.str (S' "till"), .int m)] [(.str (S' "quay"), .int k)] nl l = .error "Uneven" := by
  rw [tell_new, pairs_till h1 (by omega), pairs_quay (by omega) hk2]
  dsimp only
  rw [if_pos (by rw [sum1, sum1]; omega)]
set_option tactic.hygienic false in
theorem tell_n {nl : List AV} {l : AV} {e : String} (h : needsQ Bf (S' "new") nl = .error e) : tellQ Bf (.str (S' "new")) [(.str (S' "till"), .int m)] [(.str (S' "till"), .int m)] nl l = .error e := by
  rw [tell_new, pairs_till h1 (by omega), h]
  dsimp only
  rw [if_neg (fun h => h rfl)]
set_option tactic.hygienic false in
theorem a90 : tellQ Bf (.str (S' "new")) [(.str (S' "till"), .int m)] [(.str (S' "till"), .int m)] [] (.int (-1 - m)) = .error "NoDay" := by
  rw [tell_new, pairs_till h1 (by omega)]
  show (if sumL [(S' "till", m)] ≠ sumL [(S' "till", m)] then _ else if wholeB (.int (-1 - m)) = true ∧ ¬ -1 - m < 0 then _ else _) = _
  rw [if_neg (fun h => h rfl), if_neg (fun h => h.2 (by omega))]
set_option tactic.hygienic false in
theorem a10l : putQ Bf (.str (S' "till")) (.int (1 - m)) = .error "NoAmount" := by
  unfold putQ
  rw [if_pos (by kernel_rfl), if_neg]
  show ¬ decide _ = true
  rw [decide_eq_true_eq]; omega
set_option tactic.hygienic false in
theorem a10h : putQ Bf (.str (S' "till")) (.int (10 ^ 30 + m)) = .error "NoAmount" := by
  unfold putQ
  rw [if_pos (by kernel_rfl), if_neg]
  show ¬ decide _ = true
  rw [decide_eq_true_eq]; omega
set_option tactic.hygienic false in
theorem a4 (h4 : 4 ≤ m) : takeQ Bf (.str (S' "till")) (.int (50 + m)) = .error "TooLittle" := by
  unfold takeQ
  rw [if_pos (by kernel_rfl), if_pos, if_pos]
  · show (53 : Int) < 50 + m
    omega
  · show decide _ = true
    rw [decide_eq_true_eq]; omega
omit h1 h2
set_option tactic.hygienic false in
theorem a51 {gl : List (AV × AV)} {nl : List AV} {l : AV} : tellQ Bf (.str (S' "new")) [] gl nl l = .error "NoRow" := by
  rw [tell_new, pairs_none]
set_option tactic.hygienic false in
theorem n60 : needsQ Bf (S' "new") [.str (S' "new")] = .error "Twice" := by kernel_rfl
set_option tactic.hygienic false in
theorem n80 : needsQ Bf (S' "new") [.str (S' "gone")] = .error "Fallen" := by kernel_rfl
include hw
set_option tactic.hygienic false in
theorem z_needs {l : List AV} {seen : List Str} (hs : w ∉ seen) : needsF Bf (.str w :: l) seen = needsF Bf l (seen ++ [w]) := by
  conv => lhs; unfold needsF
  rw [show nameB (.str w) = true from hw.nm, if_pos rfl, if_neg (show ¬ keyOf (.str w) ∈ seen from hs), show fallenB Bf (keyOf (.str w)) = false from z_fallen hw]
  rfl
theorem z_new : w ∉ [S' "new"] := fun h => hw.ne (by decide) (List.mem_singleton.mp h)
set_option tactic.hygienic false in
theorem n61 : needsQ Bf (S' "new") [.str w, .str w] = .error "Twice" := by
  unfold needsQ
  rw [if_pos (by rw [List.length_cons, List.length_singleton]; decide), z_needs hw (z_new hw)]
  unfold needsF
  rw [show nameB (.str w) = true from hw.nm, if_pos rfl, if_pos (show keyOf (.str w) ∈ [S' "new"] ++ [w] from List.mem_append_right _ (List.mem_singleton.mpr rfl))]
set_option tactic.hygienic false in
theorem n81 : needsQ Bf (S' "new") [.str w, .str (S' "gone")] = .error "Fallen" := by
  unfold needsQ
  rw [if_pos (by rw [List.length_cons, List.length_singleton]; decide), z_needs hw (z_new hw)]
  unfold needsF
  rw [if_pos (by kernel_rfl), if_neg, if_pos (by kernel_rfl)]
  intro h
  rcases List.mem_append.mp h with h | h
  · revert h; decide +kernel
  · exact hw.ne (x := S' "gone") (by decide) (List.mem_singleton.mp h).symm
end
set_option tactic.hygienic false in
theorem a20 : openQ Bf (.str (S' "quay")) = .error "Taken" := by kernel_rfl
theorem a21 {pl gl : List (AV × AV)} {nl : List AV} {l : AV} : tellQ Bf (.str (S' "paid")) pl gl nl l = .error "Taken" := rfl
set_option tactic.hygienic false in
theorem a41 : asideQ Bf (.str (S' "quay")) (.str (S' "two")) = .error "TooLittle" := by kernel_rfl
set_option tactic.hygienic false in
theorem a110 : asideQ Bf (.str (S' "till")) (.str (S' "gone")) = .error "NotOpen" := by kernel_rfl
set_option tactic.hygienic false in
theorem a111 : asideQ Bf (.str (S' "till")) (.str (S' "paid")) = .error "NotOpen" := by kernel_rfl
set_option tactic.hygienic false in
theorem a12 : asideQ Bf (.str (S' "till")) (.str (S' "two")) = .error "NoPart" := by kernel_rfl
set_option tactic.hygienic false in
theorem a13 : asideQ Bf (.str (S' "till")) (.str (S' "one")) = .error "Already" := by kernel_rfl
set_option tactic.hygienic false in
theorem a140 : drawQ Bf (.str (S' "quay")) (.str (S' "one")) = .error "NotAside" := by kernel_rfl
set_option tactic.hygienic false in
theorem a141 : drawQ Bf (.str (S' "quay")) (.str (S' "two")) = .error "NotAside" := by kernel_rfl
end Mine

end
section
open PySem PySem.W PyProof.Rows PySem.Spec PySem.SeqAt PySem.Calls
namespace Mine
open L14
section
variable {g : Gx} {V : VV} {K : VV → AHeap → Prop} {QR : AV → AHeap → Prop} {E : String → VV → AHeap → Prop} {H : AHeap} {k j y : Int} {i : Nat} {a : List S}
set_option tactic.hygienic false in
theorem if1 (hV : V[i]? = some (some (.int k))) (t : k = j → wpSs g a K QR E V H) (f : k ≠ j → K V H) : wpS g (.ite (.cmp .Eq (.var i) (.lit (.int j))) a []) K QR E V H := by
  rw [w_ite, x_cmp, x_var, hV]
  show wpX _ (.lit _) _ _ _ _
  rw [x_lit, c_eq, t_bool]
  by_cases h : k = j
  · rw [if_pos (beq_iff_eq.mpr h)]; exact t h
  · rw [if_neg (fun e => h (beq_iff_eq.mp e))]; exact f h
set_option tactic.hygienic false in
theorem if2 (hV : V[1]? = some (some (.int k))) (hW : V[2]? = some (some (.int y))) (t : k = j → y = 0 → wpSs g a K QR E V H) (f : ¬ (k = j ∧ y = 0) → K V H) : wpS g (.ite (.ao true [.cmp .Eq (.var 1) (.lit (.int j)), .cmp .Eq (.var 2) (.lit (.int 0))]) a []) K QR E V H := by
  rw [w_ite, x_ao, ao_cons, x_cmp, x_var, hV]
  show wpX _ (.lit _) _ _ _ _
  rw [x_lit, c_eq, t_bool]
  by_cases h : k = j
  · rw [if_pos (beq_iff_eq.mpr h), ao_one, x_cmp, x_var, hW]
    show wpX _ (.lit _) _ _ _ _
    rw [x_lit, c_eq, t_bool]
    by_cases h2 : y = 0
    · rw [if_pos (beq_iff_eq.mpr h2)]; exact t h h2
    · rw [if_neg (fun e => h2 (beq_iff_eq.mp e))]; exact f fun e => h2 e.2
  · rw [if_neg (fun e => h (beq_iff_eq.mp e)), show (k == j) = false from beq_false_of_ne h, t_bool]
    exact f fun e => h e.1
end
section
variable {g : Gx} {V : VV} {Q : AV → AHeap → Prop} {E : String → AHeap → Prop} {H : AHeap} {y : Int}
set_option tactic.hygienic false in
theorem sub2 {z : Addr} {v1 v2 : AV} (hz : H z = some (.list [v1, v2])) (hy : y = 0 ∨ y = 1) (q : Q (if y = 0 then v1 else v2) H) : wsub (.ref z) (.int y) Q H := by
  rw [sub_ri, hz]
  rcases hy with rfl | rfl
  · exact ⟨0, v1, rfl, by decide, by decide, rfl, q⟩
  · exact ⟨1, v2, rfl, by decide, by decide, rfl, q⟩
set_option tactic.hygienic false in
theorem pick2 {e1 e2 : X} {v1 v2 : AV} (h1 : Pure g V e1 v1) (h2 : Pure g V e2 v2) (hV : V[2]? = some (some (.int y))) (hy : y = 0 ∨ y = 1) (q : ∀ H', Ext H H' → Q (if y = 0 then v1 else v2) H') : wpX g (.sub (.list [e1, e2]) (.var 2)) V Q E H := by
  rw [x_sub, x_list, xs_cons]
  refine h1 _ _ _ ?_
  rw [xs_cons]
  refine h2 _ _ _ ?_
  rw [xs_nil]
  intro z hz
  rw [x_var, hV]
  exact sub2 up_same hy (q _ (Ext.refl.new hz))
set_option tactic.hygienic false in
theorem layV {i : Nat} {z : Addr} {ts : List Addr} {l : List (AV × AV)} (hV : V[i]? = some (some (.ref z))) (hz : H z = some (.list (ts.map .ref))) (hp : pairsH H ts l) : Lays g V (.var i) l H := fun Q E H1 hE q => by
  rw [x_var, hV]
  exact q _ z ts .refl (hE _ _ hz) (hp.ext hE)
set_option tactic.hygienic false in
theorem layP {e1 e2 : X} {l1 l2 : List (AV × AV)} (h1 : Lays g V e1 l1 H) (h2 : Lays g V e2 l2 H) (hV : V[2]? = some (some (.int y))) (hy : y = 0 ∨ y = 1) : Lays g V (.sub (.list [e1, e2]) (.var 2)) (if y = 0 then l1 else l2) H := fun Q E H1 hE q => by
  rw [x_sub, x_list, xs_cons]
  refine h1 _ _ _ hE fun H2 z1 ts E1 hz1 p1 => ?_
  rw [xs_cons]
  refine h2 _ _ _ (hE.trans E1) fun H3 z2 us E2 hz2 p2 => ?_
  rw [xs_nil]
  intro z hz
  rw [x_var, hV]
  have E3 := Ext.refl.new (o := .list [.ref z1, .ref z2]) hz
  refine sub2 up_same hy ?_
  rcases hy with rfl | rfl
  · exact q _ z1 ts ((E1.trans E2).trans E3) (E3 _ _ (E2 _ _ hz1)) ((p1.ext E2).ext E3)
  · exact q _ z2 us ((E1.trans E2).trans E3) (E3 _ _ hz2) (p2.ext E3)
set_option tactic.hygienic false in
theorem layLP {e1 e2 : X} {l1 l2 : List AV} (h1 : LaysL g V e1 l1 H) (h2 : LaysL g V e2 l2 H) (hV : V[2]? = some (some (.int y))) (hy : y = 0 ∨ y = 1) : LaysL g V (.sub (.list [e1, e2]) (.var 2)) (if y = 0 then l1 else l2) H := fun Q E H1 hE q => by
  rw [x_sub, x_list, xs_cons]
  refine h1 _ _ _ hE fun H2 z1 E1 hz1 => ?_
  rw [xs_cons]
  refine h2 _ _ _ (hE.trans E1) fun H3 z2 E2 hz2 => ?_
  rw [xs_nil]
  intro z hz
  rw [x_var, hV]
  have E3 := Ext.refl.new (o := .list [.ref z1, .ref z2]) hz
  refine sub2 up_same hy ?_
  rcases hy with rfl | rfl
  · exact q _ z1 ((E1.trans E2).trans E3) (E3 _ _ (E2 _ _ hz1))
  · exact q _ z2 ((E1.trans E2).trans E3) (E3 _ _ hz2)
set_option tactic.hygienic false in
theorem layL2 {e1 e2 : X} {v w : AV} (h1 : Pure g V e1 v) (h2 : Pure g V e2 w) : LaysL g V (.list [e1, e2]) [v, w] H := fun Q E H1 _ q => by
  rw [x_list, xs_cons]
  refine h1 _ _ _ ?_
  rw [xs_cons]
  refine h2 _ _ _ ?_
  rw [xs_nil]
  intro z hz
  exact q _ z (Ext.refl.new hz) up_same
set_option tactic.hygienic false in
theorem layLA {e1 e2 : X} {l1 l2 : List AV} (h1 : LaysL g V e1 l1 H) (h2 : LaysL g V e2 l2 H) (hl : l1.length + l2.length ≤ 100) : LaysL g V (.bin .Add e1 e2) (l1 ++ l2) H := fun Q E H1 hE q => by
  rw [x_bin]
  refine h1 _ _ _ hE fun H2 z1 E1 hz1 => ?_
  refine h2 _ _ _ (hE.trans E1) fun H3 z2 E2 hz2 => ?_
  show (match H3 z1, H3 z2 with | some (.list xs), some (.list ys) => xs.length + ys.length ≤ sizeLine ∧ ∀ z, H3 z = none → Q (.ref z) (up H3 z (.list (xs ++ ys))) | _, _ => False)
  rw [E2 _ _ hz1, hz2]
  exact ⟨Nat.le_trans hl (by decide), fun z hz => q _ z ((E1.trans E2).new hz) up_same⟩
end
section
variable {c : Cx} (G : Gd c L14.P) {n : Nat} {Q : AV → AHeap → Prop} {E : String → AHeap → Prop} {H : AHeap} {b : Addr} {k y m : Int} {w : Str}
include G
set_option tactic.hygienic false in
theorem told14 (hb : H b = some (.book Bf)) (hk : k = 0 ∨ k = 5 ∨ k = 6 ∨ k = 7 ∨ k = 8 ∨ k = 9) (hy : y = 0 ∨ y = 1) (h1 : 1 ≤ m) (h2 : m ≤ 53) (hw : Zw w) (e : ∀ cl H', Ext H H' → cls14[k.toNat]? = some cl → E cl H') : CallOK c (n + 5) true "_law_told" [.ref b, .int k, .int y, .int m, .str w] Q E H := by
  refine G.call (F := L14.f__law_told) rfl rfl ?_
  have hM : c.P.meths = BK.meths := by rw [G.hP]; rfl
  have kt : Kv (.str (S' "new")) := Kv.str (by decide)
  have ok := okB_ok oF
  show wpSs _ _ _ _ _ [some (.ref b), some (.int k), some (.int y), some (.int m), some (.str w), none] _
  refine w_st fun K nx => ?_
  rw [w_asg]
  refine lay1 (H := H) (g := ⟨c, n + 4, true⟩) (V := [some (.ref b), some (.int k), some (.int y), some (.int m), some (.str w), none]) (e2 := .var 3) lit_pure (w := .int m) (fun _ _ _ h => h) (Kv.str (by decide)) .int _ _ _ .refl fun H1 z ts E1 hz hp => ⟨show 5 < 6 by decide, nx _ _ ?_⟩
  have hb := E1 _ _ hb
  show wpSs _ _ _ _ _ [some (.ref b), some (.int k), some (.int y), some (.int m), some (.str w), some (.ref z)] _
  have pr : Lays ⟨c, n + 4, true⟩ [some (.ref b), some (.int k), some (.int y), some (.int m), some (.str w), some (.ref z)] (.var 5) [(.str (S' "till"), .int m)] H1 := layV rfl hz hp
  refine w_st fun K nx => if2 rfl rfl (fun hk hy => ?_) fun d0 => nx _ _ ?_
  · subst hk hy
    rw [w_cons, w_ret]
    refine bk_meth hM (by decide) (by decide) hb rfl ?_
    rw [xs_cons, x_bm, x_var]
    refine ⟨rfl, hw.up.1, hw.up.2.1, ?_⟩
    refine open_B G U14.a hb (Kv.str hw.up.2.2.2).kn ok.sz ?_
    rw [a00 hw]
    exact e _ _ E1 rfl
  refine w_st fun K nx => if1 rfl (fun hk => ?_) fun d1 => nx _ _ ?_
  · subst hk
    rw [w_cons, w_ret]
    refine tell14 G hb ok rfl (v := .str (w ++ S' "-")) (fun _ _ _ h => ⟨hw.dash.2.2, h⟩) pr pr layL0 lit_pure (Kv.str hw.dash.2.1) .int (fun _ h => by cases h) (by simp) (by simp) (by decide) fun H2 E2 => ?_
    rw [a01 hw]
    exact e _ _ (E1.trans E2) rfl
  refine w_st fun K nx => if1 rfl (fun hk => ?_) fun d5 => nx _ _ ?_
  · subst hk
    rw [w_cons, w_ret]
    refine tell14 G hb ok rfl lit_pure (layP pr lay0 rfl hy) (layP lay0 pr rfl hy) layL0 lit_pure kt .int (fun _ h => by cases h) (by split <;> simp) (by split <;> simp) (by decide) fun H2 E2 => ?_
    rcases hy with rfl | rfl
    · rw [if_pos rfl, if_pos rfl, a50 h1 h2]; exact e _ _ (E1.trans E2) rfl
    · rw [if_neg (by decide), if_neg (by decide), a51]; exact e _ _ (E1.trans E2) rfl
  refine w_st fun K nx => if1 rfl (fun hk => ?_) fun d6 => nx _ _ ?_
  · subst hk
    rw [w_cons, w_ret]
    refine tell14 G hb ok rfl lit_pure pr pr (layLP (layL1 lit_pure) (layL2 (v := .str w) (w := .str w) (fun _ _ _ h => h) fun _ _ _ h => h) rfl hy) lit_pure kt .int (fun v h => ?_) (by simp) (by simp) (by split <;> simp) fun H2 E2 => ?_
    · rcases hy with rfl | rfl
      · rw [List.mem_singleton.mp h]; exact kt
      · have : v = .str w := by simpa using h
        rw [this]; exact hw.kv
    · rcases hy with rfl | rfl
      · rw [if_pos rfl, tell_n h1 h2 n60]; exact e _ _ (E1.trans E2) rfl
      · rw [if_neg (by decide), tell_n h1 h2 (n61 hw)]; exact e _ _ (E1.trans E2) rfl
  refine w_st fun K nx => if1 rfl (fun hk => ?_) fun d7 => nx _ _ ?_
  · subst hk
    rw [w_cons, w_ret]
    refine tell14 G hb ok rfl lit_pure pr (lay1 lit_pure (w := .int (m + 1 + y)) (fun _ _ _ h => h) (Kv.str (by decide)) .int) layL0 lit_pure kt .int (fun _ h => by cases h) (by simp) (by simp) (by decide) fun H2 E2 => ?_
    rw [a7 h1 h2 (by omega) (by omega)]
    exact e _ _ (E1.trans E2) rfl
  refine w_st fun K nx => if1 rfl (fun hk => ?_) fun d8 => nx _ _ ?_
  · subst hk
    rw [w_cons, w_ret]
    refine tell14 G hb ok rfl lit_pure pr pr (layLA (layLP layL0 (layL1 (v := .str w) fun _ _ _ h => h) rfl hy) (layL1 lit_pure) (by split <;> simp)) lit_pure kt .int (fun v h => ?_) (by simp) (by simp) (by split <;> simp) fun H2 E2 => ?_
    · rcases List.mem_append.mp h with h | h
      · rcases hy with rfl | rfl
        · cases h
        · rw [List.mem_singleton.mp h]; exact hw.kv
      · rw [List.mem_singleton.mp h]; exact Kv.str (by decide)
    · rcases hy with rfl | rfl
      · rw [if_pos rfl]; show Ends (tellQ Bf (.str (S' "new")) _ _ [.str (S' "gone")] _) _ _; rw [tell_n h1 h2 n80]; exact e _ _ (E1.trans E2) rfl
      · rw [if_neg (by decide)]; show Ends (tellQ Bf (.str (S' "new")) _ _ [.str w, .str (S' "gone")] _) _ _; rw [tell_n h1 h2 (n81 hw)]; exact e _ _ (E1.trans E2) rfl
  have h9 : k = 9 := ((((hk.resolve_left d1).resolve_left d5).resolve_left d6).resolve_left d7).resolve_left d8
  subst h9
  refine w_st fun K nx => if1 rfl (fun hk => ?_) fun d9 => nx _ _ ?_
  · rw [w_cons, w_ret]
    refine tell14 G hb ok rfl lit_pure pr pr layL0 (last := .int (-1 - m)) (fun _ _ _ h => h) kt .int (fun _ h => by cases h) (by simp) (by simp) (by decide) fun H2 E2 => ?_
    rw [a90 h1 h2]
    exact e _ _ (E1.trans E2) rfl
  rw [w_cons, w_ret]
  refine bk_meth hM (by decide) (by decide) hb rfl ?_
  rw [xs_cons]
  exact pass_none G U14 rfl hb (i := 1 - m) (by omega) (e _ _ E1 rfl)
end
end Mine

end
section
open PySem PySem.W PyProof.Rows PySem.Spec PySem.SeqAt PySem.Calls
namespace Mine
open L14
set_option tactic.hygienic false in
theorem left14 {k : Int} (h0 : 0 ≤ k) (h1 : k < 15) (d1 : k ≠ 1) (d2 : k ≠ 2) (d3 : k ≠ 3) (d4 : k ≠ 4) (d5 : k ≠ 10) (d6 : k ≠ 11) (d7 : k ≠ 12) (d8 : k ≠ 13) (d9 : k ≠ 14) : k = 0 ∨ k = 5 ∨ k = 6 ∨ k = 7 ∨ k = 8 ∨ k = 9 := by
  obtain ⟨j, rfl⟩ := Int.eq_ofNat_of_zero_le h0
  have : ∀ j : Fin 15, ((j.val : Nat) : Int) ≠ 1 → ((j.val : Nat) : Int) ≠ 2 → ((j.val : Nat) : Int) ≠ 3 → ((j.val : Nat) : Int) ≠ 4 → ((j.val : Nat) : Int) ≠ 10 → ((j.val : Nat) : Int) ≠ 11 → ((j.val : Nat) : Int) ≠ 12 → ((j.val : Nat) : Int) ≠ 13 → ((j.val : Nat) : Int) ≠ 14 → ((j.val : Nat) : Int) = 0 ∨ ((j.val : Nat) : Int) = 5 ∨ ((j.val : Nat) : Int) = 6 ∨ ((j.val : Nat) : Int) = 7 ∨ ((j.val : Nat) : Int) = 8 ∨ ((j.val : Nat) : Int) = 9 := by decide
  exact this ⟨j, Int.ofNat_lt.mp h1⟩ d1 d2 d3 d4 d5 d6 d7 d8 d9
section
variable {c : Cx} (G : Gd c L14.P) {n : Nat} {Q : AV → AHeap → Prop} {E : String → AHeap → Prop} {H : AHeap} {b : Addr} {k y m : Int} {w : Str}
include G
set_option tactic.hygienic false in
theorem done14 (hb : H b = some (.book Bf)) (hk : 0 ≤ k) (hk2 : k < 15) (hy : y = 0 ∨ y = 1) (h1 : 1 ≤ m) (h2 : m ≤ 53) (h4 : k = 4 → 4 ≤ m) (hw : Zw w) (e : ∀ cl H', Ext H H' → cls14[k.toNat]? = some cl → E cl H') : CallOK c (n + 6) true "_law_done" [.ref b, .int k, .int y, .int m, .str w] Q E H := by
  refine G.call (F := L14.f__law_done) rfl rfl ?_
  have hM : c.P.meths = BK.meths := by rw [G.hP]; rfl
  have ok := okB_ok oF
  show wpSs _ _ _ _ _ [some (.ref b), some (.int k), some (.int y), some (.int m), some (.str w)] _
  have pr : ∀ {H}, Lays ⟨c, n + 5, true⟩ [some (.ref b), some (.int k), some (.int y), some (.int m), some (.str w)] (.list [.tuple [.lit (.str (Str.ofString "till")), .var 3]]) [(.str (S' "till"), .int m)] H := fun {H} => lay1 lit_pure (fun _ _ _ h => h) (Kv.str (by decide)) .int
  refine w_st fun K nx => if1 rfl (fun hk => ?_) fun d1 => nx _ _ ?_
  · subst hk
    rw [w_cons, w_ret]
    refine bk_meth hM (by decide) (by decide) hb rfl ?_
    rw [xs_cons, x_lit, xs_cons]
    refine pick2 (v1 := .int (1 - m)) (v2 := .int (10 ^ 30 + m)) (fun _ _ _ h => h) (fun _ _ _ h => ⟨⟨by decide, by decide, by decide⟩, h⟩) rfl hy fun H1 E1 => ?_
    rw [xs_nil]
    refine put_B G U14.a rfl (E1 _ _ hb) (Kv.str (by decide)).kn (by split <;> exact Kv.int.kn) ok.sz ?_
    rcases hy with rfl | rfl
    · rw [if_pos rfl, a10l h1 h2]; exact e _ _ E1 rfl
    · rw [if_neg (by decide), a10h h1 h2]; exact e _ _ E1 rfl
  refine w_st fun K nx => if2 rfl rfl (fun hk hy => ?_) fun _ => nx _ _ ?_
  · subst hk hy
    rw [w_cons, w_ret]
    refine bk_meth hM (by decide) (by decide) hb rfl ?_
    rw [xs_cons, x_lit, xs_nil]
    refine open_B G U14.a hb (Kv.str (by decide)).kn ok.sz ?_
    rw [a20]
    exact e _ _ .refl rfl
  refine w_st fun K nx => if1 rfl (fun hk => ?_) fun d2 => nx _ _ ?_
  · subst hk
    rw [w_cons, w_ret]
    refine tell14 (n := n + 1) G hb ok rfl lit_pure pr pr layL0 lit_pure (Kv.str (by decide)) .int (fun _ h => by cases h) (by simp) (by simp) (by decide) fun H2 E2 => ?_
    rw [a21]
    exact e _ _ E2 rfl
  refine w_st fun K nx => if2 rfl rfl (fun hk hy => ?_) fun _ => nx _ _ ?_
  · subst hk hy
    rw [w_cons, w_ret]
    refine bk_meth hM (by decide) (by decide) hb rfl ?_
    rw [xs_cons]
    refine put_B G U14.a (v := .str w) (a := .int m) rfl hb hw.kv.kn Kv.int.kn ok.sz ?_
    rw [a3 hw]
    exact e _ _ .refl rfl
  refine w_st fun K nx => if1 rfl (fun hk => ?_) fun d3 => nx _ _ ?_
  · subst hk
    rw [w_cons, w_ret]
    refine bk_meth hM (by decide) (by decide) hb rfl ?_
    rw [xs_cons]
    refine asideOf_B G U14.a (v := .str w) hb hw.kv.kn ok.both ?_
    rw [z_purse hw]
    exact e _ _ .refl rfl
  refine w_st fun K nx => if2 rfl rfl (fun hk hy => ?_) fun _ => nx _ _ ?_
  · subst hk hy
    rw [w_cons, w_ret]
    refine bk_meth hM (by decide) (by decide) hb rfl ?_
    rw [xs_cons]
    refine take_B G U14.a (v := .str (S' "till")) (a := .int (50 + m)) rfl hb (Kv.str (by decide)).kn Kv.int.kn ok.sz ?_
    rw [a4 h1 h2 (h4 rfl)]
    exact e _ _ .refl rfl
  refine w_st fun K nx => if1 rfl (fun hk => ?_) fun d4 => nx _ _ ?_
  · subst hk
    rw [w_cons, w_ret]
    refine aside14 (n := n + 1) G hb ok rfl lit_pure lit_pure (Kv.str (by decide)) (Kv.str (by decide)) ?_
    rw [a41]
    exact e _ _ .refl rfl
  refine w_st fun K nx => if2 rfl rfl (fun hk hy => ?_) fun _ => nx _ _ ?_
  · subst hk hy
    rw [w_cons, w_ret]
    refine bk_meth hM (by decide) (by decide) hb rfl ?_
    rw [xs_cons]
    refine off_B G U14 (w := .str w) rfl rfl rfl rfl rfl hb ok hw.kv ?_
    rw [a10 hw]
    exact e _ _ .refl rfl
  refine w_st fun K nx => if1 rfl (fun hk => ?_) fun d10 => nx _ _ ?_
  · subst hk
    rw [w_cons, w_ret]
    refine bk_meth hM (by decide) (by decide) hb rfl ?_
    rw [xs_cons]
    exact why_none G U14 (v := .str w) rfl hb hw.kv (z_pact hw) (e _ _ .refl rfl)
  refine w_st fun K nx => if1 rfl (fun hk => ?_) fun d11 => nx _ _ ?_
  · subst hk
    rw [w_cons, w_ret]
    refine bk_meth hM (by decide) (by decide) hb rfl ?_
    rw [xs_cons, x_lit, xs_cons]
    refine pick2 lit_pure lit_pure rfl hy fun H1 E1 => ?_
    rw [xs_nil]
    refine aside_B G U14 rfl rfl (E1 _ _ hb) (Kv.str (by decide)) (by split <;> exact Kv.str (by decide)) ok ?_
    rcases hy with rfl | rfl
    · rw [if_pos rfl, a110]; exact e _ _ E1 rfl
    · rw [if_neg (by decide), a111]; exact e _ _ E1 rfl
  refine w_st fun K nx => if1 rfl (fun hk => ?_) fun d12 => nx _ _ ?_
  · subst hk
    rw [w_cons, w_ret]
    refine aside14 (n := n + 1) G hb ok rfl lit_pure lit_pure (Kv.str (by decide)) (Kv.str (by decide)) ?_
    rw [a12]
    exact e _ _ .refl rfl
  refine w_st fun K nx => if1 rfl (fun hk => ?_) fun d13 => nx _ _ ?_
  · subst hk
    rw [w_cons, w_ret]
    refine aside14 (n := n + 1) G hb ok rfl lit_pure lit_pure (Kv.str (by decide)) (Kv.str (by decide)) ?_
    rw [a13]
    exact e _ _ .refl rfl
  refine w_st fun K nx => if1 rfl (fun hk => ?_) fun d14 => nx _ _ ?_
  · subst hk
    rw [w_cons, w_ret]
    refine bk_meth hM (by decide) (by decide) hb rfl ?_
    rw [xs_cons, x_lit, xs_cons]
    refine pick2 lit_pure lit_pure rfl hy fun H1 E1 => ?_
    rw [xs_nil]
    refine draw_B G U14 rfl rfl rfl (E1 _ _ hb) (Kv.str (by decide)) (by split <;> exact Kv.str (by decide)) ok ?_
    rcases hy with rfl | rfl
    · rw [if_pos rfl, a140]; exact e _ _ E1 rfl
    · rw [if_neg (by decide), a141]; exact e _ _ E1 rfl
  rw [w_cons, w_ret, x_call]
  exact told14 G hb (left14 hk hk2 d1 d2 d3 d4 d10 d11 d12 d13 d14) hy h1 h2 hw e
end
end Mine

end
section
open PySem PySem.W PyProof.Rows PySem.Spec PySem.SeqAt PySem.Calls
namespace Mine
open L14
section
variable {g : Gx} {V : VV} {QN : VV → AHeap → Prop} {QR : AV → AHeap → Prop} {E : String → VV → AHeap → Prop} {H : AHeap} {cl cc : String} {r : List Hd} {bd : List S}
set_option tactic.hygienic false in
theorem hs_hitv {P : Pg} {i : Nat} (hP : g.c.P = P) (h : excSub P cl cc = true) (q : ∀ a, H a = none → i < V.length ∧ wpSs { g with md := false } bd (fun V H => QN (V.set i none) H) QR (fun _ _ _ => False) (V.set i (some (.ref a))) (up H a (.exc cl))) : wpHs g (.mk cc (some i) bd :: r) cl QN QR E V H := by
  rw [hs_cons', h_mk', hP, h]; exact q
end
set_option tactic.hygienic false in
theorem layL4 {g : Gx} {V : VV} {H : AHeap} {e1 e2 e3 e4 : X} {v1 v2 v3 v4 : AV} (h1 : Pure g V e1 v1) (h2 : Pure g V e2 v2) (h3 : Pure g V e3 v3) (h4 : Pure g V e4 v4) : LaysL g V (.list [e1, e2, e3, e4]) [v1, v2, v3, v4] H := fun Q E H1 _ q => by
  rw [x_list, xs_cons]
  refine h1 _ _ _ ?_
  rw [xs_cons]
  refine h2 _ _ _ ?_
  rw [xs_cons]
  refine h3 _ _ _ ?_
  rw [xs_cons]
  refine h4 _ _ _ ?_
  rw [xs_nil]
  intro z hz
  exact q _ z (Ext.refl.new hz) up_same
noncomputable def st14 (v : AV) : AV := match pactV Bf v with
  | some e => .str e.2.state.str
  | none => .none
set_option tactic.hygienic false in
theorem st14_all : ((Bf.pacts.map fun e => AV.str e.name).filterMap fun v => some (st14 v)) = txs [S' "open", S' "open", S' "done", S' "fallen"] := by kernel_rfl
set_option tactic.hygienic false in
theorem st14_has : (Bf.pacts.map fun e => AV.str e.name).all (fun v => (pactV Bf v).isSome && match v with | .str s => decide (s.length < 100) | _ => false) = true := by kernel_rfl
set_option tactic.hygienic false in
theorem weq_ints {Q : AV → AHeap → Prop} {H : AHeap} {a b : Addr} (h : H a = some (.list [.int 53, .int 60, .int 7, .int 0])) (h' : H b = some (.list [.int 53, .int 60, .int 7, .int 0])) (q : Q (.bool true) H) : weq false (.ref a) (.ref b) Q H := by
  simp only [weq, isDictV, h]
  exact ⟨_, _, .list h (.cons (.int _) (.cons (.int _) (.cons (.int _) (.cons (.int _) .nil)))), .list h' (.cons (.int _) (.cons (.int _) (.cons (.int _) (.cons (.int _) .nil)))), ⟨by decide, by decide⟩, ⟨by decide, by decide⟩, q⟩
section
variable {c : Cx} (G : Gd c L14.P) {n : Nat} {Q : AV → AHeap → Prop} {E : String → AHeap → Prop} {H : AHeap} {sp b : Addr} {k y m : Int} {w : Str} {ns : List Int}
include G
set_option tactic.hygienic false in
theorem end14 {QN : VV → AHeap → Prop} {EE : String → VV → AHeap → Prop} {o4 : Option AV} (hb : H b = some (.book Bf)) (q : ∀ H', Q (.bool true) H') :
    wpSs ⟨c, n + 6, true⟩ (L14.f_law.body.drop 7) QN Q EE [some (.ref sp), some (.ref b), some (.int k), some (.int y), o4, some (.str w), some (.int k), none, none, none, none] H := by
  have hM : c.P.meths = BK.meths := by rw [G.hP]; rfl
  have ok := okB_ok oF
  show wpSs _ [_, _, _, _, _] _ _ _ _ _
  refine w_st fun K nx => ?_
  rw [w_asg, x_comp]
  refine ⟨rfl, ?_⟩
  refine bk_meth hM (by decide) (by decide) hb rfl ?_
  rw [xs_nil]
  refine told_B G U14.a hb (by decide) fun z hz => ?_
  have hbz : b ≠ z := fun e => by rw [← e, hb] at hz; cases hz
  refine wcomp_ext (xs := Bf.pacts.map fun e => .str e.name) (by simp only [itemsOf]; rw [up_same]) (by decide) (fun v => some (st14 v)) (fun x hx H1 E1 nx1 hn => ?_) fun s H1 E1 hs => ?_
  · have := List.all_eq_true.mp st14_has x hx
    rw [Bool.and_eq_true] at this
    rw [if_neg (by decide), xc_none, if_pos rfl]
    refine bk_meth hM (by decide) (by decide) (E1 _ _ (by rw [up_other hbz]; exact hb)) rfl ?_
    rw [xs_cons, x_var]
    show CallOK _ _ _ _ [.ref b, x] _ _ _
    have kx : Kv x := by
      cases x with
      | str s => exact Kv.str (Nat.lt_of_lt_of_le (of_decide_eq_true this.2) (by decide))
      | _ => cases this.2
    refine state_B G U14 rfl (E1 _ _ (by rw [up_other hbz]; exact hb)) kx ?_
    have hn' := hn _ .refl
    unfold st14 at hn'
    revert hn'
    cases hp : pactV Bf x with
    | none => rw [hp] at this; cases this.1
    | some e => exact fun hn' => hn'
  rw [st14_all]
  have hb : (up H1 s (.list (txs [S' "open", S' "open", S' "done", S' "fallen"]))) b = some (.book Bf) := by
    rw [up_other (fun e => by rw [← e, E1 b _ (by rw [up_other hbz]; exact hb)] at hs; cases hs)]
    exact E1 b _ (by rw [up_other hbz]; exact hb)
  have hst : (up H1 s (.list (txs [S' "open", S' "open", S' "done", S' "fallen"]))) s = some (.list (txs [S' "open", S' "open", S' "done", S' "fallen"])) := up_same
  generalize up H1 s _ = H2 at hb hst
  refine ⟨show 8 < 11 by decide, nx _ _ ?_⟩
  show wpSs _ _ _ _ _ [some (.ref sp), some (.ref b), some (.int k), some (.int y), o4, some (.str w), some (.int k), none, some (.ref s), none, none] _
  refine w_st fun K nx => ?_
  rw [w_ite, x_ao, ao_cons, x_cmp, x_var]
  show wpX _ (.list _) _ _ _ _
  refine layL4 lit_pure lit_pure lit_pure lit_pure _ _ _ .refl fun H3 z3 E3 hz3 => ?_
  rw [c_ner]
  refine weq_txs (l' := [S' "open", S' "open", S' "done", S' "fallen"]) (E3 _ _ hst) hz3 ?_
  rw [decide_eq_true rfl, t_bool, if_pos (by decide), ao_one, x_cmp]
  refine bk_meth hM (by decide) (by decide) (E3 _ _ hb) rfl ?_
  rw [xs_nil]
  refine told_B G U14.a (E3 _ _ hb) (by decide) fun z4 hz4 => ?_
  refine layL4 lit_pure lit_pure lit_pure lit_pure _ _ _ .refl fun H5 z5 E5 hz5 => ?_
  rw [c_ner]
  refine weq_txs (l := [S' "one", S' "two", S' "paid", S' "gone"]) (l' := [S' "one", S' "two", S' "paid", S' "gone"]) (E5 _ _ up_same) hz5 ?_
  rw [decide_eq_true rfl, t_bool]
  have hb5 := E5 _ _ (Ext.refl.new (o := .list (Bf.pacts.map fun e => .str e.name)) hz4 _ _ (E3 _ _ hb))
  refine nx _ _ ?_
  refine w_st fun K nx => ?_
  rw [w_asg]
  refine layL4 lit_pure lit_pure lit_pure lit_pure _ _ _ .refl fun H6 z6 E6 hz6 => ?_
  refine ⟨show 9 < 11 by decide, nx _ _ ?_⟩
  show wpSs _ _ _ _ _ [some (.ref sp), some (.ref b), some (.int k), some (.int y), o4, some (.str w), some (.int k), none, some (.ref s), some (.ref z6), none] _
  have hb6 := E6 _ _ hb5
  refine w_st fun K nx => ?_
  rw [w_asg, x_list, xs_cons]
  have ks : ∀ {x : String}, (S' x).length < 2 ^ 62 → Kn H6 (.str (S' x)) := fun h => (Kv.str h).kn
  refine bk_meth hM (by decide) (by decide) hb6 rfl ?_
  rw [xs_cons, x_lit, xs_nil]
  refine freeOf_B G U14.a hb6 (ks (by decide)) ?_
  rw [if_pos (by kernel_rfl), xs_cons]
  refine bk_meth hM (by decide) (by decide) hb6 rfl ?_
  rw [xs_cons, x_lit, xs_nil]
  refine freeOf_B G U14.a hb6 (ks (by decide)) ?_
  rw [if_pos (by kernel_rfl), xs_cons]
  refine bk_meth hM (by decide) (by decide) hb6 rfl ?_
  rw [xs_cons, x_lit, xs_nil]
  refine asideOf_B G U14.a hb6 (ks (by decide)) ok.both ?_
  rw [if_pos (by kernel_rfl), xs_cons]
  refine bk_meth hM (by decide) (by decide) hb6 rfl ?_
  rw [xs_cons, x_lit, xs_nil]
  refine asideOf_B G U14.a hb6 (ks (by decide)) ok.both ?_
  rw [if_pos (by kernel_rfl), xs_nil]
  intro z7 hz7
  refine ⟨show 10 < 11 by decide, nx _ _ ?_⟩
  show wpSs _ _ _ _ _ [some (.ref sp), some (.ref b), some (.int k), some (.int y), o4, some (.str w), some (.int k), none, some (.ref s), some (.ref z6), some (.ref z7)] _
  have hz7' : (up H6 z7 (.list [.int (freeOf Bf (.str (S' "till"))), .int (freeOf Bf (.str (S' "quay"))), .int (asideOf Bf (.str (S' "till"))), .int (asideOf Bf (.str (S' "quay")))])) z7 = some (.list [.int 53, .int 60, .int 7, .int 0]) := by rw [up_same]; kernel_rfl
  have E7 := Ext.refl.new (o := .list [.int (freeOf Bf (.str (S' "till"))), .int (freeOf Bf (.str (S' "quay"))), .int (asideOf Bf (.str (S' "till"))), .int (asideOf Bf (.str (S' "quay")))]) hz7
  have hb7 := E7 _ _ hb6
  have hz6 := E7 _ _ hz6
  generalize up H6 z7 _ = H7 at hb7 hz6 hz7'
  rw [w_cons, w_ret, x_ao, ao_cons, x_cmp, x_var]
  show wpX _ (.var 2) _ _ _ _
  rw [x_var]
  show wcmp .Eq (.int k) (.int k) _ _
  rw [c_eq, beq_self_eq_true, t_bool, if_pos rfl, ao_cons, x_cmp, x_var]
  show wpX _ (.var 9) _ _ _ _
  rw [x_var]
  show wcmp .Eq (.ref z7) (.ref z6) _ _
  rw [c_eqr]
  refine weq_ints hz7' hz6 ?_
  rw [t_bool, if_pos rfl, ao_cons, x_cmp, x_attr, x_var]
  show (match H7 b with | some (.inst cl es) => _ | some (.book B) => _ | _ => False)
  rw [hb7]
  refine ⟨rfl, by rw [G.hP]; rfl, ?_⟩
  rw [x_lit, c_eq, t_bool, if_pos (by decide), ao_one, x_cmp]
  refine bk_meth hM (by decide) (by decide) hb7 rfl ?_
  rw [xs_nil]
  refine purses_B G U14.a hb7 ok.sz fun z8 hz8 => ?_
  refine layL2 lit_pure lit_pure _ _ _ .refl fun H9 z9 E9 hz9 => ?_
  rw [c_eqr]
  refine weq_txs (l := [S' "till", S' "quay"]) (l' := [S' "till", S' "quay"]) (E9 _ _ up_same) hz9 ?_
  rw [decide_eq_true rfl]
  exact q _
set_option tactic.hygienic false in
theorem law14_ok (hsp : H sp = some (.script ns)) (hl : ns.length ≤ 63) : CallOK c (n + 7) true "law" [.ref sp] (fun v _ => v = .bool true) (fun _ _ => False) H := by
  refine G.call (F := L14.f_law) rfl rfl ?_
  have hl' : ns.length < 2 ^ 62 := Nat.lt_of_le_of_lt hl (by decide)
  show wpSs _ (_ :: _ :: _ :: _ :: _ :: _ :: _ :: L14.f_law.body.drop 7) _ _ _ [some (.ref sp), none, none, none, none, none, none, none, none, none, none] _
  refine w_st fun K nx => ?_
  rw [w_asg, x_call, xs_nil]
  refine book14 (n := n + 1) G fun b H1 hb0 hb k1 => ⟨show 1 < 11 by decide, nx _ _ ?_⟩
  have hs1 : H1 sp = some (.script ns) := k1 sp _ (fun e => by rw [← e, hsp] at hb0; cases hb0) hsp
  have cel : ∀ {k : Int} {Q : AV → AHeap → Prop} {E : String → AHeap → Prop}, 0 ≤ k → Q (.int (cell ns k.toNat)) H1 → CallOK c (n + 6) true "_law_cell_at" [.ref sp, .int k] Q E H1 := fun h q => cell_ok G rfl h hs1 hl' q
  refine w_st fun K nx => ?_
  rw [w_asg, x_bin, x_call]
  refine cel (by decide) ?_
  refine ⟨by decide, show 2 < 11 by decide, nx _ _ ?_⟩
  refine w_st fun K nx => ?_
  rw [w_asg, x_bin, x_bin, x_call]
  refine cel (by decide) ?_
  refine ⟨by decide, by decide, show 3 < 11 by decide, nx _ _ ?_⟩
  refine w_st fun K nx => ?_
  rw [w_asg, x_bin, x_lit, x_bin, x_call]
  refine cel (by decide) ?_
  refine ⟨by decide, show 4 < 11 by decide, nx _ _ ?_⟩
  refine w_st fun K nx => ?_
  rw [w_asg, x_call, xs_cons, x_call]
  refine cel (by decide) ?_
  rw [xs_nil]
  refine strange_ok (n := n + 5) G fun H2 w E2 hw => ⟨show 5 < 11 by decide, nx _ _ ?_⟩
  refine w_st fun K nx => ?_
  rw [w_asg]
  refine ⟨show 6 < 11 by decide, nx _ _ ?_⟩
  have hb2 := E2 _ _ hb
  have k0 : 0 ≤ (cell ns 0).fmod 15 := fmod_lo (by omega)
  have k1 : (cell ns 0).fmod 15 < 15 := fmod_hi (by omega)
  have y0 : 0 ≤ ((cell ns 0).fdiv 15).fmod 2 := fmod_lo (by omega)
  have y1 : ((cell ns 0).fdiv 15).fmod 2 < 2 := fmod_hi (by omega)
  have m0 : 0 ≤ (cell ns 1).fmod 50 := fmod_lo (by omega)
  have m1 : (cell ns 1).fmod 50 < 50 := fmod_hi (by omega)
  show wpSs _ _ _ _ _ [some (.ref sp), some (.ref b), some (.int ((cell ns 0).fmod 15)), some (.int (((cell ns 0).fdiv 15).fmod 2)), some (.int (1 + (cell ns 1).fmod 50)), some (.str w), some (.int (-1)), none, none, none, none] _
  generalize (cell ns 0).fmod 15 = k at k0 k1
  generalize ((cell ns 0).fdiv 15).fmod 2 = y at y0 y1
  generalize (cell ns 1).fmod 50 = m at m0 m1
  refine w_st fun K nx => ?_
  rw [s_try']
  refine ⟨rfl, ?_⟩
  rw [w_cons, s_expr', x_call]
  show IntMulOk 3 (if (k == 4) = true then 1 else 0) ∧ CallOK c (n + 6) true "_law_done" [.ref b, .int k, .int y, .int (1 + m + 3 * (if (k == 4) = true then 1 else 0)), .str w] _ _ _
  refine ⟨IntMulOk.of_left (by decide +kernel), ?_⟩
  refine done14 G hb2 k0 k1 (by omega) (by split <;> omega) (by split <;> omega) (fun h => by rw [if_pos (beq_iff_eq.mpr h)]; omega) hw fun cl H3 E3 hc => ?_
  refine hs_hitv (P := L14.P) G.hP (chk14_at hc).2.2.2.2 fun a ha => ⟨show 7 < 11 by decide, ?_⟩
  rw [w_cons, w_asg, x_call]
  refine class_ok (n := n + 5) G hc up_same fun H4 E4 => ⟨show 6 < 11 by decide, nx _ _ ?_⟩
  have hb4 := E4 _ _ ((Ext.refl.new ha) _ _ (E3 _ _ hb2))
  show wpSs _ _ _ _ _ [some (.ref sp), some (.ref b), some (.int k), some (.int y), some (.int (1 + m)), some (.str w), some (.int (k.toNat : Int)), none, none, none, none] _
  rw [Int.toNat_of_nonneg k0]
  exact end14 G hb4 fun _ => rfl
end
end Mine

end
namespace Mine.L14
theorem law_ok {c : Cx} (G : Gd c P) {n : Nat} {H : AHeap} {sp : Addr} {ns : List Int} (h : H sp = some (.script ns)) (hl : ns.length ≤ 63) : CallOK c (n + 7) true "law" [.ref sp] (fun v _ => v = .bool true) (fun _ _ => False) H := law14_ok G h hl
end Mine.L14
namespace Mine.L14
noncomputable def view : Program := PySem.W.view PySem.Challenge.pw_uf020038_14 [43]
noncomputable def loose : List Str := [Str.ofString "_wall", Str.ofString "__name__", Str.ofString "BookError", Str.ofString "NoName", Str.ofString "NoAmount", Str.ofString "Taken", Str.ofString "NoPurse", Str.ofString "TooLittle", Str.ofString "NoRow", Str.ofString "Twice", Str.ofString "Uneven", Str.ofString "Fallen", Str.ofString "NoDay", Str.ofString "NoPact", Str.ofString "NotOpen", Str.ofString "NoPart", Str.ofString "Already", Str.ofString "NotAside", Str.ofString "Pact", Str.ofString "are_met", Str.ofString "table_of", Str.ofString "greatest", Str.ofString "chain", Str.ofString "LETTERS", Str.ofString "MOST_SIGNS", Str.ofString "MOST_AMOUNT", Str.ofString "is_whole", Str.ofString "is_name", Str.ofString "name_of", Str.ofString "amount_of", Str.ofString "MOST", Str.ofString "Book", Str.ofString "_law_cell_at", Str.ofString "_law_strange", Str.ofString "_law_told", Str.ofString "_law_done", Str.ofString "_law_class", Str.ofString "_law_book"]
noncomputable def hook : Hook := mineHook P (3 :: (List.range 559).drop 11)
theorem left : LeftO PySem.Challenge.pw_uf020038_14 view loose (fun s => xlAt view [] s && recOk [] s) hook.obs hook.val 30000 true :=
  left_of mineHook_T (m₀ := 11) (ann := some (.ref 6)) rfl rfl (fun s => rfl) (fun w => by kernel_rfl) (fun w os => by kernel_rfl)
end Mine.L14
open PySem.W.X in
set_option maxHeartbeats 0 in
theorem PySem.Challenge.cw_uf020038_14_holds : PySem.Challenge.rw_uf020038_14.Holds := by
  w_on
  refine holds_law (by decide +kernel) fun said => ?_
  refine holds_open (q := Mine.L14.view) (loose := Mine.L14.loose) (Xt := fun s => xlAt Mine.L14.view [] s && recOk [] s) (XP := XL Mine.L14.view []) (Yf := Mine.L14.hook.obs) (Ya := Mine.L14.hook.val) (YP := Mine.L14.hook.says) (N := 30000) Mine.L14.left Mine.L14.hook.of Mine.L14.hook.keeps (fun s e => xl_of s (Bool.and_eq_true_iff.mp e).1) XL.keeps (by rfl) (by rfl) (by rfl) (fun s e => recFacts_of (Bool.and_eq_true_iff.mp e).2) (by rfl) (by first | assumption | decide +kernel) (by decide +kernel) ⟨rfl, rfl, rfl, rfl, rfl, by decide +kernel⟩ ?hw ?hc
  case hw => w_witness2
  case hc =>
    intro w s₀ s₁ mg mb G Y fa o pm cd doc dV kV ho hd hcd hD hmg hg args vals as hpre hlay hrd hwl hlo
    obtain ⟨K, KX, hok⟩ := Y
    clear ho hd hcd hD
    refine Ground.open G ?_
    intro T B D TE TW
    wrow_args hpre hlay hrd hwl hlo
    clear G B D TE TW
    have hseer := T.seer (by decide +kernel)
    refine Mine.enter (P := Mine.L14.P) (n := 7) (by decide) KX T hseer (by rfl) rfl hmg hok (by rfl) (Mine.script_get (by assumption) (by assumption)) (by assumption) ?mineC ?mineQ
    case mineC =>
      intro c hP C PO FO
      exact Mine.L14.law_ok (n := 0) ⟨hP, ⟨_, _, C⟩, PO, FO⟩ Mine.scriptH_at (by omega)
    case mineQ =>
      intro s' st ho hgn
      exact GoodW.toG ⟨.inl ⟨.bool true, .bool true, [], rfl, fun _ => rfl, .bool true, by kernel_rfl, fun _ => ⟨List.nodup_nil, fun a ha => by cases ha⟩⟩, st, ho, hgn.trans hg⟩


#print axioms PySem.Challenge.cw_uf020038_14_holds
